import PyProof.Rows.All
import Wide.All
import OpenK.AllK
import Wide.FinOn
import HandS.Base
import HandS.ForMost
import HandS.Wide
import HandS.TupAny
import HandS.TupMul
import HandS.Style
import HandS.WideBits
import HandS.Deep
import KE.LtData
import KE.SortData
import KE.KTupSum
import KE.DataMinMax
import HandS.IsInst
import HandS.Text
import HandS.Exc
import KE.GoesMore
import PyProof.EnumMake
import HandS.Zip
import HandS.Iter
import HandS.Sort
import HandS.Comp
import HandS.TryMany
import HandS.TryOnly
import HandS.ExcOwn
import HandS.ExcIs
import HandS.Defaults
import KE.KStateDown
import HandS.Ends
import HandS.More
import HandS.Head0
import HandS.Head1
import HandS.Head2
import HandS.HeadEnd
import HandS.HeadHook1
import HandS.HeadHook2
import PySem.Challenge.RW_risesonce_k82_whole_even_chains
set_option Elab.async false
set_option linter.all false
set_option maxRecDepth 100000
namespace Ri
open PySem

/-- deep values: lst is a list that nobody changes any more; ref n the n-th list (or dict) of the store; scr the script -/
inductive D where
  | non | bl (b : Bool) | int (i : Int) | str (x : Str)
  | tup (l : List D) | lst (l : List D) | scr (l : List Int)
  | ref (n : Nat) | rng (lo hi : Int)
  deriving Inhabited
inductive SO where
  | lst (l : List D)
  | dic (l : List (Int × D))
abbrev Sto := List SO
inductive R (α : Type) where
  | ok (a : α) (S : Sto)
  | ex (c : Nat) (d : D) (S : Sto)
  | bad
abbrev M (α : Type) := Sto → R α
def ret {α : Type} (a : α) : M α := fun S => .ok a S
def bnd {α β : Type} (x : M α) (f : α → M β) : M β := fun S => match x S with
  | .ok a S' => f a S'
  | .ex c d S' => .ex c d S'
  | .bad => .bad
def bad {α : Type} : M α := fun _ => .bad
def ofO {α : Type} : Option α → M α
  | some a => ret a
  | none => bad

structure Env where
  bs : List Nat
  v : List (Option D)

inductive Op where
  | add | sub | mul | fdiv | mod | pow
inductive Cm where
  | eq | ne | lt | le | gt | ge | is | isn | isin | nin
inductive Ty where
  | int | bool | tuple | str | list
inductive P where
  | len | sum | max1 | max2 | min1 | min2 | abs | all | any | tuple | list | sorted | sortedSet | lenSet | isi (t : Ty) | int | str | repr
inductive Me where
  | append | extend | pop | popAt | count | index | dget
inductive T where
  | nm (i : Nat)
  | tp (is : List Nat)
mutual
inductive E where
  | var (i : Nat) | cst (d : D) | glo (g : Nat)
  | bin (o : Op) (a b : E) | neg (a : E)
  | cmp (o : Cm) (a b : E) | chn (o p : Cm) (a b c : E) | chn3 (o p q : Cm) (a b c d : E)
  | andN (es : Es) | orN (es : Es) | not (a : E)
  | ite (c a b : E)
  | tup (es : Es) | ls (es : Es) | mk (e : EL)
  | call (f : Nat) (es : Es) | pri (p : P) (es : Es) | meth (m : Me) (o : E) (es : Es)
  | idx (a b : E) | sli (a : E) (lo hi : Eo) | rev (a : E) | revT (a : E) | rng1 (a : E)
  | lc (c : EC)
  | dic0
  | nev
inductive Es where
  | nil | cons (e : E) (r : Es)
inductive Eo where
  | none | some (e : E)
inductive EL where
  | ls (es : Es) | cat (a b : E) | rep (a b : E) | lc (c : EC) | listOf (e : E)
inductive EC where
  | c1 (elt : E) (t : T) (it : I) (c : Eo)
  | c2 (elt : E) (t : T) (it : I) (c : Eo) (t2 : T) (it2 : I) (c2 : Eo)
inductive I where
  | seq (e : E) | rv (e : E) | rg1 (a : E) | rg2 (a b : E) | rg3 (a b : E) (k : Int) | enum (e : E) | zip (a b : E)
end
inductive HB where
  | retS (d : D)
  | retIs (yes no : D) (c : Nat)
  | retReason (no : D) (c : Nat)
  | retWrap (pre post : Str)
structure Hd where
  cls : Nat
  slot : Option Nat
  body : HB
mutual
inductive Tg where
  | nm (i : Nat) | ix (o i : E) | tp (ts : Tgs)
inductive Tgs where
  | nil | cons (t : Tg) (r : Tgs)
end
mutual
inductive S where
  | asg (t : Tg) (e : E)
  | aug (i : Nat) (o : Op) (e : E)
  | augI (o i : E) (p : Op) (e : E)
  | ex (e : E) | ret (e : E) | retN
  | iff (c : E) (a b : Ss)
  | fr (t : T) (it : I) (b : Ss)
  | wh (c : E) (b : Ss)
  | brk | cnt | pas
  | rai (c : Nat) (arg : D)
  | tri (b : Ss) (hs : List Hd)
  | nev
inductive Ss where
  | nil | cons (s : S) (r : Ss)
end

def BIG : Nat := 2 ^ 4000
def smlN (n : Nat) : Bool := Nat.ble n BIG
def sml (i : Int) : Bool := smlN i.natAbs
def LIM : Nat := 1000000
def limL {α : Type} (l : List α) : Bool := Nat.ble l.length LIM
def okR (i : Int) : Bool := Nat.ble i.natAbs 1000000000

def stoL (S : Sto) (n : Nat) : Option (List D) := match S[n]? with
  | some (.lst l) => some l
  | _ => none
def stoD (S : Sto) (n : Nat) : Option (List (Int × D)) := match S[n]? with
  | some (.dic l) => some l
  | _ => none
/-- a list's items -/
def lstOf (S : Sto) : D → Option (List D)
  | .lst l => some l
  | .ref n => stoL S n
  | _ => none
/-- a list's or a tuple's items -/
def seqOf (S : Sto) : D → Option (List D)
  | .lst l => some l
  | .tup l => some l
  | .ref n => stoL S n
  | _ => none
def intsOf : List D → Option (List Int)
  | [] => some []
  | .int i :: r => (intsOf r).map (i :: ·)
  | _ :: _ => none
def blsOf : List D → Option (List Bool)
  | [] => some []
  | .bl b :: r => (blsOf r).map (b :: ·)
  | _ :: _ => none

def okS (x : Str) : Bool := x.cps.toList.all fun c => Nat.blt c 1114112
mutual
def depD : D → Nat
  | .tup l => depL l + 1
  | .lst l => depL l + 1
  | _ => 0
  termination_by structural d => d
def depL : List D → Nat
  | [] => 0
  | x :: r => Nat.max (depD x) (depL r)
  termination_by structural d => d
end
mutual
/-- data alone: none, bools, ints, texts, tuples, lists that stand still -/
def isDt : D → Bool
  | .non => true
  | .bl _ => true
  | .int _ => true
  | .str x => okS x
  | .tup l => isDts l
  | .lst l => isDts l
  | _ => false
  termination_by structural d => d
def isDts : List D → Bool
  | [] => true
  | x :: r => isDt x && isDts r
  termination_by structural d => d
end
mutual
def eqD : D → D → Bool
  | .non, .non => true
  | .bl a, .bl b => a == b
  | .bl a, .int j => (if a then 1 else 0) == j
  | .int i, .bl b => i == (if b then 1 else 0)
  | .int i, .int j => i == j
  | .str x, .str y => x == y
  | .lst xs, .lst ys => eqDs xs ys
  | .tup xs, .tup ys => eqDs xs ys
  | _, _ => false
  termination_by structural d => d
def eqDs : List D → List D → Bool
  | [], [] => true
  | x :: xs, y :: ys => eqD x y && eqDs xs ys
  | _, _ => false
  termination_by structural d => d
end
def small (x : D) : Bool := isDt x && Nat.ble (depD x) 60
/-- a list of the store as it stands, as data -/
def view (S : Sto) : D → D
  | .ref n => match stoL S n with
    | some l => .lst l
    | none => .ref n
  | d => d
def eqq (S : Sto) (a b : D) : Option Bool :=
  let x := view S a
  let y := view S b
  if small x && small y then some (eqD x y) else none

mutual
def alk : D → D → Bool
  | .int _, .int _ => true
  | .str _, .str _ => true
  | .tup xs, .tup ys => alks xs ys
  | _, _ => false
  termination_by structural d => d
def alks : List D → List D → Bool
  | x :: xs, y :: ys => alk x y && alks xs ys
  | [], _ => true
  | _ :: _, [] => true
  termination_by structural d => d
end
mutual
def ltD : D → D → Bool
  | .int i, .int j => decide (i < j)
  | .str x, .str y => decide (x.cps.toList < y.cps.toList)
  | .tup xs, .tup ys => ltDs xs ys
  | _, _ => false
  termination_by structural d => d
def ltDs : List D → List D → Bool
  | x :: xs, y :: ys => if eqD x y then ltDs xs ys else ltD x y
  | [], _ :: _ => true
  | _, _ => false
  termination_by structural d => d
end

def inD (S : Sto) (a b : D) : Option Bool := match view S b with
  | .tup l => if small a && small (.tup l) then some (l.any fun z => eqD z a) else none
  | .lst l => if small a && small (.lst l) then some (l.any fun z => eqD z a) else none
  | _ => none
def isD (a b : D) : Option Bool := match a, b with
  | .bl x, .bl y => some (x == y)
  | x, .non => some (match x with | .non => true | _ => false)
  | _, _ => none
def intB (f : Int → Int → Bool) (a b : D) : Option Bool := match a, b with
  | .int i, .int j => some (f i j)
  | _, _ => none
def ltQ (a b : D) : Option Bool := match a, b with
  | .int i, .int j => some (decide (i < j))
  | x, y => if alk x y && small x && small y then some (ltD x y) else none
def cmpD (S : Sto) (o : Cm) (a b : D) : Option Bool := match o with
  | .eq => eqq S a b
  | .ne => (eqq S a b).map (!·)
  | .is => isD a b
  | .isn => (isD a b).map (!·)
  | .lt => ltQ a b
  | .le => intB (fun i j => decide (i ≤ j)) a b
  | .gt => intB (fun i j => decide (j < i)) a b
  | .ge => intB (fun i j => decide (j ≤ i)) a b
  | .isin => inD S a b
  | .nin => (inD S a b).map (!·)

def repL {α : Type} (l : List α) : Nat → List α
  | 0 => []
  | n + 1 => l ++ repL l n
def catL (S : Sto) (x y : D) : Option (List D) := match lstOf S x, lstOf S y with
  | some p, some q => if Nat.ble (p.length + q.length) LIM then some (p ++ q) else none
  | _, _ => none
def repM (S : Sto) (x : D) (j : Int) : Option (List D) := match lstOf S x with
  | some p => if Nat.ble (p.length * j.toNat) LIM && okR j then some (repL p j.toNat) else none
  | none => none
def addD (S : Sto) (a b : D) : Option D := match a, b with
  | .int i, .int j => some (.int (i + j))
  | .tup x, .tup y => if Nat.ble (x.length + y.length) LIM then some (.tup (x ++ y)) else none
  | .str x, .str y => if Nat.ble (x.length + y.length) LIM then some (.str (x ++ y)) else none
  | x, y => (catL S x y).map .lst
def mulD (S : Sto) (a b : D) : Option D := match a, b with
  | .int i, .int j => if sml i && sml j then some (.int (i * j)) else none
  | .tup x, .int j => if j == 1 then some (.tup x) else if Nat.ble 1 x.length && Nat.ble x.length 1000 && decide (2 ≤ j) && decide (j ≤ 1000) then some (.tup (repL x j.toNat)) else none
  | x, .int j => (repM S x j).map .lst
  | _, _ => none
def intI (f : Int → Int → Option Int) (a b : D) : Option D := match a, b with
  | .int i, .int j => (f i j).map .int
  | _, _ => none
def arith (S : Sto) (o : Op) (a b : D) : Option D := match o with
  | .add => addD S a b
  | .sub => intI (fun i j => some (i - j)) a b
  | .mul => mulD S a b
  | .fdiv => intI (fun i j => if j != 0 && sml j then some (i.fdiv j) else none) a b
  | .mod => intI (fun i j => if j != 0 then some (i.fmod j) else none) a b
  | .pow => intI (fun i j => if decide (0 ≤ j) && decide (j ≤ 100) && Nat.ble i.natAbs 1000 then some (i ^ j.toNat) else none) a b

/-- in place, ints alone -/
def augD (o : Op) (a b : D) : Option D := match a, b with
  | .int i, .int j => (match o with
    | .add => some (.int (i + j))
    | .sub => some (.int (i - j))
    | .mul => if sml i && sml j then some (.int (i * j)) else none
    | _ => none)
  | _, _ => none
/-- the truth of a value -/
def truD (S : Sto) : D → Option Bool
  | .non => some false
  | .bl b => some b
  | .int i => some (i != 0)
  | .str x => if Nat.ble x.length LIM then some ((x.length : Int) != 0) else none
  | .tup l => some !l.isEmpty
  | .lst l => some !l.isEmpty
  | .ref n => (stoL S n).map fun l => !l.isEmpty
  | _ => none

def ixA {α : Type} (l : List α) (i : Int) : Option α := match i with
  | .ofNat n => l[n]?
  | .negSucc n => if Nat.ble (n + 1) l.length then l[l.length - (n + 1)]? else none
def ixNat (n : Nat) (i : Int) : Option Nat := match i with
  | .ofNat k => if Nat.blt k n then some k else none
  | .negSucc k => if Nat.ble (k + 1) n then some (n - (k + 1)) else none
def idxD (S : Sto) (a b : D) : Option D := match a, b with
  | .str x, .int i => if Nat.ble x.length LIM then (ixA x.cps.toList i).map fun c => .str ⟨#[c]⟩ else none
  | x, .int i => (match seqOf S x with
    | some l => ixA l i
    | none => none)
  | _, _ => none
def clip (n : Nat) (d : Nat) : Option Int → Nat
  | none => d
  | some (.ofNat k) => Nat.min k n
  | some (.negSucc k) => n - (k + 1)
def cut {α : Type} (l : List α) (lo hi : Option Int) : List α :=
  let a := clip l.length 0 lo
  let b := clip l.length l.length hi
  (l.drop a).take (b - a)
def sliD (S : Sto) (a : D) (lo hi : Option Int) : Option D := match a with
  | .tup l => some (.tup (cut l lo hi))
  | .str x => if Nat.ble x.length LIM then some (.str ⟨(cut x.cps.toList lo hi).toArray⟩) else none
  | x => (match lstOf S x with
    | some l => some (.lst (cut l lo hi))
    | none => none)
def revD (S : Sto) (a : D) : Option D := match lstOf S a with
  | some l => some (.lst l.reverse)
  | none => none

def insD (x : D) : List D → List D
  | [] => [x]
  | y :: r => if ltD y x then y :: insD x r else x :: y :: r
def sortD : List D → List D
  | [] => []
  | x :: r => insD x (sortD r)
def alkAll (l : List D) : Bool := match l with
  | [] => true
  | x :: r => alk x x && r.all (alk x) && alkAll r
def noEmp (l : List D) : Bool := l.all fun d => match d with | .tup [] => false | .tup _ => true | _ => false
def noTup (l : List D) : Bool := l.all fun d => match d with | .tup _ => false | .non => false | _ => true
def canSort (l : List D) : Bool := isDts l && alkAll l && (noEmp l || noTup l) && Nat.ble (depL l) 60 && limL l
def nubD : List D → List D
  | [] => []
  | x :: r => let t := nubD r; if t.any (eqD x) then t else x :: t
def maxI (a : Int) (l : List Int) : Int := l.foldl max a
def minI (a : Int) (l : List Int) : Int := l.foldl min a
def isTy (t : Ty) (d : D) : Option Bool := match t, d with
  | .int, .int _ => some true | .int, .bl _ => some true | .int, .non => some false | .int, .str _ => some false | .int, .tup _ => some false | .int, .lst _ => some false
  | .bool, .bl _ => some true | .bool, .int _ => some false | .bool, .non => some false | .bool, .str _ => some false | .bool, .tup _ => some false | .bool, .lst _ => some false
  | .tuple, .tup _ => some true | .tuple, .int _ => some false | .tuple, .bl _ => some false | .tuple, .non => some false | .tuple, .str _ => some false | .tuple, .lst _ => some false
  | .str, .str _ => some true | .str, .int _ => some false | .str, .bl _ => some false | .str, .non => some false | .str, .tup _ => some false | .str, .lst _ => some false
  | .list, .lst _ => some true | .list, .int _ => some false | .list, .bl _ => some false | .list, .non => some false | .list, .tup _ => some false | .list, .str _ => some false
  | _, _ => none
def b2i (b : Bool) : Int := if b then 1 else 0
def absD : D → Option D
  | .int i => some (.int (if i < 0 then -i else i))
  | _ => none
def intD : D → Option D
  | .int i => some (.int i)
  | .bl b => some (.int (b2i b))
  | _ => none
def lenD (S : Sto) : D → Option D
  | .str x => if Nat.ble x.length LIM then some (.int x.length) else none
  | d => (seqOf S d).map fun l => .int l.length
def headI (f : Int → List Int → Int) : Option (List Int) → Option D
  | some (a :: r) => some (.int (f a r))
  | _ => none
def sortedD (S : Sto) (d : D) : Option D := match seqOf S d with
  | some l => if canSort l then some (.lst (sortD l)) else none
  | none => none
def prim1 (S : Sto) (p : P) (d : D) : Option D := match p with
  | .len => lenD S d
  | .sum => ((seqOf S d).bind intsOf).map fun l => .int l.sum
  | .max1 => headI maxI ((seqOf S d).bind intsOf)
  | .min1 => headI minI ((seqOf S d).bind intsOf)
  | .abs => absD d
  | .all => ((lstOf S d).bind blsOf).map fun l => .bl (l.all id)
  | .any => ((lstOf S d).bind blsOf).map fun l => .bl (l.any id)
  | .tuple => (seqOf S d).map .tup
  | .list => (seqOf S d).map .lst
  | .sorted => sortedD S d
  | .isi t => (isTy t (view S d)).map .bl
  | .int => intD d
  | _ => none
def prim2 (p : P) (x y : D) : Option D := match x, y with
  | .int i, .int j => (match p with
    | .max2 => some (.int (if j > i then j else i))
    | .min2 => some (.int (if j < i then j else i))
    | _ => none)
  | _, _ => none
def prim (S : Sto) (p : P) (ds : List D) : Option D := match ds with
  | [d] => prim1 S p d
  | [x, y] => prim2 p x y
  | _ => none

mutual
def refB (b : Nat) : D → Bool
  | .ref n => Nat.blt n b
  | .tup l => refBs b l
  | .lst l => refBs b l
  | _ => true
  termination_by structural d => d
def refBs (b : Nat) : List D → Bool
  | [] => true
  | x :: r => refB b x && refBs b r
  termination_by structural d => d
end
def okPut (bs : List Nat) (n : Nat) (d : D) : Bool := match d with
  | .int _ => true
  | .bl _ => true
  | .non => true
  | .str _ => true
  | d => refB 0 d || bs.all fun b => Nat.ble b n || refB b d
def putS (bs : List Nat) (n : Nat) (l : List D) (d : D) : M Unit := fun S => if okPut bs n d && limL l then .ok () (S.set n (.lst l)) else .bad

def dGet (k : Int) : List (Int × D) → Option D
  | [] => none
  | (j, d) :: r => if j == k then some d else dGet k r
def dPut (k : Int) (d : D) : List (Int × D) → List (Int × D)
  | [] => [(k, d)]
  | (j, e) :: r => if j == k then (j, d) :: r else (j, e) :: dPut k d r

/-- o[i] = d -/
def setI (bs : List Nat) (o i d : D) : M Unit := fun S => match o, i with
  | .ref n, .int k => (match stoL S n with
    | some l => (match ixNat l.length k with
      | some j => putS bs n (l.set j d) d S
      | none => .bad)
    | none => .bad)
  | _, _ => .bad
def getI (o i : D) : M D := fun S => ofO (idxD S o i) S
def getR (o i : D) : M D := fun S => match o, i with
  | .ref n, .int k => (match stoL S n with
    | some l => ofO (ixA l k) S
    | none => .bad)
  | _, _ => .bad
/-- a list of the store -/
def isLst (x : D) : M Unit := fun S => match x with
  | .ref n => (match stoL S n with
    | some _ => .ok () S
    | none => .bad)
  | _ => .bad
def mAppend (bs : List Nat) (o d : D) : M D := fun S => match o with
  | .ref n => (match stoL S n with
    | some l => bnd (putS bs n (l ++ [d]) d) (fun _ => ret .non) S
    | none => .bad)
  | _ => .bad
def mPop (o : D) : M D := fun S => match o with
  | .ref n => (match stoL S n with
    | some l => (match l[l.length - 1]? with
      | some d => .ok d (S.set n (.lst l.dropLast))
      | none => .bad)
    | none => .bad)
  | _ => .bad
def mPopAt (o i : D) : M D := fun S => match o, i with
  | .ref n, .int i => (match stoL S n with
    | some l => (match ixNat l.length i with
      | some j => (match l[j]? with
        | some d => if okR i then .ok d (S.set n (.lst (l.eraseIdx j))) else .bad
        | none => .bad)
      | none => .bad)
    | none => .bad)
  | _, _ => .bad
def method (bs : List Nat) (m : Me) (o : D) (ds : List D) : M D := match m, ds with
  | .append, [d] => mAppend bs o d
  | .pop, [] => mPop o
  | .popAt, [i] => mPopAt o i
  | _, _ => bad
def alloc (l : List D) : M D := fun S => .ok (.ref S.length) (S ++ [.lst l])
def allocD : M D := fun S => .ok (.ref S.length) (S ++ [.dic []])

mutual
def frzD (g : Nat → Option D) : D → Option D
  | .ref n => g n
  | .tup l => (frzs g l).map .tup
  | .lst l => (frzs g l).map .lst
  | d => some d
  termination_by structural d => d
def frzs (g : Nat → Option D) : List D → Option (List D)
  | [] => some []
  | x :: r => match frzD g x with
    | some y => (match frzs g r with
      | some t => some (y :: t)
      | none => none)
    | none => none
  termination_by structural d => d
end
def frzN (S : Sto) (b : Nat) : Nat → Nat → Option D
  | 0, n => if Nat.blt n b then some (.ref n) else none
  | k + 1, n => if Nat.blt n b then some (.ref n) else match stoL S n with
    | some l => (frzs (frzN S b k) l).map .lst
    | none => none
def frz (S : Sto) (b : Nat) (d : D) : Option D := frzD (frzN S b 3) d

inductive Src where
  | snap (l : List D)
  | live (n : Nat)
inductive It where
  | snap (l : List D)
  | one (s : Src)
  | enum (s : Src)
  | zip (s t : Src)
def Src.at (S : Sto) (i : Nat) : Src → Option (Option D)
  | .snap l => some l[i]?
  | .live n => (stoL S n).map fun l => l[i]?
/-- none: it can't be said; some none: the end -/
def It.at (S : Sto) (i : Nat) : It → Option (Option D)
  | .snap l => some l[i]?
  | .one s => s.at S i
  | .enum s => (s.at S i).map fun o => o.map fun d => .tup [.int i, d]
  | .zip s t => match s.at S i, t.at S i with
    | some (some d), some (some e) => some (some (.tup [d, e]))
    | some _, some _ => some none
    | _, _ => none
def enumL : Nat → List D → List D
  | _, [] => []
  | i, d :: r => .tup [.int i, d] :: enumL (i + 1) r
def zipL : List D → List D → List D
  | d :: r, e :: t => .tup [d, e] :: zipL r t
  | _, _ => []
def rngL (lo : Int) : Nat → List D
  | 0 => []
  | n + 1 => .int lo :: rngL (lo + 1) n
def rngC (lo k : Int) : Nat → List D
  | 0 => []
  | n + 1 => .int lo :: rngC (lo + k) k n
def isTup : D → Bool
  | .tup _ => true
  | _ => false
def srcOf (S : Sto) : D → Option Src
  | .lst l => some (.snap l)
  | .tup l => some (.snap l)
  | .scr l => some (.snap (l.map .int))
  | .ref n => match stoL S n with
    | some _ => some (.live n)
    | none => none
  | _ => none

/-- the variables that a target stores -/
def bindT (v : List (Option D)) : T → D → Option (List (Option D))
  | .nm i, d => some (v.set i (some d))
  | .tp is, .tup ds => if is.length == ds.length then some (bindAll v is ds) else none
  | _, _ => none
where bindAll (v : List (Option D)) : List Nat → List D → List (Option D)
  | i :: is, d :: ds => bindAll (v.set i (some d)) is ds
  | _, _ => v
/-- the slots of a target -/
def slots : T → List Nat
  | .nm i => [i]
  | .tp is => is
/-- slots forgotten -/
def wipeL (v : List (Option D)) : List Nat → List (Option D)
  | [] => v
  | i :: is => (wipeL v is).set i none

structure Ctx where
  fn : Nat → List Nat → List D → M D
  glo : List D
  sub : Nat → Nat → Option Bool
  fu : Nat

section
variable (C : Ctx)
/-- the loop of a comprehension; the items so far, the last one first -/
def lcGo (f : D → List D → M (List D)) : List D → List D → M (List D)
  | [], acc => ret acc
  | x :: r, acc => bnd (f x acc) fun acc => lcGo f r acc
def lcDyn (f : D → List D → M (List D)) (it : It) : Nat → Nat → List D → M (List D)
  | 0, _, _ => bad
  | n + 1, i, acc => fun S => match it.at S i with
    | some (some x) => bnd (f x acc) (fun acc => lcDyn f it n (i + 1) acc) S
    | some none => .ok acc S
    | none => .bad
def lcRun (f : D → List D → M (List D)) (it : It) (acc : List D) : M (List D) := match it with
  | .snap l => lcGo f l acc
  | it => lcDyn f it C.fu 0 acc
/-- nothing that is raised leaves a comprehension -/
def noEx {α : Type} (x : M α) : M α := fun S => match x S with
  | .ok a S' => .ok a S'
  | _ => .bad
def limM (x : M (List D)) : M (List D) := bnd x fun l => if limL l then ret l else bad

def getV (v : List (Option D)) (i : Nat) : M D := match v[i]? with
  | some (some d) => ret d
  | _ => bad
/-- what an expression is worth, and its truth as a test -/
structure VT where
  v : Env → M D
  t : Env → M Bool
def vt (f : Env → M D) : VT := ⟨f, fun ρ => bnd (f ρ) fun x => fun S => ofO (truD S x) S⟩
mutual
def ev2 : E → VT
  | .var i => vt fun ρ => getV ρ.v i
  | .cst d => vt fun _ => ret d
  | .glo g => vt fun _ => ofO C.glo[g]?
  | .bin o a b => vt fun ρ => bnd ((ev2 a).v ρ) fun x => bnd ((ev2 b).v ρ) fun y => fun S => ofO (arith S o x y) S
  | .neg a => vt fun ρ => bnd ((ev2 a).v ρ) fun x => match x with
    | .int i => ret (.int (-i))
    | _ => bad
  | .cmp o a b => vt fun ρ => bnd ((ev2 a).v ρ) fun x => bnd ((ev2 b).v ρ) fun y => fun S => ofO ((cmpD S o x y).map .bl) S
  | .chn o p a b c => vt fun ρ => bnd ((ev2 a).v ρ) fun x => bnd ((ev2 b).v ρ) fun y => fun S => bnd (ofO (cmpD S o x y)) (fun r => match r with
    | true => bnd ((ev2 c).v ρ) fun z => fun S => ofO ((cmpD S p y z).map .bl) S
    | false => ret (.bl false)) S
  | .chn3 o p q a b c d => vt fun ρ => bnd ((ev2 a).v ρ) fun x => bnd ((ev2 b).v ρ) fun y => fun S => bnd (ofO (cmpD S o x y)) (fun r => match r with
    | true => bnd ((ev2 c).v ρ) fun z => fun S => bnd (ofO (cmpD S p y z)) (fun r => match r with
      | true => bnd ((ev2 d).v ρ) fun u => fun S => ofO ((cmpD S q z u).map .bl) S
      | false => ret (.bl false)) S
    | false => ret (.bl false)) S
  | .andN es => ⟨evAnd es, tsAnd es⟩
  | .orN es => ⟨evOr es, tsOr es⟩
  | .not a => ⟨fun ρ => bnd ((ev2 a).v ρ) fun x => match x with
    | .bl b => ret (.bl !b)
    | _ => bad, fun ρ => bnd ((ev2 a).t ρ) fun r => ret !r⟩
  | .ite c a b => ⟨fun ρ => bnd ((ev2 c).t ρ) fun r => match r with
    | true => (ev2 a).v ρ
    | false => (ev2 b).v ρ, fun ρ => bnd ((ev2 c).t ρ) fun r => match r with
    | true => (ev2 a).t ρ
    | false => (ev2 b).t ρ⟩
  | .tup es => vt fun ρ => bnd (evs es ρ) fun l => if limL l then ret (.tup l) else bad
  | .ls es => vt fun ρ => bnd (limM (evs es ρ)) fun l => ret (.lst l)
  | .mk e => vt fun ρ => bnd (evL e ρ) alloc
  | .call f es => vt fun ρ => bnd (evs es ρ) fun ds => C.fn f ρ.bs ds
  | .pri p es => vt fun ρ => bnd (evs es ρ) fun ds => fun S => ofO (prim S p ds) S
  | .meth m o es => vt fun ρ => bnd ((ev2 o).v ρ) fun x => bnd (isLst x) fun _ => bnd (evs es ρ) fun ds => method ρ.bs m x ds
  | .idx a b => vt fun ρ => bnd ((ev2 a).v ρ) fun x => bnd ((ev2 b).v ρ) fun y => getI x y
  | .sli a lo hi => vt fun ρ => bnd ((ev2 a).v ρ) fun x => bnd (evO lo ρ) fun l => bnd (evO hi ρ) fun h => fun S => ofO (sliD S x l h) S
  | .rev a => vt fun ρ => bnd ((ev2 a).v ρ) fun x => fun S => ofO (revD S x) S
  | .revT a => vt fun ρ => bnd ((ev2 a).v ρ) fun x => match x with
    | .tup l => ret (.tup l.reverse)
    | _ => bad
  | .rng1 a => vt fun ρ => bnd ((ev2 a).v ρ) fun x => match x with
    | .int i => if okR i then ret (.rng 0 i) else bad
    | _ => bad
  | .lc c => vt fun ρ => bnd (evC c ρ) fun l => ret (.lst l)
  | .dic0 => vt fun _ => bad
  | .nev => vt fun _ => bad
  termination_by structural e => e
def evs : Es → Env → M (List D)
  | .nil => fun _ => ret []
  | .cons e r => fun ρ => bnd ((ev2 e).v ρ) fun x => bnd (evs r ρ) fun xs => ret (x :: xs)
  termination_by structural e => e
def evO : Eo → Env → M (Option Int)
  | .none => fun _ => ret none
  | .some e => fun ρ => bnd ((ev2 e).v ρ) fun x => match x with
    | .int i => ret (some i)
    | _ => bad
  termination_by structural e => e
def evAnd : Es → Env → M D
  | .nil => fun _ => ret (.bl true)
  | .cons e r => fun ρ => bnd ((ev2 e).v ρ) fun x => match x with
    | .bl true => evAnd r ρ
    | .bl false => ret (.bl false)
    | _ => bad
  termination_by structural e => e
def evOr : Es → Env → M D
  | .nil => fun _ => ret (.bl false)
  | .cons e r => fun ρ => bnd ((ev2 e).v ρ) fun x => match x with
    | .bl true => ret (.bl true)
    | .bl false => evOr r ρ
    | _ => bad
  termination_by structural e => e
def tsAnd : Es → Env → M Bool
  | .nil => fun _ => ret true
  | .cons e r => fun ρ => bnd ((ev2 e).t ρ) fun x => match x with
    | true => tsAnd r ρ
    | false => ret false
  termination_by structural e => e
def tsOr : Es → Env → M Bool
  | .nil => fun _ => ret false
  | .cons e r => fun ρ => bnd ((ev2 e).t ρ) fun x => match x with
    | true => ret true
    | false => tsOr r ρ
  termination_by structural e => e
/-- a new list's items -/
def evL : EL → Env → M (List D)
  | .ls es => fun ρ => limM (evs es ρ)
  | .cat a b => fun ρ => bnd ((ev2 a).v ρ) fun x => bnd ((ev2 b).v ρ) fun y => fun S => ofO (catL S x y) S
  | .rep a b => fun ρ => bnd ((ev2 a).v ρ) fun x => bnd ((ev2 b).v ρ) fun y => fun S => ofO (match y with
    | .int j => repM S x j
    | _ => none) S
  | .lc c => fun ρ => evC c ρ
  | .listOf e => fun ρ => bnd ((ev2 e).v ρ) fun x => fun S => ofO (seqOf S x) S
  termination_by structural e => e
def evC : EC → Env → M (List D)
  | .c1 elt t it c => fun ρ => bnd (evI it ρ) fun i => noEx (limM (bnd (lcRun C (fun x acc => (match bindT (wipeL ρ.v (slots t)) t x with
    | some v => bnd (evCond c ⟨ρ.bs, v⟩) fun b => match b with
      | true => bnd ((ev2 elt).v ⟨ρ.bs, v⟩) fun y => ret (y :: acc)
      | false => ret acc
    | none => bad)) i []) fun acc => ret acc.reverse))
  | .c2 elt t it c t2 it2 c2 => fun ρ => bnd (evI it ρ) fun i => noEx (limM (bnd (lcRun C (fun x acc => (match bindT (wipeL ρ.v (slots t ++ slots t2)) t x with
    | some v => bnd (evCond c ⟨ρ.bs, v⟩) fun b => match b with
      | true => bnd (evI it2 ⟨ρ.bs, v⟩) fun i2 => lcRun C (fun x2 acc => (match bindT (wipeL v (slots t2)) t2 x2 with
        | some w => bnd (evCond c2 ⟨ρ.bs, w⟩) fun b => match b with
          | true => bnd ((ev2 elt).v ⟨ρ.bs, w⟩) fun y => ret (y :: acc)
          | false => ret acc
        | none => bad)) i2 acc
      | false => ret acc
    | none => bad)) i []) fun acc => ret acc.reverse))
  termination_by structural e => e
def evCond : Eo → Env → M Bool
  | .none => fun _ => ret true
  | .some e => fun ρ => (ev2 e).t ρ
  termination_by structural e => e
def evI : I → Env → M It
  | .seq e => fun ρ => bnd ((ev2 e).v ρ) fun x => fun S => (match srcOf S x with
    | some (.snap l) => .ok (.snap l) S
    | some s => .ok (.one s) S
    | none => .bad)
  | .rv e => fun ρ => bnd ((ev2 e).v ρ) fun x => match x with
    | .rng lo hi => if okR lo && okR hi then ret (.snap (rngL lo (hi - lo).toNat)) else bad
    | _ => bad
  | .rg1 a => fun ρ => bnd ((ev2 a).v ρ) fun x => match x with
    | .int i => if okR i then ret (.snap (rngL 0 i.toNat)) else bad
    | _ => bad
  | .rg2 a b => fun ρ => bnd ((ev2 a).v ρ) fun x => bnd ((ev2 b).v ρ) fun y => match x, y with
    | .int i, .int j => if okR i && okR j then ret (.snap (rngL i (j - i).toNat)) else bad
    | _, _ => bad
  | .rg3 a b k => fun ρ => bnd ((ev2 a).v ρ) fun x => bnd ((ev2 b).v ρ) fun y => match x, y with
    | .int i, .int j => if okR i && okR j && (k == -1) then ret (.snap (rngC i (-1) (i - j).toNat)) else bad
    | _, _ => bad
  | .enum e => fun ρ => bnd ((ev2 e).v ρ) fun x => fun S => (match srcOf S x with
    | some (.snap l) => .ok (.snap (enumL 0 l)) S
    | some s => .ok (.enum s) S
    | none => .bad)
  | .zip a b => fun ρ => bnd ((ev2 a).v ρ) fun x => bnd ((ev2 b).v ρ) fun y => fun S => (match isTup x == isTup y with
    | true => (match srcOf S x, srcOf S y with
      | some (.snap l), some (.snap r) => .ok (.snap (zipL l r)) S
      | some s, some t => .ok (.zip s t) S
      | _, _ => .bad)
    | false => .bad)
  termination_by structural e => e
end
abbrev ev (e : E) (ρ : Env) : M D := (ev2 C e).v ρ
abbrev tst (e : E) (ρ : Env) : M Bool := (ev2 C e).t ρ

abbrev Vs := List (Option D)
inductive Fl where
  | nx | brk | cnt | ret (d : D)
def lenT : Tgs → Nat
  | .nil => 0
  | .cons _ r => lenT r + 1
mutual
def asg (bs : List Nat) : Tg → Vs → D → M Vs
  | .nm i => fun v d => ret (v.set i (some d))
  | .ix o i => fun v d => bnd (ev C o ⟨bs, v⟩) fun x => bnd (ev C i ⟨bs, v⟩) fun y => bnd (setI bs x y d) fun _ => ret v
  | .tp ts => fun v d => match d with
    | .tup ds => if ds.length == lenT ts then asgs bs ts v ds else bad
    | _ => bad
  termination_by structural t => t
def asgs (bs : List Nat) : Tgs → Vs → List D → M Vs
  | .nil => fun v ds => match ds with
    | [] => ret v
    | _ => bad
  | .cons t r => fun v ds => match ds with
    | d :: ds => bnd (asg bs t v d) fun v => asgs bs r v ds
    | _ => bad
  termination_by structural t => t
end

def forGo (f : D → Vs → M (Fl × Vs)) : List D → Vs → M (Fl × Vs)
  | [], v => ret (.nx, v)
  | x :: r, v => bnd (f x v) fun p => match p.1 with
    | .nx => forGo f r p.2
    | .cnt => forGo f r p.2
    | .brk => ret (.nx, p.2)
    | .ret d => ret (.ret d, p.2)
def forDyn (f : D → Vs → M (Fl × Vs)) (it : It) : Nat → Nat → Vs → M (Fl × Vs)
  | 0, _, _ => bad
  | n + 1, i, v => fun S => match it.at S i with
    | some (some x) => bnd (f x v) (fun p => match p.1 with
      | .nx => forDyn f it n (i + 1) p.2
      | .cnt => forDyn f it n (i + 1) p.2
      | .brk => ret (.nx, p.2)
      | .ret d => ret (.ret d, p.2)) S
    | some none => .ok (.nx, v) S
    | none => .bad
def forRun (f : D → Vs → M (Fl × Vs)) (it : It) (v : Vs) : M (Fl × Vs) := match it with
  | .snap l => forGo f l v
  | it => forDyn f it C.fu 0 v
def whGo (c : Vs → M Bool) (f : Vs → M (Fl × Vs)) : Nat → Vs → M (Fl × Vs)
  | 0, _ => bad
  | n + 1, v => bnd (c v) fun b => match b with
    | true => bnd (f v) fun p => match p.1 with
      | .nx => whGo c f n p.2
      | .cnt => whGo c f n p.2
      | .brk => ret (.nx, p.2)
      | .ret d => ret (.ret d, p.2)
    | false => ret (.nx, v)
def hbRun (C : Ctx) (c : Nat) (d : D) : HB → M D
  | .retS x => ret x
  | .retIs yes no k => match C.sub c k, d with
    | some true, .non => ret yes
    | some false, .non => ret no
    | _, _ => bad
  | _ => bad
def hsRun (C : Ctx) (c : Nat) (d : D) (v : Vs) : List Hd → M (Fl × Vs)
  | [] => fun S => .ex c d S
  | h :: r => match C.sub c h.cls with
    | some true => bnd (hbRun C c d h.body) fun x => ret (.ret x, v)
    | some false => hsRun C c d v r
    | none => bad

mutual
def xs (bs : List Nat) : S → Vs → M (Fl × Vs)
  | .asg t e => fun v => bnd (ev C e ⟨bs, v⟩) fun d => bnd (asg C bs t v d) fun v => ret (.nx, v)
  | .aug i o e => fun v => (match v[i]? with
    | some (some x) => bnd (ev C e ⟨bs, v⟩) fun y => bnd (ofO (augD o x y)) fun z => ret (.nx, v.set i (some z))
    | _ => bad)
  | .augI o i p e => fun v => bnd (ev C o ⟨bs, v⟩) fun x => bnd (ev C i ⟨bs, v⟩) fun y => bnd (getR x y) fun z => bnd (ev C e ⟨bs, v⟩) fun w => bnd (ofO (augD p z w)) fun u => bnd (setI bs x y u) fun _ => ret (.nx, v)
  | .ex e => fun v => bnd (ev C e ⟨bs, v⟩) fun _ => ret (.nx, v)
  | .ret e => fun v => bnd (ev C e ⟨bs, v⟩) fun d => ret (.ret d, v)
  | .retN => fun v => ret (.ret .non, v)
  | .iff c a b => fun v => bnd (tst C c ⟨bs, v⟩) fun r => match r with
    | true => xss bs a v
    | false => xss bs b v
  | .fr t it b => fun v => bnd (evI C it ⟨bs, v⟩) fun i => forRun C (fun x v => match bindT v t x with
    | some v => xss bs b v
    | none => bad) i v
  | .wh c b => fun v => whGo (fun v => tst C c ⟨bs, v⟩) (fun v => xss bs b v) C.fu v
  | .brk => fun v => ret (.brk, v)
  | .cnt => fun v => ret (.cnt, v)
  | .pas => fun v => ret (.nx, v)
  | .rai c d => fun _ => fun S => .ex c d S
  | .tri b hs => fun v => fun S => match xss bs b v S with
    | .ok p S' => .ok p S'
    | .ex c d S' => hsRun C c d v hs S'
    | .bad => .bad
  | .nev => fun _ => bad
  termination_by structural s => s
def xss (bs : List Nat) : Ss → Vs → M (Fl × Vs)
  | .nil => fun v => ret (.nx, v)
  | .cons s r => fun v => bnd (xs bs s v) fun p => match p.1 with
    | .nx => xss bs r p.2
    | f => ret (f, p.2)
  termination_by structural s => s
end
end

structure Df where
  ps : Nat
  vs : Nat
  keep : Bool
  body : Ss
def startV (n : Nat) (ds : List D) : Vs := ds.map some ++ List.replicate (n - ds.length) none
def outD (p : Fl × Vs) : Option D := match p.1 with
  | .ret d => some d
  | .nx => some .non
  | _ => none
def runDf (C : Ctx) (f : Df) (bs : List Nat) (ds : List D) : M D := fun S =>
  if ds.length == f.ps then
    if f.keep then bnd (xss C bs f.body (startV f.vs ds)) (fun p => ofO (outD p)) S
    else match xss C (S.length :: bs) f.body (startV f.vs ds) S with
      | .ok p S' => (match (outD p).bind (frz S' S.length) with
        | some d => .ok d (S'.take S.length)
        | none => .bad)
      | .ex c d S' => (match d with
        | .str _ => .ex c d (S'.take S.length)
        | .non => .ex c d (S'.take S.length)
        | _ => .bad)
      | .bad => .bad
  else .bad
structure Prog where
  df : List Df
  glo : List D
  sub : Nat → Nat → Option Bool
/-- the call of the f-th def, at most n calls deep -/
def callF (P : Prog) (fu : Nat) : Nat → Nat → List Nat → List D → M D
  | 0, _, _, _ => bad
  | n + 1, f, bs, ds => match P.df[f]? with
    | some d => runDf ⟨callF P fu n, P.glo, P.sub, fu⟩ d bs ds
    | none => bad
end Ri
set_option maxHeartbeats 1000000
namespace Ri
open PySem PySem.Spec PyProof.Rows L2

def TupAt (K : PySem.W.Frag) (H : Hp) (m : List Addr) (a : Addr) (xs : List V) : Prop :=
  (H a = some (.tup xs) ∧ a ∉ m) ∨
    ∃ (o : Obj) (its : Array Value) (n : Nat), K.lookup a = some o ∧ o.cls = .type "tuple" ∧ o.data = .seq its n ∧ its.size ≤ sizeLine ∧ Vals xs its.toList
def ScrAt (K : PySem.W.Frag) (H : Hp) (m : List Addr) (a : Addr) (xs : List V) : Prop :=
  ((∃ o, H a = some (.frz o (.lst xs))) ∧ a ∉ m) ∨
    ∃ (o : Obj) (its : Array Value) (n : Nat), K.lookup a = some o ∧ o.cls = .type "list" ∧ o.dict = none ∧ o.data = .seq its n ∧ its.size ≤ sizeLine ∧ Vals xs its.toList
/-- m: where the store's things stand; r: where things stand that somebody else still writes -/
structure Pl where
  m : List Addr
  r : List Addr
mutual
def RelD (K : PySem.W.Frag) (H : Hp) (p : Pl) : D → V → Prop
  | .non => fun v => v = .non
  | .bl b => fun v => v = .bl b
  | .int i => fun v => v = .int i
  | .str x => fun v => v = .str x
  | .tup l => fun v => ∃ a xs, v = .ref a ∧ TupAt K H p.m a xs ∧ RelDs K H p l xs
  | .lst l => fun v => ∃ a xs, v = .ref a ∧ H a = some (.lst xs) ∧ a ∉ p.m ∧ a ∉ p.r ∧ RelDs K H p l xs
  | .scr l => fun v => ∃ a, v = .ref a ∧ ScrAt K H p.m a (l.map V.int)
  | .ref n => fun v => ∃ a, p.m[n]? = some a ∧ v = .ref a
  | .rng lo hi => fun v => ∃ a, v = .ref a ∧ H a = some (.rng lo hi) ∧ a ∉ p.m
  termination_by structural d => d
def RelDs (K : PySem.W.Frag) (H : Hp) (p : Pl) : List D → List V → Prop
  | [] => fun vs => vs = []
  | d :: ds => fun vs => ∃ v r, vs = v :: r ∧ RelD K H p d v ∧ RelDs K H p ds r
  termination_by structural d => d
end
def RelKV (K : PySem.W.Frag) (H : Hp) (p : Pl) : List (Int × D) → List (Key × V) → Prop
  | [], ys => ys = []
  | (k, d) :: r, ys => ∃ v t, ys = (Sum.inl k, v) :: t ∧ RelD K H p d v ∧ RelKV K H p r t
def SOk (K : PySem.W.Frag) (H : Hp) (p : Pl) (a : Addr) : SO → Prop
  | .lst l => ∃ xs, H a = some (.lst xs) ∧ RelDs K H p l xs
  | .dic kvs => ∃ ys, H a = some (.dK ys) ∧ RelKV K H p kvs ys

/-- how the heap goes on: what no place of the store is stays as it is, the store's new places are new -/
structure Grow (m : List Addr) (H : Hp) (m' : List Addr) (H' : Hp) : Prop where
  keep : ∀ a o, H a = some o → a ∉ m → H' a = some o
  hold : ∀ a, H a ≠ none → H' a ≠ none
  new : ∃ n, m' = m ++ n ∧ ∀ a ∈ n, H a = none
theorem Grow.refl (m : List Addr) (H : Hp) : Grow m H m H := ⟨fun _ _ h _ => h, fun _ h => h, [], by simp, by simp⟩
theorem Grow.notin {m m' : List Addr} {H H' : Hp} (g : Grow m H m' H') {a : Addr} (h : H a ≠ none) (n : a ∉ m) : a ∉ m' := by
  obtain ⟨t, e, q⟩ := g.new
  rw [e, List.mem_append]
  rintro (z | z)
  · exact n z
  · exact h (q a z)
theorem Grow.trans {m m1 m2 : List Addr} {H H1 H2 : Hp} (a : Grow m H m1 H1) (b : Grow m1 H1 m2 H2) : Grow m H m2 H2 := by
  obtain ⟨n1, e1, q1⟩ := a.new
  obtain ⟨n2, e2, q2⟩ := b.new
  refine ⟨fun x o h hn => b.keep x o (a.keep x o h hn) (a.notin (by rw [h]; simp) hn), fun x h => b.hold x (a.hold x h), n1 ++ n2, by rw [e2, e1, List.append_assoc], fun x hx => ?_⟩
  rcases List.mem_append.mp hx with z | z
  · exact q1 x z
  · cases e : H x with
    | none => rfl
    | some o => exact absurd (q2 x z) (a.hold x (by rw [e]; simp))
theorem Grow.get {m m' : List Addr} {H H' : Hp} (g : Grow m H m' H') {n : Nat} {a : Addr} (h : m[n]? = some a) : m'[n]? = some a := by
  obtain ⟨t, e, _⟩ := g.new
  rw [e, List.getElem?_append_left (List.getElem?_eq_some_iff.mp h).1]
  exact h
theorem Grow.new1 {m : List Addr} {H : Hp} {a : Addr} {o : HO} (h : H a = none) : Grow m H m (upd H a o) := by
  refine ⟨fun b u e _ => ?_, fun b e => ?_, [], by simp, by simp⟩
  · rw [upd_ne (ne_of_none e h)]; exact e
  · by_cases q : b = a
    · subst q; exact absurd h e
    · rw [upd_ne q]; exact e
theorem Grow.put {m : List Addr} {H : Hp} {a : Addr} {o : HO} (h : a ∈ m) : Grow m H m (upd H a o) := by
  refine ⟨fun b u e n => ?_, fun b e => ?_, [], by simp, by simp⟩
  · have q : b ≠ a := fun z => n (z ▸ h)
    rw [upd_ne q]; exact e
  · by_cases q : b = a
    · subst q; rw [upd_same]; simp
    · rw [upd_ne q]; exact e

section
variable {K : PySem.W.Frag} {H H' : Hp} {p p' : Pl}
theorem TupAt.sq {m : List Addr} {a : Addr} {xs : List V} (h : TupAt K H m a xs) : SqT K H a xs := by
  rcases h with ⟨h, _⟩ | h
  · exact .inl (.inl h)
  · exact .inr h
theorem ScrAt.sq {m : List Addr} {a : Addr} {xs : List V} (h : ScrAt K H m a xs) : SqL K H a xs := by
  rcases h with ⟨⟨o, h⟩, _⟩ | h
  · exact .inl (.inr ⟨o, h⟩)
  · exact .inr h
mutual
theorem RelD.grow (g : Grow p.m H p'.m H') (er : p'.r = p.r) : ∀ (d : D) (v : V), RelD K H p d v → RelD K H' p' d v
  | .non, _, h => h
  | .bl _, _, h => h
  | .int _, _, h => h
  | .str _, _, h => h
  | .tup l, v, h => by
    obtain ⟨a, xs, e, t, q⟩ := h
    refine ⟨a, xs, e, ?_, RelDs.grow g er l xs q⟩
    rcases t with ⟨t, n⟩ | t
    · exact .inl ⟨g.keep a _ t n, g.notin (by rw [t]; simp) n⟩
    · exact .inr t
  | .lst l, v, h => by
    obtain ⟨a, xs, e, t, n, nr, q⟩ := h
    exact ⟨a, xs, e, g.keep a _ t n, g.notin (by rw [t]; simp) n, by rw [er]; exact nr, RelDs.grow g er l xs q⟩
  | .scr l, v, h => by
    obtain ⟨a, e, t⟩ := h
    refine ⟨a, e, ?_⟩
    rcases t with ⟨⟨o, t⟩, n⟩ | t
    · exact .inl ⟨⟨o, g.keep a _ t n⟩, g.notin (by rw [t]; simp) n⟩
    · exact .inr t
  | .ref n, v, h => by
    obtain ⟨a, e, t⟩ := h
    exact ⟨a, g.get e, t⟩
  | .rng lo hi, v, h => by
    obtain ⟨a, e, t, n⟩ := h
    exact ⟨a, e, g.keep a _ t n, g.notin (by rw [t]; simp) n⟩
theorem RelDs.grow (g : Grow p.m H p'.m H') (er : p'.r = p.r) : ∀ (ds : List D) (vs : List V), RelDs K H p ds vs → RelDs K H' p' ds vs
  | [], _, h => h
  | d :: ds, vs, h => by
    obtain ⟨v, r, e, h1, h2⟩ := h
    exact ⟨v, r, e, RelD.grow g er d v h1, RelDs.grow g er ds r h2⟩
end
theorem RelKV.grow (g : Grow p.m H p'.m H') (er : p'.r = p.r) : ∀ (ds : List (Int × D)) (vs : List (Key × V)), RelKV K H p ds vs → RelKV K H' p' ds vs
  | [], _, h => h
  | (k, d) :: ds, vs, h => by
    obtain ⟨v, r, e, h1, h2⟩ := h
    exact ⟨v, r, e, RelD.grow g er d v h1, RelKV.grow g er ds r h2⟩
mutual
theorem RelD.less {r : List Addr} (hr : ∀ a ∈ r, a ∈ p.r) : ∀ (d : D) (v : V), RelD K H p d v → RelD K H ⟨p.m, r⟩ d v
  | .non, _, h => h
  | .bl _, _, h => h
  | .int _, _, h => h
  | .str _, _, h => h
  | .tup l, v, h => by
    obtain ⟨a, xs, e, t, q⟩ := h
    exact ⟨a, xs, e, t, RelDs.less hr l xs q⟩
  | .lst l, v, h => by
    obtain ⟨a, xs, e, t, n, nr, q⟩ := h
    exact ⟨a, xs, e, t, n, fun z => nr (hr a z), RelDs.less hr l xs q⟩
  | .scr l, v, h => h
  | .ref n, v, h => h
  | .rng lo hi, v, h => h
theorem RelDs.less {r : List Addr} (hr : ∀ a ∈ r, a ∈ p.r) : ∀ (ds : List D) (vs : List V), RelDs K H p ds vs → RelDs K H ⟨p.m, r⟩ ds vs
  | [], _, h => h
  | d :: ds, vs, h => by
    obtain ⟨v, t, e, h1, h2⟩ := h
    exact ⟨v, t, e, RelD.less hr d v h1, RelDs.less hr ds t h2⟩
end
theorem RelDs.length : ∀ {ds : List D} {vs : List V}, RelDs K H p ds vs → ds.length = vs.length
  | [], vs, h => by
    have e : vs = [] := h
    rw [e] <;> rfl
  | d :: ds, vs, h => by
    obtain ⟨v, r, e, _, h2⟩ := h
    rw [e, List.length_cons, List.length_cons, RelDs.length h2]
theorem RelDs.get : ∀ {ds : List D} {vs : List V} {i : Nat} {d : D}, RelDs K H p ds vs → ds[i]? = some d → ∃ v, vs[i]? = some v ∧ RelD K H p d v
  | [], _, _, _, _, e => by simp at e
  | d :: ds, vs, 0, x, h, e => by
    obtain ⟨v, r, ev, h1, _⟩ := h
    simp at e; subst e; subst ev
    exact ⟨v, rfl, h1⟩
  | d :: ds, vs, i + 1, x, h, e => by
    obtain ⟨v, r, ev, _, h2⟩ := h
    subst ev
    obtain ⟨w, e1, e2⟩ := RelDs.get (i := i) (d := x) h2 (by simpa using e)
    exact ⟨w, by simpa using e1, e2⟩
theorem RelDs.append : ∀ {ds es : List D} {vs ws : List V}, RelDs K H p ds vs → RelDs K H p es ws → RelDs K H p (ds ++ es) (vs ++ ws)
  | [], _, vs, _, h, k => by
    have e : vs = [] := h
    rw [e]; exact k
  | d :: ds, _, vs, _, h, k => by
    obtain ⟨v, r, e, h1, h2⟩ := h
    subst e
    exact ⟨v, _, rfl, h1, RelDs.append h2 k⟩
theorem RelDs.one {d : D} {v : V} (h : RelD K H p d v) : RelDs K H p [d] [v] := ⟨v, [], rfl, h, rfl⟩
theorem RelDs.nil : RelDs K H p [] [] := rfl
theorem RelDs.cons {d : D} {v : V} {ds : List D} {vs : List V} (h : RelD K H p d v) (t : RelDs K H p ds vs) : RelDs K H p (d :: ds) (v :: vs) := ⟨v, vs, rfl, h, t⟩
theorem RelDs.take : ∀ {ds : List D} {vs : List V} (n : Nat), RelDs K H p ds vs → RelDs K H p (ds.take n) (vs.take n)
  | _, _, 0, _ => rfl
  | [], vs, n + 1, h => by
    have e : vs = [] := h
    rw [e]; exact rfl
  | d :: ds, vs, n + 1, h => by
    obtain ⟨v, r, e, h1, h2⟩ := h
    subst e
    exact ⟨v, _, rfl, h1, RelDs.take n h2⟩
theorem RelDs.drop : ∀ {ds : List D} {vs : List V} (n : Nat), RelDs K H p ds vs → RelDs K H p (ds.drop n) (vs.drop n)
  | _, _, 0, h => h
  | [], vs, n + 1, h => by
    have e : vs = [] := h
    rw [e]; exact rfl
  | d :: ds, vs, n + 1, h => by
    obtain ⟨v, r, e, _, h2⟩ := h
    subst e
    exact RelDs.drop n h2
theorem RelDs.reverse {ds : List D} : ∀ {vs : List V}, RelDs K H p ds vs → RelDs K H p ds.reverse vs.reverse := by
  induction ds with
  | nil =>
    intro vs h
    have e : vs = [] := h
    rw [e]; exact rfl
  | cons d ds ih =>
    intro vs h
    obtain ⟨v, r, e, h1, h2⟩ := h
    subst e
    rw [List.reverse_cons, List.reverse_cons]
    exact (ih h2).append (RelDs.one h1)
theorem RelDs.set : ∀ {ds : List D} {vs : List V} {d : D} {v : V} (i : Nat), RelDs K H p ds vs → RelD K H p d v → RelDs K H p (ds.set i d) (vs.set i v)
  | [], vs, _, _, _, h, _ => by
    have e : vs = [] := h
    rw [e]; exact rfl
  | x :: ds, vs, d, v, 0, h, k => by
    obtain ⟨w, r, e, _, h2⟩ := h
    subst e
    exact ⟨v, r, rfl, k, h2⟩
  | x :: ds, vs, d, v, i + 1, h, k => by
    obtain ⟨w, r, e, h1, h2⟩ := h
    subst e
    exact ⟨w, _, rfl, h1, RelDs.set i h2 k⟩
theorem RelDs.dropLast {ds : List D} {vs : List V} (h : RelDs K H p ds vs) : RelDs K H p ds.dropLast vs.dropLast := by
  rw [List.dropLast_eq_take, List.dropLast_eq_take, ← h.length]
  exact h.take _
theorem RelDs.eraseIdx : ∀ {ds : List D} {vs : List V} (i : Nat), RelDs K H p ds vs → RelDs K H p (ds.eraseIdx i) (vs.eraseIdx i)
  | [], vs, _, h => by
    have e : vs = [] := h
    rw [e]; exact rfl
  | x :: ds, vs, 0, h => by
    obtain ⟨w, r, e, _, h2⟩ := h
    subst e
    exact h2
  | x :: ds, vs, i + 1, h => by
    obtain ⟨w, r, e, h1, h2⟩ := h
    subst e
    exact ⟨w, _, rfl, h1, RelDs.eraseIdx i h2⟩
theorem RelDs.rep {ds : List D} {vs : List V} (h : RelDs K H p ds vs) : ∀ n : Nat, RelDs K H p (repL ds n) (List.replicate n vs).flatten
  | 0 => rfl
  | n + 1 => by
    rw [List.replicate_succ, List.flatten_cons]
    exact h.append (RelDs.rep h n)

structure SimS (K : PySem.W.Frag) (H : Hp) (p : Pl) (S : Sto) : Prop where
  len : p.m.length = S.length
  nd : p.m.Nodup
  res : ∀ a ∈ p.r, H a ≠ none ∧ a ∉ p.m
  at_ : ∀ (n : Nat) (a : Addr) (so : SO), p.m[n]? = some a → S[n]? = some so → SOk K H p a so
theorem SOk.grow {a : Addr} {so : SO} (g : Grow p.m H p'.m H') (er : p'.r = p.r) (ha : H' a = H a) (h : SOk K H p a so) : SOk K H' p' a so := by
  cases so with
  | lst l =>
    obtain ⟨xs, e, q⟩ := h
    exact ⟨xs, by rw [ha]; exact e, RelDs.grow g er l xs q⟩
  | dic l =>
    obtain ⟨xs, e, q⟩ := h
    exact ⟨xs, by rw [ha]; exact e, RelKV.grow g er l xs q⟩
theorem SOk.some {a : Addr} {so : SO} (h : SOk K H p a so) : H a ≠ none := by
  cases so with
  | lst l => obtain ⟨xs, e, _⟩ := h; rw [e]; simp
  | dic l => obtain ⟨xs, e, _⟩ := h; rw [e]; simp
theorem SimS.of_get {S : Sto} (s : SimS K H p S) {n : Nat} {so : SO} (h : S[n]? = Option.some so) : ∃ a, p.m[n]? = Option.some a ∧ SOk K H p a so := by
  have hl := (List.getElem?_eq_some_iff.mp h).1
  have hm : n < p.m.length := by rw [s.len]; exact hl
  exact ⟨p.m[n], List.getElem?_eq_getElem hm, s.at_ n _ so (List.getElem?_eq_getElem hm) h⟩
theorem SimS.m_some {S : Sto} (s : SimS K H p S) {a : Addr} (h : a ∈ p.m) : H a ≠ none := by
  obtain ⟨n, hn, e⟩ := List.getElem_of_mem h
  have hS : n < S.length := by rw [← s.len]; exact hn
  exact SOk.some (s.at_ n a _ (by rw [List.getElem?_eq_getElem hn, e]) (List.getElem?_eq_getElem hS))
theorem SimS.new1 {S : Sto} {a : Addr} {o : HO} (s : SimS K H p S) (h : H a = none) : SimS K (upd H a o) p S := by
  have g : Grow p.m H p.m (upd H a o) := Grow.new1 h
  refine ⟨s.len, s.nd, fun b hb => ⟨g.hold b (s.res b hb).1, (s.res b hb).2⟩, fun n b so e1 e2 => ?_⟩
  have q := s.at_ n b so e1 e2
  exact q.grow g rfl (upd_ne (fun z => q.some (z ▸ h)))
mutual
theorem RelD.fresh {a : Addr} {o : HO} (h : H a = none) : ∀ (d : D) (v : V), RelD K H p d v → RelD K (upd H a o) ⟨p.m, a :: p.r⟩ d v
  | .non, _, h => h
  | .bl _, _, h => h
  | .int _, _, h => h
  | .str _, _, h => h
  | .tup l, v, q => by
    obtain ⟨b, xs, e, t, q⟩ := q
    refine ⟨b, xs, e, ?_, RelDs.fresh h l xs q⟩
    rcases t with ⟨t, n⟩ | t
    · exact .inl ⟨by rw [upd_ne (ne_of_none t h)]; exact t, n⟩
    · exact .inr t
  | .lst l, v, q => by
    obtain ⟨b, xs, e, t, n, nr, q⟩ := q
    have ne := ne_of_none t h
    exact ⟨b, xs, e, by rw [upd_ne ne]; exact t, n, by rw [List.mem_cons, not_or]; exact ⟨ne, nr⟩, RelDs.fresh h l xs q⟩
  | .scr l, v, q => by
    obtain ⟨b, e, t⟩ := q
    refine ⟨b, e, ?_⟩
    rcases t with ⟨⟨u, t⟩, n⟩ | t
    · exact .inl ⟨⟨u, by rw [upd_ne (ne_of_none t h)]; exact t⟩, n⟩
    · exact .inr t
  | .ref n, v, q => q
  | .rng lo hi, v, q => by
    obtain ⟨b, e, t, n⟩ := q
    exact ⟨b, e, by rw [upd_ne (ne_of_none t h)]; exact t, n⟩
theorem RelDs.fresh {a : Addr} {o : HO} (h : H a = none) : ∀ (ds : List D) (vs : List V), RelDs K H p ds vs → RelDs K (upd H a o) ⟨p.m, a :: p.r⟩ ds vs
  | [], _, q => q
  | d :: ds, vs, q => by
    obtain ⟨v, t, e, h1, h2⟩ := q
    exact ⟨v, t, e, RelD.fresh h d v h1, RelDs.fresh h ds t h2⟩
end
theorem RelKV.fresh {a : Addr} {o : HO} (h : H a = none) : ∀ (ds : List (Int × D)) (vs : List (Key × V)), RelKV K H p ds vs → RelKV K (upd H a o) ⟨p.m, a :: p.r⟩ ds vs
  | [], _, q => q
  | (k, d) :: ds, vs, q => by
    obtain ⟨v, t, e, h1, h2⟩ := q
    exact ⟨v, t, e, RelD.fresh h d v h1, RelKV.fresh h ds t h2⟩
/-- what somebody wrote becomes a place of the store -/
def isMut : HO → Bool
  | .lst _ => true
  | .dK _ => true
  | _ => false
theorem ne_mut {a b : Addr} {o u : HO} (ha : H a = some o) (ho : isMut o = true) (hb : H b = some u) (hu : isMut u = false) : b ≠ a := by
  intro e
  rw [e, ha] at hb
  cases hb
  rw [ho] at hu
  cases hu
theorem notin_snoc {m : List Addr} {a b : Addr} (h : b ∉ m) (ne : b ≠ a) : b ∉ m ++ [a] := by
  rw [List.mem_append, List.mem_singleton, not_or]
  exact ⟨h, ne⟩
mutual
theorem RelD.adopt {m r : List Addr} {a : Addr} {o : HO} (ha : H a = some o) (ho : isMut o = true) : ∀ (d : D) (v : V), RelD K H ⟨m, a :: r⟩ d v → RelD K H ⟨m ++ [a], r⟩ d v
  | .non, _, h => h
  | .bl _, _, h => h
  | .int _, _, h => h
  | .str _, _, h => h
  | .tup l, v, q => by
    obtain ⟨b, xs, e, t, q⟩ := q
    refine ⟨b, xs, e, ?_, RelDs.adopt ha ho l xs q⟩
    rcases t with ⟨t, n⟩ | t
    · exact .inl ⟨t, notin_snoc n (ne_mut ha ho t rfl)⟩
    · exact .inr t
  | .lst l, v, q => by
    obtain ⟨b, xs, e, t, n, nr, q⟩ := q
    rw [List.mem_cons, not_or] at nr
    exact ⟨b, xs, e, t, notin_snoc n nr.1, nr.2, RelDs.adopt ha ho l xs q⟩
  | .scr l, v, q => by
    obtain ⟨b, e, t⟩ := q
    refine ⟨b, e, ?_⟩
    rcases t with ⟨⟨u, t⟩, n⟩ | t
    · exact .inl ⟨⟨u, t⟩, notin_snoc n (ne_mut ha ho t rfl)⟩
    · exact .inr t
  | .ref n, v, q => by
    obtain ⟨b, e, t⟩ := q
    have e' : m[n]? = some b := e
    exact ⟨b, by show (m ++ [a])[n]? = some b; rw [List.getElem?_append_left (List.getElem?_eq_some_iff.mp e').1]; exact e', t⟩
  | .rng lo hi, v, q => by
    obtain ⟨b, e, t, n⟩ := q
    exact ⟨b, e, t, notin_snoc n (ne_mut ha ho t rfl)⟩
theorem RelDs.adopt {m r : List Addr} {a : Addr} {o : HO} (ha : H a = some o) (ho : isMut o = true) : ∀ (ds : List D) (vs : List V), RelDs K H ⟨m, a :: r⟩ ds vs → RelDs K H ⟨m ++ [a], r⟩ ds vs
  | [], _, q => q
  | d :: ds, vs, q => by
    obtain ⟨v, t, e, h1, h2⟩ := q
    exact ⟨v, t, e, RelD.adopt ha ho d v h1, RelDs.adopt ha ho ds t h2⟩
end
theorem RelKV.adopt {m r : List Addr} {a : Addr} {o : HO} (ha : H a = some o) (ho : isMut o = true) : ∀ (ds : List (Int × D)) (vs : List (Key × V)), RelKV K H ⟨m, a :: r⟩ ds vs → RelKV K H ⟨m ++ [a], r⟩ ds vs
  | [], _, q => q
  | (k, d) :: ds, vs, q => by
    obtain ⟨v, t, e, h1, h2⟩ := q
    exact ⟨v, t, e, RelD.adopt ha ho d v h1, RelKV.adopt ha ho ds t h2⟩
theorem RelKV.less {r : List Addr} (hr : ∀ a ∈ r, a ∈ p.r) : ∀ (ds : List (Int × D)) (vs : List (Key × V)), RelKV K H p ds vs → RelKV K H ⟨p.m, r⟩ ds vs
  | [], _, q => q
  | (k, d) :: ds, vs, q => by
    obtain ⟨v, t, e, h1, h2⟩ := q
    exact ⟨v, t, e, RelD.less hr d v h1, RelKV.less hr ds t h2⟩
theorem SOk.less {a : Addr} {so : SO} {r : List Addr} (hr : ∀ a ∈ r, a ∈ p.r) (h : SOk K H p a so) : SOk K H ⟨p.m, r⟩ a so := by
  cases so with
  | lst l => obtain ⟨xs, e, q⟩ := h; exact ⟨xs, e, RelDs.less hr l xs q⟩
  | dic l => obtain ⟨xs, e, q⟩ := h; exact ⟨xs, e, RelKV.less hr l xs q⟩
theorem SimS.less {S : Sto} {r : List Addr} (s : SimS K H p S) (hr : ∀ a ∈ r, a ∈ p.r) : SimS K H ⟨p.m, r⟩ S :=
  ⟨s.len, s.nd, fun a ha => s.res a (hr a ha), fun n a so e1 e2 => (s.at_ n a so e1 e2).less hr⟩
theorem SimS.fresh {S : Sto} {a : Addr} {o : HO} (s : SimS K H p S) (h : H a = none) : SimS K (upd H a o) ⟨p.m, a :: p.r⟩ S := by
  have g : Grow p.m H p.m (upd H a o) := Grow.new1 h
  have nm : a ∉ p.m := fun z => s.m_some z h
  refine ⟨s.len, s.nd, fun b hb => ?_, fun n b so e1 e2 => ?_⟩
  · rcases List.mem_cons.mp hb with rfl | hb
    · exact ⟨by rw [upd_same]; simp, nm⟩
    · exact ⟨g.hold b (s.res b hb).1, (s.res b hb).2⟩
  · have q := s.at_ n b so e1 e2
    have ne : b ≠ a := fun z => q.some (z ▸ h)
    cases so with
    | lst l =>
      obtain ⟨xs, e, q⟩ := q
      exact ⟨xs, by rw [upd_ne ne]; exact e, RelDs.fresh h l xs q⟩
    | dic l =>
      obtain ⟨xs, e, q⟩ := q
      exact ⟨xs, by rw [upd_ne ne]; exact e, RelKV.fresh h l xs q⟩
theorem SimS.adopt {S : Sto} {m r : List Addr} {a : Addr} {o : HO} {so : SO} (s : SimS K H ⟨m, a :: r⟩ S) (hr : a ∉ r) (ha : H a = some o) (ho : isMut o = true) (q : SOk K H ⟨m ++ [a], r⟩ a so) : SimS K H ⟨m ++ [a], r⟩ (S ++ [so]) := by
  have nm : a ∉ m := (s.res a List.mem_cons_self).2
  have hl : m.length = S.length := s.len
  refine ⟨by simp [hl], ?_, fun b hb => ⟨(s.res b (List.mem_cons_of_mem _ hb)).1, notin_snoc (s.res b (List.mem_cons_of_mem _ hb)).2 fun e => hr (e ▸ hb)⟩, fun n b so' e1 e2 => ?_⟩
  · rw [List.nodup_append]
    refine ⟨s.nd, by simp, fun x hx y hy => ?_⟩
    rw [List.mem_singleton] at hy
    subst hy
    exact fun e => nm (e ▸ hx)
  · have e1 : (m ++ [a])[n]? = some b := e1
    by_cases hn : n < m.length
    · rw [List.getElem?_append_left hn] at e1
      rw [List.getElem?_append_left (by omega)] at e2
      have z := s.at_ n b so' e1 e2
      cases so' with
      | lst l => obtain ⟨xs, e, q⟩ := z; exact ⟨xs, e, RelDs.adopt ha ho l xs q⟩
      | dic l => obtain ⟨xs, e, q⟩ := z; exact ⟨xs, e, RelKV.adopt ha ho l xs q⟩
    · have hlt := (List.getElem?_eq_some_iff.mp e1).1
      have hn' : n = m.length := by simp at hlt; omega
      subst hn'
      have e1' : a = b := by simpa using e1
      rw [hl] at e2
      have e2' : so = so' := by simpa using e2
      rw [← e1', ← e2']
      exact q
theorem nodup_at {α : Type} {N : List α} (hN : N.Nodup) {i j : Nat} {x : α} (a : N[i]? = some x) (b : N[j]? = some x) : i = j := by
  obtain ⟨h1, e1⟩ := List.getElem?_eq_some_iff.mp a
  obtain ⟨h2, e2⟩ := List.getElem?_eq_some_iff.mp b
  exact (List.getElem_inj hN).mp (e1.trans e2.symm)
/-- a place of the store written -/
theorem SimS.put {S : Sto} {n : Nat} {a : Addr} {so : SO} {o : HO} (s : SimS K H p S) (ha : p.m[n]? = some a) (q : SOk K (upd H a o) p a so) : SimS K (upd H a o) p (S.set n so) := by
  have hm : a ∈ p.m := List.mem_of_getElem? ha
  have g : Grow p.m H p.m (upd H a o) := Grow.put hm
  refine ⟨by rw [List.length_set]; exact s.len, s.nd, fun b hb => ⟨g.hold b (s.res b hb).1, (s.res b hb).2⟩, fun k b so' e1 e2 => ?_⟩
  by_cases hk : k = n
  · subst hk
    rw [ha] at e1
    cases e1
    have hlt := (List.getElem?_eq_some_iff.mp e2).1
    rw [List.length_set] at hlt
    rw [List.getElem?_set_self hlt] at e2
    cases e2
    exact q
  · rw [List.getElem?_set_ne (Ne.symm hk)] at e2
    have ne : b ≠ a := fun e => hk (nodup_at s.nd e1 (by rw [e]; exact ha))
    exact (s.at_ k b so' e1 e2).grow g rfl (upd_ne ne)

def SoB (b : Nat) : SO → Bool
  | .lst l => refBs b l
  | .dic l => l.all fun p => refB b p.2
def Cl (b : Nat) (S : Sto) : Prop := b ≤ S.length ∧ ∀ n so, n < b → S[n]? = some so → SoB b so = true
def Cls (bs : List Nat) (S : Sto) : Prop := ∀ b ∈ bs, Cl b S
mutual
theorem RelD.cut {m r : List Addr} {b : Nat} : ∀ (d : D) (v : V), refB b d = true → RelD K H ⟨m, r⟩ d v → RelD K H ⟨m.take b, r⟩ d v
  | .non, _, _, h => h
  | .bl _, _, _, h => h
  | .int _, _, _, h => h
  | .str _, _, _, h => h
  | .tup l, v, c, q => by
    obtain ⟨a, xs, e, t, q⟩ := q
    refine ⟨a, xs, e, ?_, RelDs.cut l xs c q⟩
    rcases t with ⟨t, n⟩ | t
    · exact .inl ⟨t, fun z => n (List.mem_of_mem_take z)⟩
    · exact .inr t
  | .lst l, v, c, q => by
    obtain ⟨a, xs, e, t, n, nr, q⟩ := q
    exact ⟨a, xs, e, t, fun z => n (List.mem_of_mem_take z), nr, RelDs.cut l xs c q⟩
  | .scr l, v, c, q => by
    obtain ⟨a, e, t⟩ := q
    refine ⟨a, e, ?_⟩
    rcases t with ⟨t, n⟩ | t
    · exact .inl ⟨t, fun z => n (List.mem_of_mem_take z)⟩
    · exact .inr t
  | .ref n, v, c, q => by
    obtain ⟨a, e, t⟩ := q
    have hn : n < b := Nat.le_of_ble_eq_true (show Nat.ble (n + 1) b = true from c)
    have e' : m[n]? = some a := e
    exact ⟨a, by show (m.take b)[n]? = some a; rw [List.getElem?_take_of_lt hn]; exact e', t⟩
  | .rng lo hi, v, c, q => by
    obtain ⟨a, e, t, n⟩ := q
    exact ⟨a, e, t, fun z => n (List.mem_of_mem_take z)⟩
theorem RelDs.cut {m r : List Addr} {b : Nat} : ∀ (ds : List D) (vs : List V), refBs b ds = true → RelDs K H ⟨m, r⟩ ds vs → RelDs K H ⟨m.take b, r⟩ ds vs
  | [], _, _, q => q
  | d :: ds, vs, c, q => by
    obtain ⟨v, t, e, h1, h2⟩ := q
    have c' := Bool.and_eq_true_iff.mp (show (refB b d && refBs b ds) = true from c)
    exact ⟨v, t, e, RelD.cut d v c'.1 h1, RelDs.cut ds t c'.2 h2⟩
end
theorem RelKV.cut {m r : List Addr} {b : Nat} : ∀ (ds : List (Int × D)) (vs : List (Key × V)), (ds.all fun p => refB b p.2) = true → RelKV K H ⟨m, r⟩ ds vs → RelKV K H ⟨m.take b, r⟩ ds vs
  | [], _, _, q => q
  | (k, d) :: ds, vs, c, q => by
    obtain ⟨v, t, e, h1, h2⟩ := q
    rw [List.all_cons, Bool.and_eq_true] at c
    exact ⟨v, t, e, RelD.cut d v c.1 h1, RelKV.cut ds t c.2 h2⟩
theorem SimS.cut {S : Sto} {m r : List Addr} {b : Nat} (s : SimS K H ⟨m, r⟩ S) (c : Cl b S) : SimS K H ⟨m.take b, r⟩ (S.take b) := by
  have hl : m.length = S.length := s.len
  refine ⟨by simp [hl], s.nd.sublist (List.take_sublist _ _), fun a ha => ⟨(s.res a ha).1, fun z => (s.res a ha).2 (List.mem_of_mem_take z)⟩, fun n a so e1 e2 => ?_⟩
  have hn : n < b := by
    have := (List.getElem?_eq_some_iff.mp e2).1
    rw [List.length_take] at this
    omega
  have e1 : (m.take b)[n]? = some a := e1
  rw [List.getElem?_take_of_lt hn] at e1 e2
  have q := s.at_ n a so e1 e2
  have z := c.2 n so hn e2
  cases so with
  | lst l => obtain ⟨xs, e, q⟩ := q; exact ⟨xs, e, RelDs.cut l xs z q⟩
  | dic l => obtain ⟨xs, e, q⟩ := q; exact ⟨xs, e, RelKV.cut l xs z q⟩
mutual
theorem RelD.bound {m r : List Addr} {b : Nat} (hb : m.length ≤ b) : ∀ (d : D) (v : V), RelD K H ⟨m, r⟩ d v → refB b d = true
  | .non, _, _ => rfl
  | .bl _, _, _ => rfl
  | .int _, _, _ => rfl
  | .str _, _, _ => rfl
  | .tup l, v, q => by
    obtain ⟨a, xs, e, t, q⟩ := q
    exact RelDs.bound hb l xs q
  | .lst l, v, q => by
    obtain ⟨a, xs, e, t, n, nr, q⟩ := q
    exact RelDs.bound hb l xs q
  | .scr l, v, _ => rfl
  | .ref n, v, q => by
    obtain ⟨a, e, t⟩ := q
    have e' : m[n]? = some a := e
    have := (List.getElem?_eq_some_iff.mp e').1
    show Nat.ble (n + 1) b = true
    exact Nat.ble_eq_true_of_le (by omega)
  | .rng lo hi, v, _ => rfl
theorem RelDs.bound {m r : List Addr} {b : Nat} (hb : m.length ≤ b) : ∀ (ds : List D) (vs : List V), RelDs K H ⟨m, r⟩ ds vs → refBs b ds = true
  | [], _, _ => rfl
  | d :: ds, vs, q => by
    obtain ⟨v, t, e, h1, h2⟩ := q
    show (refB b d && refBs b ds) = true
    rw [RelD.bound hb d v h1, RelDs.bound hb ds t h2] <;> rfl
end
theorem RelKV.bound {m r : List Addr} {b : Nat} (hb : m.length ≤ b) : ∀ (ds : List (Int × D)) (vs : List (Key × V)), RelKV K H ⟨m, r⟩ ds vs → (ds.all fun p => refB b p.2) = true
  | [], _, _ => rfl
  | (k, d) :: ds, vs, q => by
    obtain ⟨v, t, e, h1, h2⟩ := q
    rw [List.all_cons, RelD.bound hb d v h1, RelKV.bound hb ds t h2] <;> rfl
theorem SimS.cl {S : Sto} (s : SimS K H p S) : Cl S.length S := by
  refine ⟨Nat.le_refl _, fun n so hn e => ?_⟩
  obtain ⟨a, ea, q⟩ := s.of_get e
  have hb : p.m.length ≤ S.length := Nat.le_of_eq s.len
  cases so with
  | lst l => obtain ⟨xs, _, q⟩ := q; exact RelDs.bound (m := p.m) (r := p.r) hb l xs q
  | dic l => obtain ⟨xs, _, q⟩ := q; exact RelKV.bound (m := p.m) (r := p.r) hb l xs q
end
end Ri
set_option maxHeartbeats 1000000
namespace Ri
open PySem PySem.Spec PyProof.Rows L2
theorem tup_once (l : Addr) (its : Array Value) (n : Nat) (dd : Option Addr) (sl : Array (Option Value)) (u : Tok) :
    Meets (Builtin.«tuple.__mul__» ⟨[.ref l, .int 1 u], []⟩) (fun _ R s => s.heap.get? l = some ⟨.type "tuple", dd, .seq its n, sl⟩ ∧ R (.ok (.ret (.ref l))) s) :=
  .of_wp fun prog w A R s h => by
    obtain ⟨hp, g, d, tk, os⟩ := s
    obtain ⟨hl, h⟩ := h
    have f1 := AutoSeq1.idx_int
    have c1 : (its.isEmpty || (1 : Int) == 1) = true := by rw [show ((1 : Int) == 1) = true from rfl, Bool.or_true]
    wp_walk using wpAny_loadPart' hl
    repeat (first
      | (refine wpAny_ite_false (by decide) ?_; wp_walk using wpAny_loadPart' hl)
      | (refine wpAny_ite_true (by rw [c1]) ?_; wp_walk using wpAny_loadPart' hl))
    exact ⟨_, rfl, h⟩
def rRep1 (K : PySem.W.Frag) : R2 := fun x y H Q => ∃ l xs, x = .ref l ∧ y = .int 1 ∧ SqT K H l xs ∧ Q (.ref l) H
theorem op_rep1 {X : Cx} : OpR X (binaryOp .Mult) (rRep1 X.K) := by
  intro pins s σ H x y v u Q I rx ry h
  obtain ⟨l, xs, rfl, rfl, hT, q⟩ := h
  cases rx
  obtain ⟨t, rfl⟩ := ry
  obtain ⟨its, r, ⟨⟨cls, dd, data, sl⟩, ho, hc, n, hd⟩, hs⟩ := I.tuple hT
  simp only at hc hd
  subst hc hd
  exact wpAny_binaryOp_repeat_ref (T := "tuple") (U := "int") (by decide) ⟨_, ho, rfl⟩ (fun s' => typeIs_int s' 1 t) noFill_tuple_mul F.fills_int_mul F.slot_int_rmul repeat_tuple F.slot_int_index.lookup
    (call_meets F.slot_int_rmul (typeIs_int s 1 t) F.entry_int_rmul (F.args_int_rmul_2 _ _) (int_rmul_tuple 1 t l its.toArray n dd sl)
      ⟨ho, rfl, ⟨_, ho, rfl⟩, call_meets F.slot_tuple_mul ⟨_, ho, rfl⟩ F.entry_tuple_mul (F.args_tuple_mul_2 _ _) (tup_once l its.toArray n dd sl t) ⟨ho, ⟨.ref l, _, I, rfl, q⟩⟩⟩)
end Ri
set_option maxHeartbeats 1000000
namespace Ri
open PySem PySem.Spec PyProof.Rows L2

abbrev St := L2.St
abbrev XRel := Nat → D → Value → Option Addr → Hp → Prop
/-- what comes of a run -/
def Post (K : PySem.W.Frag) (XR : XRel) (E : XK) (bs : List Nat) (r : List Addr) (m : List Addr) (H : Hp) {α : Type} (res : R α) (okk : α → List Addr → Sto → Hp → Prop) : Prop := match res with
  | .ok a S' => ∀ m' H', Grow m H m' H' → SimS K H' ⟨m', r⟩ S' → Cls bs S' → okk a m' S' H'
  | .ex c d S' => ∀ m' H' cv dd, Grow m H m' H' → SimS K H' ⟨m', r⟩ S' → Cls bs S' → XR c d cv dd H' → E cv dd H'
  | .bad => False
section
variable {K : PySem.W.Frag} {XR : XRel} {E : XK} {bs : List Nat} {r m m1 : List Addr} {H H1 : Hp} {α β : Type}
theorem Post.from {res : R α} {okk : α → List Addr → Sto → Hp → Prop} (h : Post K XR E bs r m H res okk) (g : Grow m H m1 H1) : Post K XR E bs r m1 H1 res okk := by
  cases res with
  | ok a S => exact fun m' H' g' s c => h m' H' (g.trans g') s c
  | ex c d S => exact fun m' H' cv dd g' s cl x => h m' H' cv dd (g.trans g') s cl x
  | bad => exact h
theorem Post.bind {x : M α} {k : α → M β} {S : Sto} {okk : β → List Addr → Sto → Hp → Prop} (h : Post K XR E bs r m H (bnd x k S) okk) : Post K XR E bs r m H (x S) fun a m1 S1 H1 => Post K XR E bs r m1 H1 (k a S1) okk := by
  unfold bnd at h
  cases e : x S with
  | ok a S1 =>
    rw [e] at h
    exact fun m' H' g s c => Post.from h g
  | ex c d S1 =>
    rw [e] at h
    exact h
  | bad =>
    rw [e] at h
    exact h
theorem Post.imp {res : R α} {okk okk' : α → List Addr → Sto → Hp → Prop} (h : Post K XR E bs r m H res okk) (f : ∀ a m' S' H', Grow m H m' H' → SimS K H' ⟨m', r⟩ S' → Cls bs S' → okk a m' S' H' → okk' a m' S' H') : Post K XR E bs r m H res okk' := by
  cases res with
  | ok a S => exact fun m' H' g s c => f a m' S H' g s c (h m' H' g s c)
  | ex c d S => exact h
  | bad => exact h
theorem Post.here {a : α} {S : Sto} {okk : α → List Addr → Sto → Hp → Prop} (h : Post K XR E bs r m H (.ok a S) okk) (s : SimS K H ⟨m, r⟩ S) (c : Cls bs S) : okk a m S H := h m H (Grow.refl m H) s c
theorem Post.ofO {o : Option α} {S : Sto} {okk : α → List Addr → Sto → Hp → Prop} (h : Post K XR E bs r m H (ofO o S) okk) : ∃ a, o = some a ∧ Post K XR E bs r m H (.ok a S) okk := by
  cases o with
  | none => exact h.elim
  | some a => exact ⟨a, rfl, h⟩
end

/-- where one stands -/
structure At (K : PySem.W.Frag) (ρ : Env) (S : Sto) (m r : List Addr) (σ : St) (H : Hp) : Prop where
  sto : SimS K H ⟨m, r⟩ S
  cl : Cls ρ.bs S
  len : ρ.v.length = σ.length
  var : ∀ (i : Nat) (d : D), ρ.v[i]? = some (some d) → ∃ v, σ[i]? = some (some v) ∧ RelD K H ⟨m, r⟩ d v
theorem At.grow {K : PySem.W.Frag} {ρ : Env} {S S' : Sto} {m m' r : List Addr} {σ : St} {H H' : Hp} (a : At K ρ S m r σ H) (g : Grow m H m' H') (s : SimS K H' ⟨m', r⟩ S') (c : Cls ρ.bs S') : At K ρ S' m' r σ H' :=
  ⟨s, c, a.len, fun i d e => let ⟨v, e1, e2⟩ := a.var i d e; ⟨v, e1, RelD.grow (p := ⟨m, r⟩) (p' := ⟨m', r⟩) g rfl d v e2⟩⟩
theorem rel_grow {K : PySem.W.Frag} {m m' r : List Addr} {H H' : Hp} (g : Grow m H m' H') {d : D} {v : V} (h : RelD K H ⟨m, r⟩ d v) : RelD K H' ⟨m', r⟩ d v := RelD.grow (p := ⟨m, r⟩) (p' := ⟨m', r⟩) g rfl d v h
theorem rels_grow {K : PySem.W.Frag} {m m' r : List Addr} {H H' : Hp} (g : Grow m H m' H') {d : List D} {v : List V} (h : RelDs K H ⟨m, r⟩ d v) : RelDs K H' ⟨m', r⟩ d v := RelDs.grow (p := ⟨m, r⟩) (p' := ⟨m', r⟩) g rfl d v h

section
variable (K : PySem.W.Frag) (XR : XRel) (E : XK)
/-- the readings: of a value, a test, several values, a slice's end, a new list -/
def tE (f : Env → M D) : TE := fun σ H Q => ∃ ρ S m r, At K ρ S m r σ H ∧ Post K XR E ρ.bs r m H (f ρ S) fun d m' _ H' => ∀ v, RelD K H' ⟨m', r⟩ d v → Q v H'
def tT (f : Env → M Bool) : TT := fun σ H Q => ∃ ρ S m r, At K ρ S m r σ H ∧ Post K XR E ρ.bs r m H (f ρ S) fun b _ _ H' => Q b H'
def tA (f : Env → M (List D)) : TA := fun σ H Q => ∃ ρ S m r, At K ρ S m r σ H ∧ Post K XR E ρ.bs r m H (f ρ S) fun d m' _ H' => ∀ v, RelDs K H' ⟨m', r⟩ d v → Q v H'
def tO (f : Env → M (Option Int)) : TO := fun σ H Q => ∃ ρ S m r, At K ρ S m r σ H ∧ Post K XR E ρ.bs r m H (f ρ S) fun o _ _ H' => Q o H'
/-- a list that is made: from the state behind its items' evaluation, with the list's own place a, that nobody else knows -/
def NewL (Q : VK) (r m : List Addr) (H : Hp) (bs : List Nat) (l : List D) (S : Sto) : Prop :=
  ∀ a xs m' H', Grow m H m' H' → SimS K H' ⟨m', a :: r⟩ S → Cls bs S → H a = none → H' a = some (.lst xs) → RelDs K H' ⟨m', a :: r⟩ l xs → Q (.ref a) H'
def tN (f : Env → M (List D)) : TE := fun σ H Q => ∃ ρ S m r, At K ρ S m r σ H ∧ (match f ρ S with
  | .ok l S' => NewL K Q r m H ρ.bs l S'
  | .ex c d S' => ∀ m' H' cv dd, Grow m H m' H' → SimS K H' ⟨m', r⟩ S' → Cls ρ.bs S' → XR c d cv dd H' → E cv dd H'
  | .bad => False)
end
theorem _root_.L2.PE.imp {X : Cx} {e : Expr} {t t' : TE} (h : PE X e t) (f : ∀ σ H Q, t' σ H Q → t σ H Q) : PE X e t' := ⟨fun pins s σ H Q I q => h.run pins s σ H Q I (f σ H Q q)⟩
theorem _root_.L2.PT.imp {X : Cx} {e : Expr} {t t' : TT} (h : PT X e t) (f : ∀ σ H Q, t' σ H Q → t σ H Q) : PT X e t' := ⟨fun pins s σ H Q I q => h.run pins s σ H Q I (f σ H Q q)⟩
theorem _root_.L2.PA.imp {X : Cx} {e : List Expr} {t t' : TA} (h : PA X e t) (f : ∀ σ H Q, t' σ H Q → t σ H Q) : PA X e t' := ⟨fun pos pins s σ H Q I q => h.run pos pins s σ H Q I (f σ H Q q)⟩
theorem _root_.L2.PS.imp {X : Cx} {e : Stmt} {t t' : TS} (h : PS X e t) (f : ∀ D σ H, t' D σ H → t D σ H) : PS X e t' := ⟨fun pins s σ H D I q => h.run pins s σ H D I (f D σ H q)⟩
theorem _root_.L2.PSs.imp {X : Cx} {e : List Stmt} {t t' : TS} (h : PSs X e t) (f : ∀ D σ H, t' D σ H → t D σ H) : PSs X e t' := ⟨fun pins s σ H D I q => h.run pins s σ H D I (f D σ H q)⟩

section
variable {X : Cx} {XR : XRel} {E : XK} {K : PySem.W.Frag} {a b c : Expr} {pos : Pos}
/-- one value, then the rest -/
theorem tE.one {f : Env → M D} {k : Env → D → M D} {σ : St} {H : Hp} {Q : VK} (h : tE K XR E (fun ρ => bnd (f ρ) (k ρ)) σ H Q) : tE K XR E f σ H fun v H1 => ∃ ρ S m r d, At K ρ S m r σ H1 ∧ RelD K H1 ⟨m, r⟩ d v ∧
    Post K XR E ρ.bs r m H1 (k ρ d S) fun d m' _ H' => ∀ v, RelD K H' ⟨m', r⟩ d v → Q v H' := by
  obtain ⟨ρ, S, m, r, A, h⟩ := h
  exact ⟨ρ, S, m, r, A, h.bind.imp fun d m1 S1 H1 g s c q v rv => ⟨ρ, S1, m1, r, d, A.grow g s c, rv, q⟩⟩
/-- two values, then the rest -/
theorem tE.two {f g : Env → M D} {k : Env → D → D → M D} {σ : St} {H : Hp} {Q : VK} (h : tE K XR E (fun ρ => bnd (f ρ) fun x => bnd (g ρ) (k ρ x)) σ H Q) : tE K XR E f σ H fun v H1 => tE K XR E g σ H1 fun u H2 => ∃ ρ S m r d e, At K ρ S m r σ H2 ∧
    RelD K H2 ⟨m, r⟩ d v ∧ RelD K H2 ⟨m, r⟩ e u ∧ Post K XR E ρ.bs r m H2 (k ρ d e S) fun d m' _ H' => ∀ v, RelD K H' ⟨m', r⟩ d v → Q v H' := by
  obtain ⟨ρ, S, m, r, A, h⟩ := h
  refine ⟨ρ, S, m, r, A, h.bind.imp fun d m1 S1 H1 g1 s1 c1 q v rv => ?_⟩
  exact ⟨ρ, S1, m1, r, A.grow g1 s1 c1, q.bind.imp fun e m2 S2 H2 g2 s2 c2 q u ru => ⟨ρ, S2, m2, r, d, e, (A.grow g1 s1 c1).grow g2 s2 c2, rel_grow g2 rv, ru, q⟩⟩

theorem de_var {i : Nat} {x : Str} (hN : X.N[i]? = some x) (hv : Vis X.env.scope x) (hd : (x == ("__debug__" : Str)) = false) (hcd : (x == ("__classdict__" : Str)) = false) :
    PE X (.Name x pos) (tE X.K XR E fun ρ => getV ρ.v i) := (pe_var hN hv hd hcd).imp fun σ H Q h => by
  obtain ⟨ρ, S, m, r, A, h⟩ := h
  have h : Post X.K XR E ρ.bs r m H (getV ρ.v i S) (fun d m' _ H' => ∀ v, RelD X.K H' ⟨m', r⟩ d v → Q v H') := h
  unfold getV at h
  cases e : ρ.v[i]? with
  | none => rw [e] at h; exact h.elim
  | some o =>
    cases o with
    | none => rw [e] at h; exact h.elim
    | some d =>
      rw [e] at h
      obtain ⟨v, e1, rv⟩ := A.var i d e
      exact ⟨v, e1, Post.here h A.sto A.cl v rv⟩
theorem de_cst {e : Expr} {d : D} {v : V} (h : PE X e (tC v)) (hv : ∀ H p, RelD X.K H p d v) : PE X e (tE X.K XR E fun _ => ret d) := h.imp fun σ H Q h => by
  obtain ⟨ρ, S, m, r, A, h⟩ := h
  exact Post.here h A.sto A.cl v (hv _ _)

/-- an operator by its rule on values: f what the operator gives -/
def OpOk (K : PySem.W.Frag) (XR : XRel) (E : XK) (f : Sto → D → D → Option D) (rr : R2) : Prop :=
  ∀ (S : Sto) (m r : List Addr) (H : Hp) (bs : List Nat) (x y d : D) (v u : V) (Q : VK), SimS K H ⟨m, r⟩ S → Cls bs S → RelD K H ⟨m, r⟩ x v → RelD K H ⟨m, r⟩ y u → f S x y = some d →
    Post K XR E bs r m H (.ok d S) (fun d m' _ H' => ∀ v, RelD K H' ⟨m', r⟩ d v → Q v H') → rr v u H Q
theorem de_bin {op : Operator} {f g : Env → M D} {h : Sto → D → D → Option D} {rr : R2} (ho : OpR X (binaryOp op) rr) (hok : OpOk X.K XR E h rr) (ha : PE X a (tE X.K XR E f)) (hb : PE X b (tE X.K XR E g)) :
    PE X (.BinOp a op b pos) (tE X.K XR E fun ρ => bnd (f ρ) fun x => bnd (g ρ) fun y => fun S => ofO (h S x y) S) := (pe_op ho ha hb).imp fun σ H Q q => by
  obtain ⟨ρ, S, m, r, A, q⟩ := q.two
  refine ⟨ρ, S, m, r, A, q.imp fun d m1 S1 H1 g1 s1 c1 q v rv => ?_⟩
  obtain ⟨ρ1, S1, m1, r1, A1, q⟩ := q v rv
  refine ⟨ρ1, S1, m1, r1, A1, q.imp fun d2 m2 S2 H2 g2 s2 c2 q u ru => ?_⟩
  obtain ⟨ρ2, S2, m2, r2, x, y, A2, rx, ry, q⟩ := q u ru
  obtain ⟨z, e, q⟩ := q.ofO
  exact hok S2 m2 r2 H2 ρ2.bs x y z v u Q A2.sto A2.cl rx ry e q
end

section
variable {K : PySem.W.Frag} {XR : XRel} {E : XK} {m r : List Addr} {H : Hp} {bs : List Nat} {S : Sto} {Q : VK}
abbrev PostV (K : PySem.W.Frag) (XR : XRel) (E : XK) (bs : List Nat) (r m : List Addr) (H : Hp) (res : R D) (Q : VK) : Prop := Post K XR E bs r m H res fun d m' _ H' => ∀ v, RelD K H' ⟨m', r⟩ d v → Q v H'
/-- a plain value -/
theorem PostV.val {d : D} {v : V} (h : PostV K XR E bs r m H (.ok d S) Q) (s : SimS K H ⟨m, r⟩ S) (c : Cls bs S) (rv : RelD K H ⟨m, r⟩ d v) : Q v H := Post.here h s c v rv
/-- a new tuple -/
theorem PostV.tup {l : List D} {xs : List V} (h : PostV K XR E bs r m H (.ok (.tup l) S) Q) (s : SimS K H ⟨m, r⟩ S) (c : Cls bs S) (rl : RelDs K H ⟨m, r⟩ l xs) : ∀ p, H p = none → Q (.ref p) (upd H p (.tup xs)) := fun p hp => by
  have g : Grow m H m (upd H p (.tup xs)) := Grow.new1 hp
  have nm : p ∉ m := fun z => s.m_some z hp
  exact h m _ g (s.new1 hp) c (.ref p) ⟨p, xs, rfl, .inl ⟨upd_same, nm⟩, rels_grow g rl⟩
theorem PostV.lst {l : List D} {xs : List V} (h : PostV K XR E bs r m H (.ok (.lst l) S) Q) (s : SimS K H ⟨m, r⟩ S) (c : Cls bs S) (rl : RelDs K H ⟨m, r⟩ l xs) : ∀ p, H p = none → Q (.ref p) (upd H p (.lst xs)) := fun p hp => by
  have g : Grow m H m (upd H p (.lst xs)) := Grow.new1 hp
  have nm : p ∉ m := fun z => s.m_some z hp
  have nr : p ∉ r := fun z => (s.res p z).1 hp
  exact h m _ g (s.new1 hp) c (.ref p) ⟨p, xs, rfl, upd_same, nm, nr, rels_grow g rl⟩
end

theorem RelD.int_inv {K : PySem.W.Frag} {H : Hp} {p : Pl} {i : Int} {v : V} (h : RelD K H p (.int i) v) : v = .int i := h
theorem BIG_eq : BIG = 2 ^ 4000 := rfl
theorem sml_lt {i : Int} (h : sml i = true) : i.natAbs < 2 ^ 4001 := by
  have h1 : i.natAbs ≤ BIG := Nat.le_of_ble_eq_true h
  rw [BIG_eq] at h1
  have h2 : (2 : Nat) ^ 4000 < 2 ^ 4001 := Nat.pow_lt_pow_right (by decide) (by decide)
  exact Nat.lt_of_le_of_lt h1 h2
theorem LIM_line {n : Nat} (h : Nat.ble n LIM = true) : n ≤ sizeLine := by
  have h1 : n ≤ 1000000 := Nat.le_of_ble_eq_true h
  rw [sizeLine_eq]
  omega
theorem lstOf_inv {K : PySem.W.Frag} {H : Hp} {m r : List Addr} {S : Sto} {d : D} {l : List D} {v : V} (s : SimS K H ⟨m, r⟩ S) (rv : RelD K H ⟨m, r⟩ d v) (e : lstOf S d = some l) : ∃ a xs, v = .ref a ∧ H a = some (.lst xs) ∧ RelDs K H ⟨m, r⟩ l xs := by
  cases d with
  | lst k =>
    have e' : k = l := Option.some.inj e
    subst e'
    obtain ⟨a, xs, e1, e2, _, _, e3⟩ := rv
    exact ⟨a, xs, e1, e2, e3⟩
  | ref n =>
    obtain ⟨a, e1, e2⟩ := rv
    have e' : (match S[n]? with | some (.lst l) => some l | _ => none) = some l := e
    cases q : S[n]? with
    | none => rw [q] at e'; cases e'
    | some so =>
      rw [q] at e'
      cases so with
      | dic _ => cases e'
      | lst k =>
        have e' : k = l := Option.some.inj e'
        subst e'
        obtain ⟨xs, h1, h2⟩ := s.at_ n a _ e1 q
        exact ⟨a, xs, e2, h1, h2⟩
  | _ => cases e
theorem fl_mul {i j : Int} (hi : sml i = true) (hj : sml j = true) : CMulW i j := wide_mul (sml_lt hi) (sml_lt hj) (by decide) (by decide) (by decide)
def CDivA (i j : Int) : Prop := j ≠ 0 ∧ j.natAbs.log2 < 9000
theorem op_fdivA {X : Cx} : OpR X (binaryOp .FloorDiv) (rI CDivA fun i j => .int (i.fdiv j)) := opI fun i j _ _ _ _ _ hc q => floordiv_int hc.1 q (.inl (PyProof.noPylong_of_log2 hc.2))
theorem div_ok {j : Int} (h0 : (j != 0) = true) (hj : sml j = true) : CDivA i j := by
  refine ⟨by simpa using h0, ?_⟩
  have h := sml_lt hj
  exact Nat.lt_of_lt_of_le (PySem.Flt.log2_lt_of (by decide) h) (by decide)

def rAr (K : PySem.W.Frag) : Op → R2
  | .add => fun x y H Q => (rI0 (fun i j => .int (i + j)) x y H Q ∨ rCatA K x y H Q) ∨ ((∃ i j, x = .str i ∧ y = .str j ∧ i.length + j.length ≤ sizeLine ∧ Q (.str (i ++ j)) H) ∨ rCat x y H Q)
  | .sub => rI0 fun i j => .int (i - j)
  | .mul => fun x y H Q => rI CMulW (fun i j => .int (i * j)) x y H Q ∨ (rRep x y H Q ∨ (rRepT K x y H Q ∨ rRep1 K x y H Q))
  | .fdiv => rI CDivA fun i j => .int (i.fdiv j)
  | .mod => rI (fun _ j => j ≠ 0) fun i j => .int (i.fmod j)
  | .pow => rI CPow fun i j => .int (i ^ j.toNat)
def opy : Op → Operator
  | .add => .Add
  | .sub => .Sub
  | .mul => .Mult
  | .fdiv => .FloorDiv
  | .mod => .Mod
  | .pow => .Pow
theorem opR_ar {X : Cx} : ∀ o, OpR X (binaryOp (opy o)) (rAr X.K o)
  | .add => (op_add.or op_catA).or (op_add_str.or op_cat)
  | .sub => op_sub
  | .mul => op_mulW.or (op_rep.or (op_repT.or op_rep1))
  | .fdiv => op_fdivA
  | .mod => op_modN
  | .pow => op_pow
end Ri
set_option maxHeartbeats 1000000
namespace Ri
open PySem PySem.Spec PyProof.Rows L2

section
variable {K : PySem.W.Frag} {XR : XRel} {E : XK}
theorem intI_ok {f : Int → Int → Option Int} {Cc : Int → Int → Prop} {g : Int → Int → Int} (hf : ∀ i j k, f i j = some k → Cc i j ∧ k = g i j) : OpOk K XR E (fun _ x y => intI f x y) (rI Cc fun i j => .int (g i j)) := by
  intro S m r H bs x y d v u Q s c rx ry e q
  dsimp only at e
  unfold intI at e
  split at e
  · rename_i i j
    cases hk : f i j with
    | none => rw [hk] at e; cases e
    | some k =>
      rw [hk] at e
      cases e
      obtain ⟨h1, h2⟩ := hf i j k hk
      subst h2
      exact ⟨i, j, rx, ry, h1, PostV.val q s c rfl⟩
  · cases e
theorem two_and {a b : Bool} (h : (a && b) = true) : a = true ∧ b = true := Bool.and_eq_true_iff.mp h
theorem some_if {α : Type} {b : Bool} {x y : α} (h : (if b = true then some x else none) = some y) : b = true ∧ x = y := by
  cases b with
  | false => cases h
  | true => exact ⟨rfl, Option.some.inj h⟩
theorem tup_inv {m r : List Addr} {H : Hp} {l : List D} {v : V} (h : RelD K H ⟨m, r⟩ (.tup l) v) : ∃ a xs, v = .ref a ∧ TupAt K H m a xs ∧ RelDs K H ⟨m, r⟩ l xs := h
theorem catL_ok {S : Sto} {m r : List Addr} {H : Hp} {bs : List Nat} {x y : D} {l : List D} {v u : V} {Q : VK} (s : SimS K H ⟨m, r⟩ S) (c : Cls bs S) (rx : RelD K H ⟨m, r⟩ x v) (ry : RelD K H ⟨m, r⟩ y u) (e : catL S x y = some l)
    (q : ∀ p xs, H p = none → RelDs K H ⟨m, r⟩ l xs → Q (.ref p) (upd H p (.lst xs))) : rCat v u H Q := by
  unfold catL at e
  split at e
  · rename_i p t ep et
    obtain ⟨h1, h2⟩ := some_if e
    subst h2
    obtain ⟨a, xs, ev, ha, ra⟩ := lstOf_inv s rx ep
    obtain ⟨b, ys, eu, hb, rb⟩ := lstOf_inv s ry et
    have l1 := ra.length
    have l2 := rb.length
    have hz := LIM_line h1
    exact ⟨a, b, xs, ys, ev, eu, ha, hb, by omega, fun z hz => q z _ hz (ra.append rb)⟩
  · cases e
theorem repM_ok {S : Sto} {m r : List Addr} {H : Hp} {bs : List Nat} {x : D} {j : Int} {l : List D} {v u : V} {Q : VK} (s : SimS K H ⟨m, r⟩ S) (c : Cls bs S) (rx : RelD K H ⟨m, r⟩ x v) (ry : RelD K H ⟨m, r⟩ (.int j) u) (e : repM S x j = some l)
    (q : ∀ p xs, H p = none → RelDs K H ⟨m, r⟩ l xs → Q (.ref p) (upd H p (.lst xs))) : rRep v u H Q := by
  unfold repM at e
  split at e
  · rename_i p ep
    obtain ⟨h1, h2⟩ := some_if e
    obtain ⟨h1, h3⟩ := two_and h1
    subst h2
    obtain ⟨a, xs, ev, ha, ra⟩ := lstOf_inv s rx ep
    have l1 := ra.length
    have hz := LIM_line h1
    have hj : j.natAbs ≤ 1000000000 := Nat.le_of_ble_eq_true h3
    exact ⟨a, j, xs, ev, ry, ha, by omega, by omega, by rw [← l1]; exact hz, fun z hz => q z _ hz (ra.rep _)⟩
  · cases e
theorem add_ok : OpOk K XR E (fun S x y => addD S x y) (rAr K .add) := by
  intro S m r H bs x y d v u Q s c rx ry e q
  dsimp only at e
  unfold addD at e
  split at e
  · cases e
    exact .inl (.inl ⟨_, _, rx, ry, PostV.val q s c rfl⟩)
  · rename_i l1 l2
    obtain ⟨h1, h2⟩ := some_if e
    subst h2
    obtain ⟨a, xs, ev, ta, ra⟩ := tup_inv rx
    obtain ⟨b, ys, eu, tb, rb⟩ := tup_inv ry
    have n1 := ra.length
    have n2 := rb.length
    have hz := LIM_line h1
    refine .inl (.inr ⟨a, b, xs, ys, ev, eu, ta.sq, tb.sq, by omega, fun e1 => ?_, fun _ e2 => ?_, fun _ _ => ?_⟩)
    · subst e1
      have z : l1 = [] := List.length_eq_zero_iff.mp n1
      subst z
      exact PostV.val q s c ⟨b, ys, rfl, tb, rb⟩
    · subst e2
      have z : l2 = [] := List.length_eq_zero_iff.mp n2
      subst z
      rw [List.append_nil] at q
      exact PostV.val q s c ⟨a, xs, rfl, ta, ra⟩
    · exact PostV.tup q s c (ra.append rb)
  · rename_i a b
    obtain ⟨h1, h2⟩ := some_if e
    subst h2
    exact .inr (.inl ⟨_, _, rx, ry, LIM_line h1, PostV.val q s c rfl⟩)
  · cases hk : catL S x y with
    | none => rw [hk] at e; cases e
    | some l =>
      rw [hk] at e
      cases e
      exact .inr (.inr (catL_ok s c rx ry hk fun p xs hp rl => PostV.lst q s c rl p hp))
theorem mul_ok : OpOk K XR E (fun S x y => mulD S x y) (rAr K .mul) := by
  intro S m r H bs x y d v u Q s c rx ry e q
  dsimp only at e
  unfold mulD at e
  split at e
  · obtain ⟨h1, h2⟩ := some_if e
    obtain ⟨h1, h3⟩ := two_and h1
    subst h2
    exact .inl ⟨_, _, rx, ry, fl_mul h1 h3, PostV.val q s c rfl⟩
  · rename_i l j
    by_cases hj : (j == 1) = true
    · rw [if_pos hj] at e
      cases e
      obtain ⟨a, xs, ev, ta, ra⟩ := tup_inv rx
      have ej : j = 1 := by simpa using hj
      have q2 := PostV.val q s c rx
      rw [ev] at q2
      exact .inr (.inr (.inr ⟨a, xs, ev, by rw [ry, ej], ta.sq, q2⟩))
    rw [if_neg hj] at e
    obtain ⟨h1, h2⟩ := some_if e
    subst h2
    obtain ⟨h1, h5⟩ := two_and h1
    obtain ⟨h1, h4⟩ := two_and h1
    obtain ⟨h1, h3⟩ := two_and h1
    have g1 := Nat.le_of_ble_eq_true h1
    have g3 := Nat.le_of_ble_eq_true h3
    have g4 := of_decide_eq_true h4
    have g5 := of_decide_eq_true h5
    obtain ⟨a, xs, ev, ta, ra⟩ := tup_inv rx
    have n1 := ra.length
    refine .inr (.inr (.inl ⟨a, j, xs, ev, ry, ta.sq, fun z => ?_, g4, g5, by omega, PostV.tup q s c (ra.rep _)⟩))
    rw [z, List.length_nil] at n1
    omega
  · rename_i j _ _
    cases hk : repM S x j with
    | none => rw [hk] at e; cases e
    | some l =>
      rw [hk] at e
      cases e
      exact .inr (.inl (repM_ok s c rx ry hk fun p xs hp rl => PostV.lst q s c rl p hp))
  · cases e
theorem ar_ok : ∀ o, OpOk K XR E (fun S x y => arith S o x y) (rAr K o)
  | .add => add_ok
  | .sub => by
    have h := intI_ok (K := K) (XR := XR) (E := E) (f := fun i j => some (i - j)) (Cc := fun _ _ => True) (g := fun i j => i - j) (fun i j k h => ⟨trivial, (Option.some.inj h).symm⟩)
    intro S m r H bs x y d v u Q s c rx ry e q
    obtain ⟨i, j, h1, h2, _, h3⟩ := h S m r H bs x y d v u Q s c rx ry e q
    exact ⟨i, j, h1, h2, h3⟩
  | .mul => mul_ok
  | .fdiv => intI_ok fun i j k h => by
      obtain ⟨h1, h2⟩ := some_if h
      obtain ⟨h1, h3⟩ := two_and h1
      exact ⟨div_ok h1 h3, h2.symm⟩
  | .mod => intI_ok fun i j k h => by
      obtain ⟨h1, h2⟩ := some_if h
      exact ⟨by simpa using h1, h2.symm⟩
  | .pow => intI_ok fun i j k h => by
      obtain ⟨h1, h2⟩ := some_if h
      obtain ⟨h1, h5⟩ := two_and h1
      obtain ⟨h1, h4⟩ := two_and h1
      have g1 := of_decide_eq_true h1
      have g4 := of_decide_eq_true h4
      have g5 : i.natAbs ≤ 1000 := Nat.le_of_ble_eq_true h5
      exact ⟨⟨g1, by omega, by omega⟩, h2.symm⟩
end
section
variable {X : Cx} {XR : XRel} {E : XK} {a b : Expr} {pos : Pos} {f g : Env → M D}
theorem de_arith (o : Op) (ha : PE X a (tE X.K XR E f)) (hb : PE X b (tE X.K XR E g)) : PE X (.BinOp a (opy o) b pos) (tE X.K XR E fun ρ => bnd (f ρ) fun x => bnd (g ρ) fun y => fun S => ofO (arith S o x y) S) := de_bin (opR_ar o) (ar_ok o) ha hb
end
end Ri
set_option maxHeartbeats 1000000
namespace Ri
open PySem PySem.Spec PyProof.Rows L2

mutual
def toPy : D → PyData
  | .non => .none
  | .bl b => .bool b
  | .int i => .int i
  | .str x => .str x
  | .tup l => .tuple (toPys l)
  | .lst l => .list (toPys l)
  | _ => .none
  termination_by structural d => d
def toPys : List D → List PyData
  | [] => []
  | d :: r => toPy d :: toPys r
  termination_by structural d => d
end
theorem strOk_of {x : Str} (h : okS x = true) : PyData.strOk x = true := by
  unfold PyData.strOk
  unfold okS at h
  rw [← Array.all_toList]
  rw [List.all_eq_true] at h ⊢
  intro c hc
  exact decide_eq_true (Nat.le_of_ble_eq_true (h c hc))
mutual
theorem canLay_of : ∀ d : D, isDt d = true → (toPy d).canLay0 = true
  | .non, _ => rfl
  | .bl _, _ => rfl
  | .int _, _ => rfl
  | .str x, h => strOk_of h
  | .tup l, h => canLays_of l h
  | .lst l, h => canLays_of l h
  | .scr _, h => by cases h
  | .ref _, h => by cases h
  | .rng _ _, h => by cases h
theorem canLays_of : ∀ l : List D, isDts l = true → PyData.canLayAll0 (toPys l) = true
  | [], _ => rfl
  | d :: r, h => by
    obtain ⟨h1, h2⟩ := two_and (show (isDt d && isDts r) = true from h)
    show (PyData.canLay0 (toPy d) && PyData.canLayAll0 (toPys r)) = true
    rw [canLay_of d h1, canLays_of r h2] <;> rfl
end
mutual
theorem dep_of : ∀ d : D, (toPy d).depth ≤ depD d
  | .non => Nat.le_refl _
  | .bl _ => Nat.le_refl _
  | .int _ => Nat.le_refl _
  | .str x => Nat.le_refl _
  | .tup l => Nat.succ_le_succ (deps_of l)
  | .lst l => Nat.succ_le_succ (deps_of l)
  | .scr _ => Nat.le_refl _
  | .ref _ => Nat.le_refl _
  | .rng _ _ => Nat.le_refl _
theorem deps_of : ∀ l : List D, PyData.depthAll (toPys l) ≤ depL l
  | [] => Nat.le_refl _
  | d :: r => by
    show max (toPy d).depth (PyData.depthAll (toPys r)) ≤ max (depD d) (depL r)
    have h1 := dep_of d
    have h2 := deps_of r
    omega
end
theorem small_inv {d : D} (h : small d = true) : isDt d = true ∧ (toPy d).depth ≤ 60 ∧ SeqAt.shaped (toPy d) = true := by
  obtain ⟨h1, h2⟩ := two_and h
  have h3 : depD d ≤ 60 := Nat.le_of_ble_eq_true h2
  have h4 := dep_of d
  refine ⟨h1, by omega, ?_⟩
  unfold SeqAt.shaped
  rw [canLay_of d h1, Bool.true_and]
  exact decide_eq_true (by omega)
mutual
theorem eqD_py : ∀ d e : D, isDt d = true → isDt e = true → eqD d e = PyData.eqv (toPy d) (toPy e)
  | .non, e, _, he => by cases e <;> first | rfl | (cases he)
  | .bl _, e, _, he => by cases e <;> first | rfl | (cases he)
  | .int _, e, _, he => by cases e <;> first | rfl | (cases he)
  | .str x, e, _, he => by cases e <;> first | rfl | (cases he)
  | .tup l, e, h, he => by
    cases e with
    | tup k => exact eqDs_py l k h he
    | _ => first | rfl | (cases he)
  | .lst l, e, h, he => by
    cases e with
    | lst k => exact eqDs_py l k h he
    | _ => first | rfl | (cases he)
  | .scr _, _, h, _ => by cases h
  | .ref _, _, h, _ => by cases h
  | .rng _ _, _, h, _ => by cases h
theorem eqDs_py : ∀ l k : List D, isDts l = true → isDts k = true → eqDs l k = PyData.eqvAll (toPys l) (toPys k)
  | [], [], _, _ => rfl
  | [], _ :: _, _, _ => rfl
  | _ :: _, [], _, _ => rfl
  | d :: r, e :: t, h, k => by
    obtain ⟨h1, h2⟩ := two_and (show (isDt d && isDts r) = true from h)
    obtain ⟨k1, k2⟩ := two_and (show (isDt e && isDts t) = true from k)
    show (eqD d e && eqDs r t) = (PyData.eqv (toPy d) (toPy e) && PyData.eqvAll (toPys r) (toPys t))
    rw [eqD_py d e h1 k1, eqDs_py r t h2 k2]
end
section
variable {K : PySem.W.Frag} {H : Hp} {p : Pl}
mutual
theorem dp_of : ∀ (d : D) (v : V), isDt d = true → RelD K H p d v → Dp K H v (toPy d)
  | .non, _, _, h => by
    cases (show _ = V.non from h)
    exact .non
  | .bl b, _, _, h => by
    cases (show _ = V.bl b from h)
    exact .bl b
  | .int i, _, _, h => by
    cases (show _ = V.int i from h)
    exact .int i
  | .str x, _, _, h => by
    cases (show _ = V.str x from h)
    exact .str x
  | .tup l, v, d, h => by
    obtain ⟨a, xs, e, t, q⟩ := h
    subst e
    exact .tup t.sq (dps_of l xs d q)
  | .lst l, v, d, h => by
    obtain ⟨a, xs, e, t, _, _, q⟩ := h
    subst e
    exact .lst (SqL.of t) (dps_of l xs d q)
  | .scr _, _, h, _ => by cases h
  | .ref _, _, h, _ => by cases h
  | .rng _ _, _, h, _ => by cases h
theorem dps_of : ∀ (l : List D) (vs : List V), isDts l = true → RelDs K H p l vs → DpAll K H vs (toPys l)
  | [], vs, _, h => by
    have e : vs = [] := h
    subst e
    exact .nil
  | d :: r, vs, h, q => by
    obtain ⟨v, t, e, q1, q2⟩ := q
    subst e
    obtain ⟨h1, h2⟩ := two_and (show (isDt d && isDts r) = true from h)
    exact .cons (dp_of d v h1 q1) (dps_of r t h2 q2)
end
end
theorem view_dp {K : PySem.W.Frag} {H : Hp} {m r : List Addr} {S : Sto} {d : D} {v : V} (s : SimS K H ⟨m, r⟩ S) (rv : RelD K H ⟨m, r⟩ d v) (h : isDt (view S d) = true) : Dp K H v (toPy (view S d)) := by
  cases d with
  | ref n =>
    have e : view S (.ref n) = (match stoL S n with | some l => .lst l | none => .ref n) := rfl
    rw [e] at h ⊢
    cases q : stoL S n with
    | none => rw [q] at h; cases h
    | some l =>
      rw [q] at h
      obtain ⟨a, xs, ev, ha, ra⟩ := lstOf_inv s rv (show lstOf S (.ref n) = some l from q)
      subst ev
      exact .lst (SqL.of ha) (dps_of l xs h ra)
  | _ => exact dp_of (p := ⟨m, r⟩) _ v h rv

def rInT (K : PySem.W.Frag) : R2 := fun x y H Q => ∃ d ds, Dp K H x d ∧ Dp K H y (.tuple ds) ∧ SeqAt.shaped d = true ∧ SeqAt.shaped (.tuple ds) = true ∧ Q (.bl (ds.any fun z => PyData.eqv z d)) H
def rNotInT (K : PySem.W.Frag) : R2 := fun x y H Q => ∃ d ds, Dp K H x d ∧ Dp K H y (.tuple ds) ∧ SeqAt.shaped d = true ∧ SeqAt.shaped (.tuple ds) = true ∧ Q (.bl (!ds.any fun z => PyData.eqv z d)) H
def rLtD (K : PySem.W.Frag) : R2 := fun x y H Q => ∃ d e, Dp K H x d ∧ Dp K H y e ∧ PySem.W.alike d e = true ∧ d ≠ .none ∧ d.depth ≤ 64 ∧ Q (.bl (PySem.W.dataLt d e)) H
section
variable {X : Cx}
theorem op_inT (hu : X.A.units + 65 < cLine) : OpR X (compareOp .In) (rInT X.K) := by
  intro pins s σ H x y v u Q I rx ry h
  obtain ⟨d, ds, hd, he, sd, se, q⟩ := h
  obtain ⟨as, r1⟩ := Dp.reads I d x v hd rx
  obtain ⟨bs, r2⟩ := Dp.reads I (.tuple ds) y u he ry
  exact SeqAt.in_tuple_reads r2 r1 (SeqAt.canLay_of_shaped se) (SeqAt.canLay_of_shaped sd) (room_in_shaped sd hu) ⟨.bl _, H, I, rfl, q⟩
theorem op_notInT (hu : X.A.units + 65 < cLine) : OpR X (compareOp .NotIn) (rNotInT X.K) := by
  intro pins s σ H x y v u Q I rx ry h
  obtain ⟨d, ds, hd, he, sd, se, q⟩ := h
  obtain ⟨as, r1⟩ := Dp.reads I d x v hd rx
  obtain ⟨bs, r2⟩ := Dp.reads I (.tuple ds) y u he ry
  exact SeqAt.notIn_tuple_reads r2 r1 (SeqAt.canLay_of_shaped se) (SeqAt.canLay_of_shaped sd) (room_in_shaped sd hu) ⟨.bl _, H, I, rfl, q⟩
theorem op_ltD (hu : X.A.units + 65 < cLine) : OpR X (compareOp .Lt) (rLtD X.K) := by
  intro pins s σ H x y v u Q I rx ry h
  obtain ⟨d, e, hd, he, al, nn, dd, q⟩ := h
  obtain ⟨as, r1⟩ := Dp.reads I d x v hd rx
  obtain ⟨bs, r2⟩ := Dp.reads I e y u he ry
  exact PySem.W.rcLt_alike d e X.A s v u as bs r1 r2 al nn (by omega) X.prog X.w _ _ ⟨.bl _, H, I, rfl, q⟩
end
def rCm (K : PySem.W.Frag) : Cm → R2
  | .eq => rEqD K
  | .ne => rNeD K
  | .is => fun x y H Q => (y = .non ∧ Q (.bl (decide (x = .non))) H) ∨ rIsB x y H Q
  | .isn => fun x y H Q => (y = .non ∧ Q (.bl (!decide (x = .non))) H) ∨ rNotB x y H Q
  | .lt => fun x y H Q => rI0 (fun i j => .bl (decide (i < j))) x y H Q ∨ rLtD K x y H Q
  | .le => rI0 fun i j => .bl (decide (i ≤ j))
  | .gt => rI0 fun i j => .bl (decide (j < i))
  | .ge => rI0 fun i j => .bl (decide (j ≤ i))
  | .isin => fun x y H Q => rInD K x y H Q ∨ rInT K x y H Q
  | .nin => fun x y H Q => rNotInD K x y H Q ∨ rNotInT K x y H Q
def cpy : Cm → CmpOp
  | .eq => .Eq
  | .ne => .NotEq
  | .is => .Is
  | .isn => .IsNot
  | .lt => .Lt
  | .le => .LtE
  | .gt => .Gt
  | .ge => .GtE
  | .isin => .In
  | .nin => .NotIn
theorem opR_cm {X : Cx} (hu : X.A.units + 65 < cLine) : ∀ o, OpR X (compareOp (cpy o)) (rCm X.K o)
  | .eq => op_eqD (by omega)
  | .ne => op_neD (by omega)
  | .is => op_isN.or op_isBl
  | .isn => op_notN.or op_notBl
  | .lt => op_lt.or (op_ltD hu)
  | .le => op_le
  | .gt => op_gt
  | .ge => op_ge
  | .isin => (op_inD hu).or (op_inT hu)
  | .nin => (op_notInD hu).or (op_notInT hu)

section
open PySem.W
mutual
theorem alk_py : ∀ d e : D, alk d e = true → alike (toPy d) (toPy e) = true
  | .int _, e, h => by cases e <;> first | rfl | (cases h)
  | .str _, e, h => by cases e <;> first | rfl | (cases h)
  | .tup l, e, h => by
    cases e with
    | tup k => exact alks_py l k h
    | _ => cases h
  | .non, e, h => by cases e <;> cases h
  | .bl _, e, h => by cases e <;> cases h
  | .lst _, e, h => by cases e <;> cases h
  | .scr _, e, h => by cases e <;> cases h
  | .ref _, e, h => by cases e <;> cases h
  | .rng _ _, e, h => by cases e <;> cases h
theorem alks_py : ∀ l k : List D, alks l k = true → alikeAll (toPys l) (toPys k) = true
  | [], k, _ => by
    show alikeAll [] _ = true
    simp [alikeAll]
  | d :: r, [], _ => by
    show alikeAll (_ :: _) [] = true
    simp [alikeAll]
  | d :: r, e :: t, h => by
    obtain ⟨h1, h2⟩ := two_and (show (alk d e && alks r t) = true from h)
    show alikeAll (toPy d :: toPys r) (toPy e :: toPys t) = true
    rw [alikeAll, alk_py d e h1, alks_py r t h2] <;> rfl
end
mutual
theorem ltD_py : ∀ d e : D, alk d e = true → isDt d = true → isDt e = true → ltD d e = dataLt (toPy d) (toPy e)
  | .int i, e, h, _, _ => by
    cases e with
    | int j => exact (dataLt_int i j).symm
    | _ => cases h
  | .str x, e, h, _, _ => by
    cases e with
    | str y => exact (dataLt_str x y).symm
    | _ => cases h
  | .tup l, e, h, h1, h2 => by
    cases e with
    | tup k => exact (ltDs_py l k h h1 h2).trans (dataLt_tuple _ _).symm
    | _ => cases h
  | .non, e, h, _, _ => by cases e <;> cases h
  | .bl _, e, h, _, _ => by cases e <;> cases h
  | .lst _, e, h, _, _ => by cases e <;> cases h
  | .scr _, e, h, _, _ => by cases e <;> cases h
  | .ref _, e, h, _, _ => by cases e <;> cases h
  | .rng _ _, e, h, _, _ => by cases e <;> cases h
theorem ltDs_py : ∀ l k : List D, alks l k = true → isDts l = true → isDts k = true → ltDs l k = PyProof.Rows.lexLt itemOrd (keyToksAll (toPys l)) (keyToksAll (toPys k))
  | [], [], _, _, _ => (lex_irrefl _).symm
  | [], e :: t, _, _, _ => by
    show true = PyProof.Rows.lexLt itemOrd (keyToksAll []) (keyToksAll (toPy e :: toPys t))
    rw [toks_all_cons] <;> rfl
  | d :: r, [], _, _, _ => by
    show false = PyProof.Rows.lexLt itemOrd (keyToksAll (toPy d :: toPys r)) (keyToksAll [])
    rw [toks_all_cons] <;> rfl
  | d :: r, e :: t, h, h1, h2 => by
    obtain ⟨a1, a2⟩ := two_and (show (alk d e && alks r t) = true from h)
    obtain ⟨b1, b2⟩ := two_and (show (isDt d && isDts r) = true from h1)
    obtain ⟨c1, c2⟩ := two_and (show (isDt e && isDts t) = true from h2)
    show (if eqD d e = true then ltDs r t else ltD d e) = PyProof.Rows.lexLt itemOrd (keyToksAll (toPy d :: toPys r)) (keyToksAll (toPy e :: toPys t))
    rw [dataLt_cons (alk_py d e a1), ltDs_py r t a2 b2 c2, ltD_py d e a1 b1 c1, eqD_py d e b1 c1]
end
end
section
variable {K : PySem.W.Frag} {XR : XRel} {E : XK}
theorem eqq_ok {S : Sto} {m r : List Addr} {H : Hp} {x y : D} {v u : V} {b : Bool} (s : SimS K H ⟨m, r⟩ S) (rx : RelD K H ⟨m, r⟩ x v) (ry : RelD K H ⟨m, r⟩ y u) (e : eqq S x y = some b) :
    ∃ d e, Dp K H v d ∧ Dp K H u e ∧ SeqAt.shaped d = true ∧ SeqAt.shaped e = true ∧ b = PyData.eqv d e := by
  unfold eqq at e
  obtain ⟨h1, h2⟩ := some_if e
  obtain ⟨h1, h3⟩ := two_and h1
  obtain ⟨a1, _, a3⟩ := small_inv h1
  obtain ⟨b1, _, b3⟩ := small_inv h3
  exact ⟨_, _, view_dp s rx a1, view_dp s ry b1, a3, b3, h2.symm.trans (eqD_py _ _ a1 b1)⟩
theorem any_py (a : D) (ha : isDt a = true) : ∀ l : List D, isDts l = true → (l.any fun z => eqD z a) = (toPys l).any fun z => PyData.eqv z (toPy a)
  | [], _ => rfl
  | d :: r, h => by
    obtain ⟨h1, h2⟩ := two_and (show (isDt d && isDts r) = true from h)
    show (eqD d a || r.any fun z => eqD z a) = (PyData.eqv (toPy d) (toPy a) || (toPys r).any fun z => PyData.eqv z (toPy a))
    rw [eqD_py d a h1 ha, any_py a ha r h2]
theorem inD_ok {S : Sto} {m r : List Addr} {H : Hp} {x y : D} {v u : V} {b : Bool} (s : SimS K H ⟨m, r⟩ S) (rx : RelD K H ⟨m, r⟩ x v) (ry : RelD K H ⟨m, r⟩ y u) (e : inD S x y = some b) :
    (∃ d ds, Dp K H v d ∧ Dp K H u (.list ds) ∧ SeqAt.shaped d = true ∧ SeqAt.shaped (.list ds) = true ∧ b = ds.any fun z => PyData.eqv z d) ∨
    (∃ d ds, Dp K H v d ∧ Dp K H u (.tuple ds) ∧ SeqAt.shaped d = true ∧ SeqAt.shaped (.tuple ds) = true ∧ b = ds.any fun z => PyData.eqv z d) := by
  unfold inD at e
  split at e
  · rename_i l hv
    obtain ⟨h1, h2⟩ := some_if e
    obtain ⟨h1, h3⟩ := two_and h1
    obtain ⟨a1, _, a3⟩ := small_inv h1
    obtain ⟨b1, _, b3⟩ := small_inv h3
    have q := view_dp s ry (by rw [hv]; exact b1)
    rw [hv] at q
    exact .inr ⟨_, _, dp_of _ _ a1 rx, q, a3, b3, h2.symm.trans (any_py x a1 l b1)⟩
  · rename_i l hv
    obtain ⟨h1, h2⟩ := some_if e
    obtain ⟨h1, h3⟩ := two_and h1
    obtain ⟨a1, _, a3⟩ := small_inv h1
    obtain ⟨b1, _, b3⟩ := small_inv h3
    have q := view_dp s ry (by rw [hv]; exact b1)
    rw [hv] at q
    exact .inl ⟨_, _, dp_of _ _ a1 rx, q, a3, b3, h2.symm.trans (any_py x a1 l b1)⟩
  · cases e
theorem isD_ok {m r : List Addr} {H : Hp} {x y : D} {v u : V} {b : Bool} (rx : RelD K H ⟨m, r⟩ x v) (ry : RelD K H ⟨m, r⟩ y u) (e : isD x y = some b) :
    (u = .non ∧ b = decide (v = .non)) ∨ ∃ a c : Bool, v = .bl a ∧ u = .bl c ∧ b = decide (a = c) := by
  unfold isD at e
  split at e
  · rename_i a c
    have e' := Option.some.inj e
    refine .inr ⟨a, c, rx, ry, ?_⟩
    rw [← e']
    cases a <;> cases c <;> rfl
  · refine .inl ⟨ry, ?_⟩
    have e' := Option.some.inj e
    rw [← e']
    cases x with
    | non => cases (show v = V.non from rx); simp
    | bl _ => cases (show v = V.bl _ from rx); simp
    | int _ => cases (show v = V.int _ from rx); simp
    | str _ => cases (show v = V.str _ from rx); simp
    | tup _ => obtain ⟨a, _, e1, _⟩ := rx; subst e1; simp
    | lst _ => obtain ⟨a, _, e1, _⟩ := rx; subst e1; simp
    | scr _ => obtain ⟨a, e1, _⟩ := rx; subst e1; simp
    | ref _ => obtain ⟨a, _, e1⟩ := rx; subst e1; simp
    | rng _ _ => obtain ⟨a, e1, _⟩ := rx; subst e1; simp
  · cases e
/-- what a comparison gives is a bool -/
theorem cm_step (o : Cm) {S : Sto} {m r : List Addr} {H : Hp} {x y : D} {v u : V} {b : Bool} {Q : VK} (s : SimS K H ⟨m, r⟩ S) (rx : RelD K H ⟨m, r⟩ x v) (ry : RelD K H ⟨m, r⟩ y u) (hb : cmpD S o x y = some b)
    (fin : Q (.bl b) H) : rCm K o v u H Q := by
  have twoI : ∀ {f : Int → Int → Bool}, intB f x y = some b → ∃ i j, v = .int i ∧ u = .int j ∧ b = f i j := fun {f} h => by
    unfold intB at h
    split at h
    · exact ⟨_, _, rx, ry, (Option.some.inj h).symm⟩
    · cases h
  cases o with
  | eq =>
    obtain ⟨d, e, h1, h2, h3, h4, h5⟩ := eqq_ok s rx ry hb
    exact ⟨d, e, h1, h2, h3, h4, by rw [← h5]; exact fin⟩
  | ne =>
    cases hk : eqq S x y with
    | none =>
      have hb : (eqq S x y).map (!·) = some b := hb
      rw [hk] at hb; cases hb
    | some k =>
      have hb : (eqq S x y).map (!·) = some b := hb
      rw [hk] at hb
      obtain ⟨d, e, h1, h2, h3, h4, h5⟩ := eqq_ok s rx ry hk
      have hb : (!k) = b := Option.some.inj hb
      exact ⟨d, e, h1, h2, h3, h4, by rw [← h5, hb]; exact fin⟩
  | is =>
    rcases isD_ok rx ry hb with ⟨h1, h2⟩ | ⟨a, c', h1, h2, h3⟩
    · exact .inl ⟨h1, by rw [← h2]; exact fin⟩
    · exact .inr ⟨a, c', h1, h2, by rw [← h3]; exact fin⟩
  | isn =>
    cases hk : isD x y with
    | none =>
      have hb : (isD x y).map (!·) = some b := hb
      rw [hk] at hb; cases hb
    | some k =>
      have hb : (isD x y).map (!·) = some b := hb
      rw [hk] at hb
      have hb : (!k) = b := Option.some.inj hb
      rcases isD_ok rx ry hk with ⟨h1, h2⟩ | ⟨a, c', h1, h2, h3⟩
      · exact .inl ⟨h1, by rw [← h2, hb]; exact fin⟩
      · exact .inr ⟨a, c', h1, h2, by rw [← h3, hb]; exact fin⟩
  | lt =>
    have hb : ltQ x y = some b := hb
    unfold ltQ at hb
    split at hb
    · have e := Option.some.inj hb
      exact .inl ⟨_, _, rx, ry, by rw [← e] at fin; exact fin⟩
    · obtain ⟨h1, h2⟩ := some_if hb
      obtain ⟨h1, h4⟩ := two_and h1
      obtain ⟨h1, h3⟩ := two_and h1
      obtain ⟨a1, a2, a3⟩ := small_inv h3
      obtain ⟨b1, _, b3⟩ := small_inv h4
      refine .inr ⟨_, _, dp_of _ _ a1 rx, dp_of _ _ b1 ry, alk_py _ _ h1, fun z => ?_, by omega, by rw [← ltD_py _ _ h1 a1 b1, h2]; exact fin⟩
      cases x with
      | int _ => cases z
      | str _ => cases z
      | tup _ => cases z
      | bl _ => cases z
      | lst _ => cases z
      | _ => cases y <;> cases h1
  | le =>
    obtain ⟨i, j, h1, h2, h3⟩ := twoI hb
    exact ⟨i, j, h1, h2, by rw [h3] at fin; exact fin⟩
  | gt =>
    obtain ⟨i, j, h1, h2, h3⟩ := twoI hb
    exact ⟨i, j, h1, h2, by rw [h3] at fin; exact fin⟩
  | ge =>
    obtain ⟨i, j, h1, h2, h3⟩ := twoI hb
    exact ⟨i, j, h1, h2, by rw [h3] at fin; exact fin⟩
  | isin =>
    rcases inD_ok s rx ry hb with ⟨d, ds, h1, h2, h3, h4, h5⟩ | ⟨d, ds, h1, h2, h3, h4, h5⟩
    · exact .inl ⟨d, ds, h1, h2, h3, h4, by rw [← h5]; exact fin⟩
    · exact .inr ⟨d, ds, h1, h2, h3, h4, by rw [← h5]; exact fin⟩
  | nin =>
    cases hk : inD S x y with
    | none =>
      have hb : (inD S x y).map (!·) = some b := hb
      rw [hk] at hb; cases hb
    | some k =>
      have hb : (inD S x y).map (!·) = some b := hb
      rw [hk] at hb
      have hb : (!k) = b := Option.some.inj hb
      rcases inD_ok s rx ry hk with ⟨d, ds, h1, h2, h3, h4, h5⟩ | ⟨d, ds, h1, h2, h3, h4, h5⟩
      · exact .inl ⟨d, ds, h1, h2, h3, h4, by rw [← h5, hb]; exact fin⟩
      · exact .inr ⟨d, ds, h1, h2, h3, h4, by rw [← h5, hb]; exact fin⟩
theorem cm_ok (o : Cm) : OpOk K XR E (fun S x y => (cmpD S o x y).map .bl) (rCm K o) := by
  intro S m r H bs x y d v u Q s c rx ry e q
  dsimp only at e
  cases hb : cmpD S o x y with
  | none => rw [hb] at e; cases e
  | some b =>
    rw [hb] at e
    have e' : D.bl b = d := Option.some.inj e
    subst e'
    exact cm_step o s rx ry hb (PostV.val q s c rfl)
end
end Ri
set_option maxHeartbeats 1000000
namespace Ri
open PySem PySem.Spec PyProof.Rows L2

/-- an expression is worth t, as a value and as a test -/
structure DE (X : Cx) (XR : XRel) (E : XK) (e : Expr) (t : VT) : Prop where
  v : PE X e (tE X.K XR E t.v)
  t : PT X e (tT X.K XR E t.t)
def plainT : Expr → Bool
  | .UnaryOp .Not _ _ => false
  | .BoolOp _ _ _ => false
  | .IfExp _ _ _ _ => false
  | .Compare _ _ _ _ => false
  | _ => true
theorem plainT_ok {e : Expr} (h : plainT e = true) (env : PySem.Env) (whole : Sem Value) : isTrue e env whole = (do let v ← whole; standAt e.pos; holding [v] (truthy v)) := by
  cases e with
  | UnaryOp op a p => cases op <;> first | rfl | (cases h)
  | BoolOp _ _ _ => cases h
  | IfExp _ _ _ _ => cases h
  | Compare _ _ _ _ => cases h
  | _ => rfl
theorem tru_of {K : PySem.W.Frag} {H : Hp} {m r : List Addr} {S : Sto} {d : D} {b : Bool} {v : V} (s : SimS K H ⟨m, r⟩ S) (rv : RelD K H ⟨m, r⟩ d v) (h : truD S d = some b) : TruV K v H b := by
  cases d with
  | non =>
    cases (show v = V.non from rv)
    exact (Option.some.inj h).symm
  | bl _ =>
    cases (show v = V.bl _ from rv)
    exact (Option.some.inj h).symm
  | int i =>
    cases (show v = V.int _ from rv)
    exact (Option.some.inj h).symm
  | str x =>
    cases (show v = V.str _ from rv)
    obtain ⟨h1, h2⟩ := some_if (show (if Nat.ble x.length LIM = true then some ((x.length : Int) != 0) else none) = some b from h)
    exact ⟨LIM_line h1, h2.symm⟩
  | tup l =>
    obtain ⟨a, xs, e, t, q⟩ := rv
    subst e
    have e := Option.some.inj h
    refine .inr (.inl ⟨xs, t.sq, ?_⟩)
    rw [← e]
    have hl := q.length
    cases l <;> cases xs <;> first | rfl | (simp at hl)
  | lst l =>
    obtain ⟨a, xs, e, t, _, _, q⟩ := rv
    subst e
    have e := Option.some.inj h
    refine .inl ⟨xs, SqL.of t, ?_⟩
    rw [← e]
    have hl := q.length
    cases l <;> cases xs <;> first | rfl | (simp at hl)
  | ref n =>
    have h' : (stoL S n).map (fun l => !l.isEmpty) = some b := h
    cases q : stoL S n with
    | none => rw [q] at h'; cases h'
    | some l =>
      rw [q] at h'
      have e := Option.some.inj h'
      obtain ⟨a, xs, ev, ha, ra⟩ := lstOf_inv s rv (show lstOf S (.ref n) = some l from q)
      subst ev
      refine .inl ⟨xs, SqL.of ha, ?_⟩
      rw [← e]
      have hl := ra.length
      cases l <;> cases xs <;> first | rfl | (simp at hl)
  | scr _ => cases h
  | rng _ _ => cases h
section
variable {X : Cx} {XR : XRel} {E : XK} {a b c d e : Expr} {pos : Pos} {f g k : Env → M D} {ta tb tc td : VT}
theorem tT_of {σ : St} {H : Hp} {K : PySem.W.Frag} {Q : Bool → Hp → Prop} (h : tT K XR E (vt f).t σ H Q) : tE K XR E f σ H fun x H' => ∃ k, TruV K x H' k ∧ Q k H' := by
  obtain ⟨ρ, S, m, r, A, h⟩ := h
  refine ⟨ρ, S, m, r, A, (Post.bind (k := fun x => fun S => ofO (truD S x) S) h).imp fun x m1 S1 H1 g1 s1 c1 q v rv => ?_⟩
  obtain ⟨b, e, q⟩ := q.ofO
  exact ⟨b, tru_of s1 rv e, Post.here q s1 c1⟩
theorem de_vt (h : PE X e (tE X.K XR E f)) (hp : plainT e = true) : DE X XR E e (vt f) := ⟨h, (pt_truth h (plainT_ok hp _)).imp fun _ _ _ q => tT_of q⟩
/-- a reading that gives a bool, as a test -/
theorem tT_bl {σ : St} {H : Hp} {K : PySem.W.Frag} {Q : Bool → Hp → Prop} (h : tT K XR E (vt f).t σ H Q) (hb : ∀ ρ S d S', f ρ S = .ok d S' → ∃ b, d = .bl b) : tE K XR E f σ H fun x H' => ∃ k, x = .bl k ∧ Q k H' := by
  obtain ⟨ρ, S, m, r, A, h⟩ := h
  have h := Post.bind (k := fun x => fun S => ofO (truD S x) S) h
  refine ⟨ρ, S, m, r, A, ?_⟩
  cases e : f ρ S with
  | ok d S1 =>
    rw [e] at h
    obtain ⟨b, eb⟩ := hb ρ S d S1 e
    subst eb
    intro m1 H1 g1 s1 c1 v rv
    exact ⟨b, rv, Post.here (h m1 H1 g1 s1 c1) s1 c1⟩
  | ex c d S1 => rw [e] at h; exact h
  | bad => rw [e] at h; exact h
theorem bnd_ok {α β : Type} {x : M α} {k : α → M β} {S S' : Sto} {b : β} (h : bnd x k S = .ok b S') : ∃ a S1, x S = .ok a S1 ∧ k a S1 = .ok b S' := by
  unfold bnd at h
  cases e : x S with
  | ok a S1 => rw [e] at h; exact ⟨a, S1, rfl, h⟩
  | ex c d S1 => rw [e] at h; cases h
  | bad => rw [e] at h; cases h
theorem ofO_ok {α : Type} {o : Option α} {S S' : Sto} {b : α} (h : ofO o S = .ok b S') : o = some b ∧ S = S' := by
  cases o with
  | none => cases h
  | some a => cases h; exact ⟨rfl, rfl⟩
theorem map_bl {o : Option Bool} {d : D} (h : o.map D.bl = some d) : ∃ b, d = .bl b := by
  cases o with
  | none => cases h
  | some b => cases h; exact ⟨b, rfl⟩

def cmpF (o : Cm) (f g : Env → M D) : Env → M D := fun ρ => bnd (f ρ) fun x => bnd (g ρ) fun y => fun S => ofO ((cmpD S o x y).map .bl) S
theorem tE.two' {K : PySem.W.Frag} {k : Env → D → D → M D} {σ : St} {H : Hp} {Q : VK} (h : tE K XR E (fun ρ => bnd (f ρ) fun x => bnd (g ρ) (k ρ x)) σ H Q) : tE K XR E f σ H fun v H1 => tE K XR E g σ H1 fun u H2 => ∃ ρ S m r d e, At K ρ S m r σ H2 ∧
    RelD K H2 ⟨m, r⟩ d v ∧ RelD K H2 ⟨m, r⟩ e u ∧ PostV K XR E ρ.bs r m H2 (k ρ d e S) Q := h.two
/-- the operator's question, from the run that asks it -/
theorem tE.op {K : PySem.W.Frag} {h : Sto → D → D → Option D} {rr : R2} (hok : OpOk K XR E h rr) {σ : St} {H : Hp} {Q : VK} (q : tE K XR E (fun ρ => bnd (f ρ) fun x => bnd (g ρ) fun y => fun S => ofO (h S x y) S) σ H Q) : tOp rr (tE K XR E f) (tE K XR E g) σ H Q := by
  obtain ⟨ρ, S, m, r, A, q⟩ := q.two
  refine ⟨ρ, S, m, r, A, q.imp fun d m1 S1 H1 g1 s1 c1 q v rv => ?_⟩
  obtain ⟨ρ1, S1, m1, r1, A1, q⟩ := q v rv
  refine ⟨ρ1, S1, m1, r1, A1, q.imp fun d2 m2 S2 H2 g2 s2 c2 q u ru => ?_⟩
  obtain ⟨ρ2, S2, m2, r2, x, y, A2, rx, ry, q⟩ := q u ru
  obtain ⟨z, e, q⟩ := q.ofO
  exact hok S2 m2 r2 H2 ρ2.bs x y z v u Q A2.sto A2.cl rx ry e q
theorem de_cmp (o : Cm) (hu : X.A.units + 65 < cLine) (ha : PE X a (tE X.K XR E f)) (hb : PE X b (tE X.K XR E g)) (hm : behindInMarks (cpy o) b = false) : DE X XR E (.Compare a [cpy o] [b] pos) (vt (cmpF o f g)) :=
  ⟨(pe_cmpR (opR_cm hu o) ha hb hm).imp fun σ H Q q => tE.op (cm_ok o) q, (pt_cmpR (opR_cm hu o) ha hb hm).imp fun σ H Q q => tE.op (cm_ok o) (tT_bl q fun ρ S d S' h => by
    obtain ⟨x, S1, _, h⟩ := bnd_ok h
    obtain ⟨y, S2, _, h⟩ := bnd_ok h
    exact map_bl (ofO_ok h).1)⟩
/-- a op b op c -/
def chnF (o p : Cm) (f g k : Env → M D) : Env → M D := fun ρ => bnd (f ρ) fun x => bnd (g ρ) fun y => fun S => bnd (ofO (cmpD S o x y)) (fun r => match r with
    | true => bnd (k ρ) fun z => fun S => ofO ((cmpD S p y z).map .bl) S
    | false => ret (.bl false)) S
theorem ofO_bnd {K : PySem.W.Frag} {bs : List Nat} {r m : List Addr} {H : Hp} {α β : Type} {o : Option α} {k : α → M β} {S : Sto} {okk : β → List Addr → Sto → Hp → Prop} (h : Post K XR E bs r m H (bnd (ofO o) k S) okk) : ∃ a, o = some a ∧ Post K XR E bs r m H (k a S) okk := by
  cases o with
  | none => exact h.elim
  | some a => exact ⟨a, rfl, h⟩
/-- the chain's first comparison, then what the rest wants -/
theorem chn_one (o : Cm) {K : PySem.W.Frag} {σ : St} {H : Hp} {Q : VK} {kk : Env → D → D → Bool → M D} (q : tE K XR E (fun ρ => bnd (f ρ) fun x => bnd (g ρ) fun y => fun S => bnd (ofO (cmpD S o x y)) (kk ρ x y) S) σ H Q) :
    tE K XR E f σ H fun v H1 => tE K XR E g σ H1 fun u H2 => ∃ ρ S m r x y b, At K ρ S m r σ H2 ∧ RelD K H2 ⟨m, r⟩ x v ∧ RelD K H2 ⟨m, r⟩ y u ∧ cmpD S o x y = some b ∧ PostV K XR E ρ.bs r m H2 (kk ρ x y b S) Q := by
  obtain ⟨ρ, S, m, r, A, q⟩ := q.two
  refine ⟨ρ, S, m, r, A, q.imp fun d m1 S1 H1 g1 s1 c1 q v rv => ?_⟩
  obtain ⟨ρ1, S1, m1, r1, A1, q⟩ := q v rv
  refine ⟨ρ1, S1, m1, r1, A1, q.imp fun d2 m2 S2 H2 g2 s2 c2 q u ru => ?_⟩
  obtain ⟨ρ2, S2, m2, r2, x, y, A2, rx, ry, q⟩ := q u ru
  obtain ⟨b, e, q⟩ := ofO_bnd q
  exact ⟨ρ2, S2, m2, r2, x, y, b, A2, rx, ry, e, q⟩
/-- .. a later one: y is known -/
def nxtF (p : Cm) (k : Env → M D) (y : D) : Env → M D := fun ρ => bnd (k ρ) fun z => fun S => ofO ((cmpD S p y z).map .bl) S
theorem nxt_ok (p : Cm) {K : PySem.W.Frag} {ρ : Env} {S : Sto} {m r : List Addr} {σ : St} {H : Hp} {y : D} {u : V} {Q : VK} (A : At K ρ S m r σ H) (ry : RelD K H ⟨m, r⟩ y u) (q : PostV K XR E ρ.bs r m H (nxtF p k y ρ S) Q) :
    tE K XR E k σ H fun w' H4 => rCm K p u w' H4 Q := by
  refine ⟨ρ, S, m, r, A, (Post.bind q).imp fun z m1 S1 H1 g1 s1 c1 q v rv => ?_⟩
  obtain ⟨d, e, q⟩ := q.ofO
  exact cm_ok (XR := XR) (E := E) p S1 m1 r H1 ρ.bs y z d u v Q s1 c1 (rel_grow g1 ry) rv e q
theorem chn_ok (o p : Cm) {K : PySem.W.Frag} {σ : St} {H : Hp} {Q : VK} (q : tE K XR E (chnF o p f g k) σ H Q) : tChain (rCm K o) (rCm K p) (tE K XR E f) (tE K XR E g) (tE K XR E k) σ H Q := by
  obtain ⟨ρ, S, m, r, A, q⟩ := chn_one (kk := fun ρ x y b => match b with
    | true => nxtF p k y ρ
    | false => ret (.bl false)) o q
  refine ⟨ρ, S, m, r, A, q.imp fun d m1 S1 H1 g1 s1 c1 q v rv => ?_⟩
  obtain ⟨ρ1, S1, m1, r1, A1, q⟩ := q v rv
  refine ⟨ρ1, S1, m1, r1, A1, q.imp fun d2 m2 S2 H2 g2 s2 c2 q u ru => ?_⟩
  obtain ⟨ρ2, S2, m2, r2, x, y, b, A2, rx, ry, e, q⟩ := q u ru
  refine cm_step o A2.sto rx ry e ⟨b, rfl, ?_⟩
  cases b with
  | true => exact ite_tt (nxt_ok p A2 ry q)
  | false => exact ite_ff (PostV.val q A2.sto A2.cl rfl)
theorem chn_bl (o p : Cm) {ρ : Env} {S S' : Sto} {d : D} (h : chnF o p f g k ρ S = .ok d S') : ∃ b, d = .bl b := by
  obtain ⟨x, S1, _, h⟩ := bnd_ok h
  obtain ⟨y, S2, _, h⟩ := bnd_ok h
  obtain ⟨b, S3, _, h⟩ := bnd_ok h
  cases b with
  | true =>
    obtain ⟨z, S4, _, h⟩ := bnd_ok h
    exact map_bl (ofO_ok h).1
  | false => cases h; exact ⟨_, rfl⟩
theorem de_chn (o p : Cm) (hu : X.A.units + 65 < cLine) (ha : PE X a (tE X.K XR E f)) (hb : PE X b (tE X.K XR E g)) (hc : PE X c (tE X.K XR E k)) (hm : lastMarks [cpy o, cpy p] [b, c] = false) :
    DE X XR E (.Compare a [cpy o, cpy p] [b, c] pos) (vt (chnF o p f g k)) :=
  ⟨(pe_chain (opR_cm hu o) (opR_cm hu p) ha hb hc hm).imp fun σ H Q q => chn_ok o p q, (pt_chain (opR_cm hu o) (opR_cm hu p) ha hb hc hm).imp fun σ H Q q => chn_ok o p (tT_bl q fun ρ S d S' h => chn_bl o p h)⟩

def tChain3 (r1 r2 r3 : R2) (ta tb tc td : TE) : TE := fun σ H Q => ta σ H fun x H1 => tb σ H1 fun y H2 => r1 x y H2 fun z H3 => ∃ k, z = .bl k ∧
  (if k = true then tc σ H3 fun w' H4 => r2 y w' H4 fun z' H5 => ∃ k', z' = .bl k' ∧ (if k' = true then td σ H5 fun u' H6 => r3 w' u' H6 Q else Q (.bl false) H5) else Q (.bl false) H3)
theorem pe_chain3 {o1 o2 o3 : CmpOp} {r1 r2 r3 : R2} {ta tb tc td : TE} (h1 : OpR X (compareOp o1) r1) (h2 : OpR X (compareOp o2) r2) (h3 : OpR X (compareOp o3) r3) (ha : PE X a ta) (hb : PE X b tb) (hc : PE X c tc) (hd : PE X d td)
    (hm : lastMarks [o1, o2, o3] [b, c, d] = false) : PE X (.Compare a [o1, o2, o3] [b, c, d] pos) (tChain3 r1 r2 r3 ta tb tc td) := by
  refine ⟨fun pins s σ H Q I h => ?_⟩
  refine Compare_chain (thn (ha.run pins s σ H _ I h) fun v s1 ⟨x, H1, I1, e1, q1⟩ => chain_link (thn (hb.run pins s1 σ H1 _ I1 q1) fun u s2 ⟨y, H2, I2, e2, q2⟩ =>
    thn (h1 pins s2 σ H2 x y v u _ I2 e1 e2 q2) fun d s3 ⟨z, H3, I3, e3, k, e, q3⟩ => ?_)) hm
  subst e
  cases e3
  refine wpAny_truthy_bool ?_
  cases k with
  | false => exact ite_ff ⟨.bl false, H3, I3, rfl, q3⟩
  | true =>
    refine ite_tt (chain_link (thn (hc.run pins s3 σ H3 _ I3 q3) fun w' s4 ⟨z', H4, I4, e4, q4⟩ => thn (h2 pins s4 σ H4 y z' u w' _ I4 e2 e4 q4) fun d' s5 ⟨z2, H5, I5, e5, k2, e', q5⟩ => ?_))
    subst e'
    cases e5
    refine wpAny_truthy_bool ?_
    cases k2 with
    | false => exact ite_ff ⟨.bl false, H5, I5, rfl, q5⟩
    | true => exact ite_tt (chain_last (thn (hd.run pins s5 σ H5 _ I5 q5) fun u' s6 ⟨z6, H6, I6, e6, q6⟩ => h3 pins s6 σ H6 z' z6 w' u' Q I6 e4 e6 q6))
theorem pt_chain3 {o1 o2 o3 : CmpOp} {r1 r2 r3 : R2} {ta tb tc td : TE} (h1 : OpR X (compareOp o1) r1) (h2 : OpR X (compareOp o2) r2) (h3 : OpR X (compareOp o3) r3) (ha : PE X a ta) (hb : PE X b tb) (hc : PE X c tc) (hd : PE X d td)
    (hm : lastMarks [o1, o2, o3] [b, c, d] = false) : PT X (.Compare a [o1, o2, o3] [b, c, d] pos) (tTest (tChain3 r1 r2 r3 ta tb tc td)) := by
  refine ⟨fun pins s σ H Q I h => ?_⟩
  refine isTrue_chain (thn (ha.run pins s σ H _ I h) fun v s1 ⟨x, H1, I1, e1, q1⟩ => test_link (thn (hb.run pins s1 σ H1 _ I1 q1) fun u s2 ⟨y, H2, I2, e2, q2⟩ =>
    thn (h1 pins s2 σ H2 x y v u _ I2 e1 e2 q2) fun d s3 ⟨z, H3, I3, e3, k, e, q3⟩ => ?_)) hm
  subst e
  cases e3
  refine wpAny_truthy_bool ?_
  cases k with
  | false =>
    obtain ⟨k', e', q'⟩ := q3
    cases e'
    exact ite_ff ⟨H3, I3, q'⟩
  | true =>
    refine ite_tt (test_link (thn (hc.run pins s3 σ H3 _ I3 q3) fun w' s4 ⟨z', H4, I4, e4, q4⟩ => thn (h2 pins s4 σ H4 y z' u w' _ I4 e2 e4 q4) fun d' s5 ⟨z2, H5, I5, e5, k2, e', q5⟩ => ?_))
    subst e'
    cases e5
    refine wpAny_truthy_bool ?_
    cases k2 with
    | false =>
      obtain ⟨k', e', q'⟩ := q5
      cases e'
      exact ite_ff ⟨H5, I5, q'⟩
    | true =>
      refine ite_tt (test_last (thn (hd.run pins s5 σ H5 _ I5 q5) fun u' s6 ⟨z6, H6, I6, e6, q6⟩ => thn (h3 pins s6 σ H6 z' z6 w' u' _ I6 e4 e6 q6) fun d' s7 ⟨z7, H7, I7, e7, k3, e', q7⟩ => ?_))
      subst e'
      cases e7
      exact wpAny_truthy_bool ⟨H7, I7, q7⟩
def chn3F (o p w : Cm) (f g k l : Env → M D) : Env → M D := fun ρ => bnd (f ρ) fun x => bnd (g ρ) fun y => fun S => bnd (ofO (cmpD S o x y)) (fun r => match r with
    | true => bnd (k ρ) fun z => fun S => bnd (ofO (cmpD S p y z)) (fun r => match r with
      | true => bnd (l ρ) fun u => fun S => ofO ((cmpD S w z u).map .bl) S
      | false => ret (.bl false)) S
    | false => ret (.bl false)) S
def midF (p w : Cm) (k l : Env → M D) (y : D) : Env → M D := fun ρ => bnd (k ρ) fun z => fun S => bnd (ofO (cmpD S p y z)) (fun r => match r with
      | true => nxtF w l z ρ
      | false => ret (.bl false)) S
theorem mid_ok (p w : Cm) {l : Env → M D} {K : PySem.W.Frag} {ρ : Env} {S : Sto} {m r : List Addr} {σ : St} {H : Hp} {y : D} {u : V} {Q : VK} (A : At K ρ S m r σ H) (ry : RelD K H ⟨m, r⟩ y u) (q : PostV K XR E ρ.bs r m H (midF p w k l y ρ S) Q) :
    tE K XR E k σ H fun w' H4 => rCm K p u w' H4 fun z' H5 => ∃ k', z' = .bl k' ∧ (if k' = true then tE K XR E l σ H5 fun u' H6 => rCm K w w' u' H6 Q else Q (.bl false) H5) := by
  refine ⟨ρ, S, m, r, A, (Post.bind q).imp fun z m1 S1 H1 g1 s1 c1 q v rv => ?_⟩
  obtain ⟨b, e, q⟩ := ofO_bnd q
  have A1 := A.grow g1 s1 c1
  refine cm_step p s1 (rel_grow g1 ry) rv e ⟨b, rfl, ?_⟩
  cases b with
  | true => exact ite_tt (nxt_ok w A1 rv q)
  | false => exact ite_ff (PostV.val q s1 c1 rfl)
theorem chn3_ok (o p w : Cm) {l : Env → M D} {K : PySem.W.Frag} {σ : St} {H : Hp} {Q : VK} (q : tE K XR E (chn3F o p w f g k l) σ H Q) : tChain3 (rCm K o) (rCm K p) (rCm K w) (tE K XR E f) (tE K XR E g) (tE K XR E k) (tE K XR E l) σ H Q := by
  obtain ⟨ρ, S, m, r, A, q⟩ := chn_one (kk := fun ρ x y b => match b with
    | true => midF p w k l y ρ
    | false => ret (.bl false)) o q
  refine ⟨ρ, S, m, r, A, q.imp fun d m1 S1 H1 g1 s1 c1 q v rv => ?_⟩
  obtain ⟨ρ1, S1, m1, r1, A1, q⟩ := q v rv
  refine ⟨ρ1, S1, m1, r1, A1, q.imp fun d2 m2 S2 H2 g2 s2 c2 q u ru => ?_⟩
  obtain ⟨ρ2, S2, m2, r2, x, y, b, A2, rx, ry, e, q⟩ := q u ru
  refine cm_step o A2.sto rx ry e ⟨b, rfl, ?_⟩
  cases b with
  | true => exact ite_tt (mid_ok p w A2 ry q)
  | false => exact ite_ff (PostV.val q A2.sto A2.cl rfl)
theorem chn3_bl (o p w : Cm) {l : Env → M D} {ρ : Env} {S S' : Sto} {d : D} (h : chn3F o p w f g k l ρ S = .ok d S') : ∃ b, d = .bl b := by
  obtain ⟨x, S1, _, h⟩ := bnd_ok h
  obtain ⟨y, S2, _, h⟩ := bnd_ok h
  obtain ⟨b, S3, _, h⟩ := bnd_ok h
  cases b with
  | true =>
    obtain ⟨z, S4, _, h⟩ := bnd_ok h
    obtain ⟨b, S5, _, h⟩ := bnd_ok h
    cases b with
    | true =>
      obtain ⟨z, S4, _, h⟩ := bnd_ok h
      exact map_bl (ofO_ok h).1
    | false => cases h; exact ⟨_, rfl⟩
  | false => cases h; exact ⟨_, rfl⟩
theorem de_chn3 (o p w : Cm) {l : Env → M D} (hu : X.A.units + 65 < cLine) (ha : PE X a (tE X.K XR E f)) (hb : PE X b (tE X.K XR E g)) (hc : PE X c (tE X.K XR E k)) (hd : PE X d (tE X.K XR E l)) (hm : lastMarks [cpy o, cpy p, cpy w] [b, c, d] = false) :
    DE X XR E (.Compare a [cpy o, cpy p, cpy w] [b, c, d] pos) (vt (chn3F o p w f g k l)) :=
  ⟨(pe_chain3 (opR_cm hu o) (opR_cm hu p) (opR_cm hu w) ha hb hc hd hm).imp fun σ H Q q => chn3_ok o p w q, (pt_chain3 (opR_cm hu o) (opR_cm hu p) (opR_cm hu w) ha hb hc hd hm).imp fun σ H Q q => chn3_ok o p w (tT_bl q fun ρ S d S' h => chn3_bl o p w h)⟩

/-- one test, then the rest -/
theorem tT.one {K : PySem.W.Frag} {t : Env → M Bool} {kk : Env → Bool → M Bool} {σ : St} {H : Hp} {Q : Bool → Hp → Prop} (h : tT K XR E (fun ρ => bnd (t ρ) (kk ρ)) σ H Q) : tT K XR E t σ H fun x H1 => tT K XR E (fun ρ => kk ρ x) σ H1 Q := by
  obtain ⟨ρ, S, m, r, A, h⟩ := h
  exact ⟨ρ, S, m, r, A, h.bind.imp fun d m1 S1 H1 g s c q => ⟨ρ, S1, m1, r, A.grow g s c, q⟩⟩
theorem tT.oneE {K : PySem.W.Frag} {t : Env → M Bool} {kk : Env → Bool → M D} {σ : St} {H : Hp} {Q : VK} (h : tE K XR E (fun ρ => bnd (t ρ) (kk ρ)) σ H Q) : tT K XR E t σ H fun x H1 => tE K XR E (fun ρ => kk ρ x) σ H1 Q := by
  obtain ⟨ρ, S, m, r, A, h⟩ := h
  exact ⟨ρ, S, m, r, A, h.bind.imp fun d m1 S1 H1 g s c q => ⟨ρ, S1, m1, r, A.grow g s c, q⟩⟩
theorem tT.ret {K : PySem.W.Frag} {b : Bool} {σ : St} {H : Hp} {Q : Bool → Hp → Prop} (h : tT K XR E (fun _ => Ri.ret b) σ H Q) : Q b H := by
  obtain ⟨ρ, S, m, r, A, h⟩ := h
  exact Post.here h A.sto A.cl
theorem tE.bl {K : PySem.W.Frag} {b : Bool} {σ : St} {H : Hp} {Q : VK} (h : tE K XR E (fun _ => Ri.ret (.bl b)) σ H Q) : Q (.bl b) H := by
  obtain ⟨ρ, S, m, r, A, h⟩ := h
  exact Post.here h A.sto A.cl _ rfl
variable {t u : Env → M Bool} {rest : List Expr}
theorem pw_nilA : PW X (.BoolOp .And [] pos) (tT X.K XR E fun _ => Ri.ret true) := ⟨fun _ _ _ _ H _ I h => isTrue_and_nil ⟨H, I, h.ret⟩⟩
theorem pw_nilO : PW X (.BoolOp .Or [] pos) (tT X.K XR E fun _ => Ri.ret false) := ⟨fun _ _ _ _ H _ I h => isTrue_or_nil ⟨H, I, h.ret⟩⟩
def andF (t u : Env → M Bool) : Env → M Bool := fun ρ => bnd (t ρ) fun x => match x with
    | true => u ρ
    | false => ret false
def orF (t u : Env → M Bool) : Env → M Bool := fun ρ => bnd (t ρ) fun x => match x with
    | true => ret true
    | false => u ρ
theorem pw_consA (ha : PT X a (tT X.K XR E t)) (hb : PW X (.BoolOp .And rest pos) (tT X.K XR E u)) : PW X (.BoolOp .And (a :: rest) pos) (tT X.K XR E (andF t u)) := by
  refine ⟨fun wh pins s σ H Q I h => ?_⟩
  refine isTrue_and (thn (ha.run pins s σ H _ I (tT.one h)) fun c s1 ⟨H1, I1, q1⟩ => ?_)
  cases c with
  | true => exact hb.run wh pins s1 σ H1 Q I1 q1
  | false => exact ⟨H1, I1, tT.ret q1⟩
theorem pw_consO (ha : PT X a (tT X.K XR E t)) (hb : PW X (.BoolOp .Or rest pos) (tT X.K XR E u)) : PW X (.BoolOp .Or (a :: rest) pos) (tT X.K XR E (orF t u)) := by
  refine ⟨fun wh pins s σ H Q I h => ?_⟩
  refine isTrue_or (thn (ha.run pins s σ H _ I (tT.one h)) fun c s1 ⟨H1, I1, q1⟩ => ?_)
  cases c with
  | true => exact ⟨H1, I1, tT.ret q1⟩
  | false => exact hb.run wh pins s1 σ H1 Q I1 q1
def andV (f g : Env → M D) : Env → M D := fun ρ => bnd (f ρ) fun x => match x with
    | .bl true => g ρ
    | .bl false => ret (.bl false)
    | _ => bad
def orV (f g : Env → M D) : Env → M D := fun ρ => bnd (f ρ) fun x => match x with
    | .bl true => ret (.bl true)
    | .bl false => g ρ
    | _ => bad
theorem blCase {K : PySem.W.Frag} {ρ : Env} {S : Sto} {m r : List Addr} {H : Hp} {x : D} {v : V} {y n : M D} {Q : VK} (rv : RelD K H ⟨m, r⟩ x v) (q : PostV K XR E ρ.bs r m H ((match x with
    | .bl true => y
    | .bl false => n
    | _ => bad) S) Q) : ∃ c, v = .bl c ∧ PostV K XR E ρ.bs r m H ((if c = true then y else n) S) Q := by
  cases x with
  | bl c =>
    refine ⟨c, rv, ?_⟩
    cases c <;> exact q
  | _ => exact q.elim
theorem andV_ok {K : PySem.W.Frag} {σ : St} {H : Hp} {Q : VK} (h : tE K XR E (andV f g) σ H Q) : tAndV (tE K XR E f) (tE K XR E g) σ H Q := by
  obtain ⟨ρ, S, m, r, A, h⟩ := h.one
  refine ⟨ρ, S, m, r, A, h.imp fun d m1 S1 H1 g1 s1 c1 q v rv => ?_⟩
  obtain ⟨ρ1, S1, m1, r1, x, A1, rx, q⟩ := q v rv
  obtain ⟨c, e, q⟩ := blCase rx q
  refine ⟨c, e, ?_⟩
  cases c with
  | true => exact ite_tt ⟨ρ1, S1, m1, r1, A1, q⟩
  | false => exact ite_ff (PostV.val q A1.sto A1.cl rfl)
theorem orV_ok {K : PySem.W.Frag} {σ : St} {H : Hp} {Q : VK} (h : tE K XR E (orV f g) σ H Q) : tOrV (tE K XR E f) (tE K XR E g) σ H Q := by
  obtain ⟨ρ, S, m, r, A, h⟩ := h.one
  refine ⟨ρ, S, m, r, A, h.imp fun d m1 S1 H1 g1 s1 c1 q v rv => ?_⟩
  obtain ⟨ρ1, S1, m1, r1, x, A1, rx, q⟩ := q v rv
  obtain ⟨c, e, q⟩ := blCase rx q
  refine ⟨c, e, ?_⟩
  cases c with
  | true => exact ite_tt (PostV.val q A1.sto A1.cl rfl)
  | false => exact ite_ff ⟨ρ1, S1, m1, r1, A1, q⟩
theorem pe_consA (ha : PE X a (tE X.K XR E f)) (hb : PE X (.BoolOp .And (b :: rest) pos) (tE X.K XR E g)) : PE X (.BoolOp .And (a :: b :: rest) pos) (tE X.K XR E (andV f g)) := (pe_and ha hb).imp fun _ _ _ q => andV_ok q
theorem pe_consO (ha : PE X a (tE X.K XR E f)) (hb : PE X (.BoolOp .Or (b :: rest) pos) (tE X.K XR E g)) : PE X (.BoolOp .Or (a :: b :: rest) pos) (tE X.K XR E (orV f g)) := (pe_or ha hb).imp fun _ _ _ q => orV_ok q
theorem lastA {K : PySem.W.Frag} {σ : St} {H : Hp} {Q : VK} (h : tE K XR E (andV f fun _ => ret (.bl true)) σ H Q) : tE K XR E f σ H Q := by
  obtain ⟨ρ, S, m, r, A, h⟩ := h.one
  refine ⟨ρ, S, m, r, A, h.imp fun d m1 S1 H1 g1 s1 c1 q v rv => ?_⟩
  obtain ⟨ρ1, S1, m1, r1, x, A1, rx, q⟩ := q v rv
  obtain ⟨c, e, q⟩ := blCase rx q
  subst e
  cases c <;> exact PostV.val q A1.sto A1.cl rfl
theorem lastO {K : PySem.W.Frag} {σ : St} {H : Hp} {Q : VK} (h : tE K XR E (orV f fun _ => ret (.bl false)) σ H Q) : tE K XR E f σ H Q := by
  obtain ⟨ρ, S, m, r, A, h⟩ := h.one
  refine ⟨ρ, S, m, r, A, h.imp fun d m1 S1 H1 g1 s1 c1 q v rv => ?_⟩
  obtain ⟨ρ1, S1, m1, r1, x, A1, rx, q⟩ := q v rv
  obtain ⟨c, e, q⟩ := blCase rx q
  subst e
  cases c <;> exact PostV.val q A1.sto A1.cl rfl
theorem pe_oneA (ha : PE X a (tE X.K XR E f)) : PE X (.BoolOp .And [a] pos) (tE X.K XR E (andV f fun _ => ret (.bl true))) := (pe_one ha).imp fun _ _ _ q => lastA q
theorem pe_oneO (ha : PE X a (tE X.K XR E f)) : PE X (.BoolOp .Or [a] pos) (tE X.K XR E (orV f fun _ => ret (.bl false))) := (pe_one ha).imp fun _ _ _ q => lastO q
def notV (f : Env → M D) : Env → M D := fun ρ => bnd (f ρ) fun x => match x with
    | .bl b => ret (.bl !b)
    | _ => bad
theorem de_not {ta : VT} (ha : DE X XR E a ta) : DE X XR E (.UnaryOp .Not a pos) ⟨notV ta.v, fun ρ => bnd (ta.t ρ) fun r => ret !r⟩ := by
  refine ⟨(pe_not ha.v).imp fun σ H Q h => ?_, (pt_not ha.t).imp fun σ H Q h => ?_⟩
  · obtain ⟨ρ, S, m, r, A, h⟩ := h.one
    refine ⟨ρ, S, m, r, A, h.imp fun d m1 S1 H1 g1 s1 c1 q v rv => ?_⟩
    obtain ⟨ρ1, S1, m1, r1, x, A1, rx, q⟩ := q v rv
    cases x with
    | bl c => exact ⟨c, rx, PostV.val q A1.sto A1.cl rfl⟩
    | _ => exact q.elim
  · obtain ⟨ρ, S, m, r, A, h⟩ := tT.one h
    exact ⟨ρ, S, m, r, A, h.imp fun d m1 S1 H1 g1 s1 c1 q => tT.ret q⟩
theorem de_ite {tc ta tb : VT} (hc : DE X XR E c tc) (ha : DE X XR E a ta) (hb : DE X XR E b tb) : DE X XR E (.IfExp c a b pos) ⟨fun ρ => bnd (tc.t ρ) fun r => match r with
    | true => ta.v ρ
    | false => tb.v ρ, fun ρ => bnd (tc.t ρ) fun r => match r with
    | true => ta.t ρ
    | false => tb.t ρ⟩ := by
  refine ⟨(pe_ifExp hc.t ha.v hb.v).imp fun σ H Q h => ?_, ⟨fun pins s σ H Q I h => ?_⟩⟩
  · obtain ⟨ρ, S, m, r, A, h⟩ := tT.oneE h
    refine ⟨ρ, S, m, r, A, h.imp fun d m1 S1 H1 g1 s1 c1 q => ?_⟩
    cases d with
    | true => exact ite_tt q
    | false => exact ite_ff q
  · refine isTrue_IfExp (thn (hc.t.run pins s σ H _ I (tT.one h)) fun c s1 ⟨H1, I1, q1⟩ => ?_)
    cases c with
    | true => exact ha.t.run pins s1 σ H1 Q I1 q1
    | false => exact hb.t.run pins s1 σ H1 Q I1 q1
/-- - a -/
def negF (f : Env → M D) : Env → M D := fun ρ => bnd (f ρ) fun x => match x with
    | .int i => ret (.int (-i))
    | _ => bad
end
end Ri
set_option maxHeartbeats 1000000
namespace Ri
open PySem PySem.Spec PyProof.Rows L2

section
variable {K : PySem.W.Frag} {XR : XRel} {E : XK}
theorem da_nil {X : Cx} : PA X [] (tA X.K XR E fun _ => ret []) := pa_nil.imp fun σ H Q h => by
  obtain ⟨ρ, S, m, r, A, h⟩ := h
  exact Post.here h A.sto A.cl [] rfl
def consF (f : Env → M D) (g : Env → M (List D)) : Env → M (List D) := fun ρ => bnd (f ρ) fun x => bnd (g ρ) fun xs => ret (x :: xs)
def noStar : Expr → Bool
  | .Starred _ _ => false
  | _ => true
theorem noStar_ok {e : Expr} (h : noStar e = true) (es : List Expr) (env : PySem.Env) : starEach (e :: es) env = (false, eval e env) :: starEach es env := by
  cases e <;> first | rfl | (cases h)
theorem da_cons {X : Cx} {e : Expr} {es : List Expr} {f : Env → M D} {g : Env → M (List D)} (ha : PE X e (tE X.K XR E f)) (hr : PA X es (tA X.K XR E g)) (hs : noStar e = true) : PA X (e :: es) (tA X.K XR E (consF f g)) :=
  (pa_cons ha hr (noStar_ok hs _ _)).imp fun σ H Q h => by
    obtain ⟨ρ, S, m, r, A, h⟩ := h
    refine ⟨ρ, S, m, r, A, h.bind.imp fun d m1 S1 H1 g1 s1 c1 q v rv => ?_⟩
    refine ⟨ρ, S1, m1, r, A.grow g1 s1 c1, q.bind.imp fun ds m2 S2 H2 g2 s2 c2 q vs rvs => ?_⟩
    exact Post.here q s2 c2 (v :: vs) ⟨v, vs, rfl, rel_grow g2 rv, rvs⟩
/-- the arguments, then the rest -/
theorem tE.args {f : Env → M (List D)} {k : Env → List D → M D} {σ : St} {H : Hp} {Q : VK} (h : tE K XR E (fun ρ => bnd (f ρ) (k ρ)) σ H Q) : tA K XR E f σ H fun vs H1 => ∃ ρ S m r ds, At K ρ S m r σ H1 ∧ RelDs K H1 ⟨m, r⟩ ds vs ∧
    PostV K XR E ρ.bs r m H1 (k ρ ds S) Q := by
  obtain ⟨ρ, S, m, r, A, h⟩ := h
  exact ⟨ρ, S, m, r, A, h.bind.imp fun d m1 S1 H1 g s c q v rv => ⟨ρ, S1, m1, r, d, A.grow g s c, rv, q⟩⟩

variable {X : Cx} {e a b : Expr} {es : List Expr} {pos : Pos} {f g : Env → M D} {fs : Env → M (List D)}
theorem limIf {bs : List Nat} {r m : List Addr} {H : Hp} {α : Type} {l : List D} {x : M α} {S : Sto} {okk : α → List Addr → Sto → Hp → Prop} (h : Post K XR E bs r m H ((if limL l then x else bad) S) okk) : Nat.ble l.length LIM = true ∧ Post K XR E bs r m H (x S) okk := by
  cases q : limL l with
  | true => rw [q] at h; exact ⟨q, h⟩
  | false => rw [q] at h; exact h.elim
theorem de_tup {x1} (h : PA X es (tA X.K XR E fs)) : PE X (.Tuple es x1 pos) (tE X.K XR E fun ρ => bnd (fs ρ) fun l => if limL l then ret (.tup l) else bad) := (pe_tup h).imp fun σ H Q h => by
  obtain ⟨ρ, S, m, r, A, h⟩ := h.args
  refine ⟨ρ, S, m, r, A, h.imp fun ds m1 S1 H1 g1 s1 c1 q vs rvs => ?_⟩
  obtain ⟨ρ2, S2, m2, r2, ds2, A2, rv2, q⟩ := q vs rvs
  obtain ⟨hl, q⟩ := limIf q
  have hz := LIM_line hl
  rw [rv2.length] at hz
  exact ⟨hz, PostV.tup q A2.sto A2.cl rv2⟩

/-- the new list's place, from a heap on -/
theorem NewL.mk {Q : VK} {r m m1 : List Addr} {H H1 : Hp} {bs : List Nat} {l : List D} {S : Sto} {xs : List V} (h : NewL K Q r m H bs l S) (g : Grow m H m1 H1) (s : SimS K H1 ⟨m1, r⟩ S) (c : Cls bs S) (rl : RelDs K H1 ⟨m1, r⟩ l xs) :
    ∀ p, H1 p = none → Q (.ref p) (upd H1 p (.lst xs)) := fun p hp => by
  have hp0 : H p = none := by
    cases e : H p with
    | none => rfl
    | some o => exact absurd hp (g.hold p (by rw [e]; simp))
  exact h p xs m1 _ (g.trans (Grow.new1 hp)) (s.fresh hp) c hp0 upd_same (RelDs.fresh hp l xs rl)
theorem tN_res {Q : VK} {r m : List Addr} {H : Hp} {bs : List Nat} {res : R (List D)} : (match res with
  | .ok l S' => NewL K Q r m H bs l S'
  | .ex c d S' => ∀ m' H' cv dd, Grow m H m' H' → SimS K H' ⟨m', r⟩ S' → Cls bs S' → XR c d cv dd H' → E cv dd H'
  | .bad => False) → Post K XR E bs r m H res fun l m1 S1 H1 => ∀ xs, RelDs K H1 ⟨m1, r⟩ l xs → ∀ p, H1 p = none → Q (.ref p) (upd H1 p (.lst xs)) := by
  intro h
  cases res with
  | ok l S' => exact fun m1 H1 g s c xs rl => NewL.mk h g s c rl
  | ex c d S' => exact h
  | bad => exact h
/-- a new list that nobody changes -/
theorem tN_lst {σ : St} {H : Hp} {Q : VK} (h : tE K XR E (fun ρ => bnd (fs ρ) fun l => ret (.lst l)) σ H Q) : tN K XR E fs σ H Q := by
  obtain ⟨ρ, S, m, r, A, h⟩ := h
  refine ⟨ρ, S, m, r, A, ?_⟩
  have h := h.bind
  cases q : fs ρ S with
  | ok l S1 =>
    rw [q] at h
    intro a xs m' H' g s c ha hx rl
    have s' := s.less (r := r) fun b hb => List.mem_cons_of_mem _ hb
    have nr : a ∉ r := fun z => (A.sto.res a z).1 ha
    exact (h m' H' g s' c) m' H' (Grow.refl _ _) s' c (.ref a) ⟨a, xs, rfl, hx, (s.res a List.mem_cons_self).2, nr, RelDs.less (p := ⟨m', a :: r⟩) (fun b hb => List.mem_cons_of_mem _ hb) l xs rl⟩
  | ex c d S1 => rw [q] at h; exact h
  | bad => rw [q] at h; exact h
theorem Cls.snoc {bs : List Nat} {S : Sto} {so : SO} (c : Cls bs S) : Cls bs (S ++ [so]) := fun b hb => by
  obtain ⟨h1, h2⟩ := c b hb
  refine ⟨by rw [List.length_append]; exact Nat.le_add_right_of_le h1, fun n so' hn e => h2 n so' hn ?_⟩
  rw [List.getElem?_append_left (by omega)] at e
  exact e
/-- a new list of the store -/
theorem tN_ref {σ : St} {H : Hp} {Q : VK} (h : tE K XR E (fun ρ => bnd (fs ρ) alloc) σ H Q) : tN K XR E fs σ H Q := by
  obtain ⟨ρ, S, m, r, A, h⟩ := h
  refine ⟨ρ, S, m, r, A, ?_⟩
  dsimp only [bnd] at h
  cases q : fs ρ S with
  | ok l S1 =>
    rw [q] at h
    intro a xs m' H' g s c ha hx rl
    have nr : a ∉ r := fun z => (A.sto.res a z).1 ha
    have s' := s.less (r := r) fun b hb => List.mem_cons_of_mem _ hb
    have s2 : SimS K H' ⟨m' ++ [a], r⟩ (S1 ++ [.lst l]) := s.adopt nr hx rfl ⟨xs, hx, RelDs.adopt hx rfl l xs rl⟩
    obtain ⟨n, en, hn⟩ := g.new
    have g2 : Grow m H (m' ++ [a]) H' := ⟨g.keep, g.hold, n ++ [a], by rw [en, List.append_assoc], fun b hb => by
      rcases List.mem_append.mp hb with z | z
      · exact hn b z
      · rw [List.mem_singleton.mp z]; exact ha⟩
    refine h (m' ++ [a]) H' g2 s2 c.snoc (.ref a) ⟨a, ?_, rfl⟩
    show (m' ++ [a])[S1.length]? = some a
    have : m'.length = S1.length := s.len
    rw [← this]; simp
  | ex c d S1 => rw [q] at h; exact h
  | bad => rw [q] at h; exact h

def limF (fs : Env → M (List D)) : Env → M (List D) := fun ρ => limM (fs ρ)
theorem limM_eq {l : List D} {x : M (List D)} {S S1 : Sto} (h : x S = .ok l S1) : limM x S = if limL l then .ok l S1 else .bad := by
  unfold limM bnd
  rw [h]
  show (if limL l then ret l else bad) S1 = _
  cases limL l <;> rfl
/-- a reading of a new list, whose items come from a run -/
theorem tN_of {σ : St} {H : Hp} {Q : VK} (h : tN K XR E fs σ H Q) : ∃ ρ S m r, At K ρ S m r σ H ∧ Post K XR E ρ.bs r m H (fs ρ S) fun l m1 S1 H1 => ∀ xs, RelDs K H1 ⟨m1, r⟩ l xs → ∀ p, H1 p = none → Q (.ref p) (upd H1 p (.lst xs)) := by
  obtain ⟨ρ, S, m, r, A, h⟩ := h
  exact ⟨ρ, S, m, r, A, tN_res h⟩
theorem dn_ls (h : PA X es (tA X.K XR E fs)) : PE X (.List es pos) (tN X.K XR E fun ρ => limM (fs ρ)) := (pe_lst h).imp fun σ H Q h => by
  obtain ⟨ρ, S, m, r, A, h⟩ := tN_of h
  unfold limM at h
  refine ⟨ρ, S, m, r, A, h.bind.imp fun ds m1 S1 H1 g1 s1 c1 q vs rvs => ?_⟩
  obtain ⟨hl, q⟩ := limIf q
  have hz := LIM_line hl
  rw [rvs.length] at hz
  exact ⟨hz, Post.here q s1 c1 vs rvs⟩
def two (f g : Env → M D) (k : D → D → Sto → Option (List D)) : Env → M (List D) := fun ρ => bnd (f ρ) fun x => bnd (g ρ) fun y => fun S => ofO (k x y S) S
theorem dn_two {op : Operator} {rr : R2} {k : D → D → Sto → Option (List D)} (ho : OpR X (binaryOp op) rr) (ha : PE X a (tE X.K XR E f)) (hb : PE X b (tE X.K XR E g))
    (hk : ∀ {S : Sto} {m r : List Addr} {H : Hp} {bs : List Nat} {x y : D} {l : List D} {v u : V} {Q : VK}, SimS X.K H ⟨m, r⟩ S → Cls bs S → RelD X.K H ⟨m, r⟩ x v → RelD X.K H ⟨m, r⟩ y u → k x y S = some l →
      (∀ p xs, H p = none → RelDs X.K H ⟨m, r⟩ l xs → Q (.ref p) (upd H p (.lst xs))) → rr v u H Q) : PE X (.BinOp a op b pos) (tN X.K XR E (two f g k)) := (pe_op ho ha hb).imp fun σ H Q h => by
  obtain ⟨ρ, S, m, r, A, h⟩ := tN_of h
  refine ⟨ρ, S, m, r, A, (Post.bind h).imp fun x m1 S1 H1 g1 s1 c1 q v rv => ?_⟩
  refine ⟨ρ, S1, m1, r, A.grow g1 s1 c1, (Post.bind q).imp fun y m2 S2 H2 g2 s2 c2 q u ru => ?_⟩
  obtain ⟨l, e, q⟩ := q.ofO
  exact hk s2 c2 (rel_grow g2 rv) ru e fun p xs hp rl => Post.here q s2 c2 xs rl p hp
theorem dn_cat (ha : PE X a (tE X.K XR E f)) (hb : PE X b (tE X.K XR E g)) : PE X (.BinOp a .Add b pos) (tN X.K XR E (two f g fun x y S => catL S x y)) :=
  dn_two op_cat ha hb fun s c rx ry e q => catL_ok s c rx ry e q
theorem dn_rep (ha : PE X a (tE X.K XR E f)) (hb : PE X b (tE X.K XR E g)) : PE X (.BinOp a .Mult b pos) (tN X.K XR E (two f g fun x y S => match y with
    | .int j => repM S x j
    | _ => none)) :=
  dn_two op_rep ha hb fun {S m r H bs x y l v u Q} s c rx ry e q => by
    cases y with
    | int j => exact repM_ok s c rx ry e q
    | _ => cases e

/-- a call by its rule on values -/
def PrOk (K : PySem.W.Frag) (XR : XRel) (E : XK) (f : Sto → List D → Option D) (rr : List V → Hp → VK → Prop) : Prop :=
  ∀ (S : Sto) (m r : List Addr) (H : Hp) (bs : List Nat) (ds : List D) (d : D) (vs : List V) (Q : VK), SimS K H ⟨m, r⟩ S → Cls bs S → RelDs K H ⟨m, r⟩ ds vs → f S ds = some d →
    PostV K XR E bs r m H (.ok d S) Q → rr vs H Q
def priF (h : Sto → List D → Option D) (fs : Env → M (List D)) : Env → M D := fun ρ => bnd (fs ρ) fun ds => fun S => ofO (h S ds) S
theorem priF_ok {h : Sto → List D → Option D} {rr : List V → Hp → VK → Prop} (hok : PrOk K XR E h rr) {σ : St} {H : Hp} {Q : VK} (q : tE K XR E (priF h fs) σ H Q) : tCB rr (tA K XR E fs) σ H Q := by
  obtain ⟨ρ, S, m, r, A, q⟩ := tE.args q
  refine ⟨ρ, S, m, r, A, q.imp fun ds m1 S1 H1 g1 s1 c1 q vs rvs => ?_⟩
  obtain ⟨ρ2, S2, m2, r2, ds2, A2, rv2, q⟩ := q vs rvs
  obtain ⟨d, e, q⟩ := q.ofO
  exact hok S2 m2 r2 H1 ρ2.bs ds2 d vs Q A2.sto A2.cl rv2 e q
theorem backNo {pos : Pos} {env : PySem.Env} : ∀ {es : List Expr}, (es.all noStar) = true → (backTo pos (starEach es env)).any (·.1) = false
  | [], _ => rfl
  | e :: r, h => by
    obtain ⟨h1, h2⟩ := two_and (show (noStar e && r.all noStar) = true from h)
    rw [noStar_ok h1]
    show (false || (backTo pos (starEach r env)).any (·.1)) = false
    rw [backNo h2] <;> rfl
theorem seq_inv {H : Hp} {m r : List Addr} {S : Sto} {d : D} {l : List D} {v : V} (s : SimS K H ⟨m, r⟩ S) (rv : RelD K H ⟨m, r⟩ d v) (e : seqOf S d = some l) : ∃ a xs, v = .ref a ∧ RelDs K H ⟨m, r⟩ l xs ∧ (SqL K H a xs ∨ (TupAt K H m a xs ∧ d = .tup l)) := by
  cases d with
  | tup k =>
    have e' : k = l := Option.some.inj e
    subst e'
    obtain ⟨a, xs, e1, t, q⟩ := rv
    exact ⟨a, xs, e1, q, .inr ⟨t, rfl⟩⟩
  | lst k =>
    obtain ⟨a, xs, h1, h2, h3⟩ := lstOf_inv s rv (show lstOf S (.lst k) = some l from e)
    exact ⟨a, xs, h1, h3, .inl (SqL.of h2)⟩
  | ref n =>
    obtain ⟨a, xs, h1, h2, h3⟩ := lstOf_inv s rv (show lstOf S (.ref n) = some l from e)
    exact ⟨a, xs, h1, h3, .inl (SqL.of h2)⟩
  | _ => cases e
theorem sq_or {H : Hp} {m : List Addr} {a : Addr} {xs : List V} {p : Prop} (h : SqL K H a xs ∨ (TupAt K H m a xs ∧ p)) : SqL K H a xs ∨ SqT K H a xs := h.elim .inl fun h => .inr h.1.sq
theorem one_inv {H : Hp} {p : Pl} {d : D} {vs : List V} (h : RelDs K H p [d] vs) : ∃ v, vs = [v] ∧ RelD K H p d v := by
  obtain ⟨v, r, e, h1, h2⟩ := h
  cases (show r = [] from h2)
  exact ⟨v, e, h1⟩
theorem two_inv {H : Hp} {p : Pl} {d e : D} {vs : List V} (h : RelDs K H p [d, e] vs) : ∃ v u, vs = [v, u] ∧ RelD K H p d v ∧ RelD K H p e u := by
  obtain ⟨v, r, q, h1, h2⟩ := h
  obtain ⟨u, q2, h3⟩ := one_inv h2
  exact ⟨v, u, by rw [q, q2], h1, h3⟩
theorem ints_inv {H : Hp} {p : Pl} : ∀ {l : List D} {xs : List V} {ns : List Int}, RelDs K H p l xs → intsOf l = some ns → xs = ns.map V.int
  | [], xs, ns, h, e => by
    cases e
    exact h
  | .int i :: r, xs, ns, h, e => by
    obtain ⟨v, t, e1, h1, h2⟩ := h
    have e' : (intsOf r).map (i :: ·) = some ns := e
    cases q : intsOf r with
    | none => rw [q] at e'; cases e'
    | some k =>
      rw [q] at e'
      cases e'
      rw [e1, ints_inv h2 q, show v = V.int i from h1] <;> rfl
  | .non :: _, _, _, _, e => by cases e
  | .bl _ :: _, _, _, _, e => by cases e
  | .str _ :: _, _, _, _, e => by cases e
  | .tup _ :: _, _, _, _, e => by cases e
  | .lst _ :: _, _, _, _, e => by cases e
  | .scr _ :: _, _, _, _, e => by cases e
  | .ref _ :: _, _, _, _, e => by cases e
  | .rng _ _ :: _, _, _, _, e => by cases e
theorem bls_inv {H : Hp} {p : Pl} : ∀ {l : List D} {xs : List V} {ns : List Bool}, RelDs K H p l xs → blsOf l = some ns → xs = ns.map V.bl
  | [], xs, ns, h, e => by
    cases e
    exact h
  | .bl i :: r, xs, ns, h, e => by
    obtain ⟨v, t, e1, h1, h2⟩ := h
    have e' : (blsOf r).map (i :: ·) = some ns := e
    cases q : blsOf r with
    | none => rw [q] at e'; cases e'
    | some k =>
      rw [q] at e'
      cases e'
      rw [e1, bls_inv h2 q, show v = V.bl i from h1] <;> rfl
  | .non :: _, _, _, _, e => by cases e
  | .int _ :: _, _, _, _, e => by cases e
  | .str _ :: _, _, _, _, e => by cases e
  | .tup _ :: _, _, _, _, e => by cases e
  | .lst _ :: _, _, _, _, e => by cases e
  | .scr _ :: _, _, _, _, e => by cases e
  | .ref _ :: _, _, _, _, e => by cases e
  | .rng _ _ :: _, _, _, _, e => by cases e

def rInts (K : PySem.W.Frag) (C : List Int → Prop) (g : List Int → Int) : List V → Hp → VK → Prop := fun vs H Q => ∃ (a : Addr) (ns : List Int), vs = [V.ref a] ∧ (SqL K H a (ns.map V.int) ∨ SqT K H a (ns.map V.int)) ∧ C ns ∧ Q (.int (g ns)) H
theorem cr_sumA {X : Cx} (hc : X.calm = true) : CallR X (.builtin "sum") (rInts X.K (fun _ => True) fun ns => ns.sum) := by
  intro pins s σ H vs us Q I r h
  obtain ⟨a, ns, rfl, hs, _, q⟩ := h
  rcases hs with hs | hs
  · exact cr_sum hc pins s σ H _ us Q I r ⟨a, ns, rfl, hs, q⟩
  · obtain ⟨its, rv, hl, _⟩ := I.tuple hs
    rw [Vals.ref1 r]
    have hi := rv.ints
    obtain ⟨xs, e⟩ := hi.allInts.items
    have hn : numsOf (intItems xs).toList = ns := by rw [← e]; exact hi.numsOf
    rw [nums_intItems] at hn
    have hl : s.heap.IsTuple a (intItems xs) := by rw [← e]; exact hl
    refine PySem.W.ktm_sumG (I.ok.hd hc) hl fun h' tk t' hk => ?_
    rw [preSum_eq, List.take_of_length_le (by simp), hn]
    exact ⟨.int _, H, I.kept hk, ⟨_, rfl⟩, q⟩
theorem readsInts {h : Heap} : ∀ {us : List Value} {ns : List Int}, IntsAre us ns → ∃ as, ReadsAll h us (ns.map PyData.int) as
  | _, _, .nil => ⟨[], .nil⟩
  | _, _, .cons n t r => by
    obtain ⟨as, q⟩ := readsInts (h := h) r
    exact ⟨[] ++ as, .cons (.int n t) q⟩
theorem alikeInts (l : List Int) : PySem.W.AlikeAll (l.map PyData.int) := by
  refine ⟨fun x hx y hy => ?_, fun x hx => ?_⟩
  · obtain ⟨i, _, rfl⟩ := List.mem_map.mp hx
    obtain ⟨j, _, rfl⟩ := List.mem_map.mp hy
    rfl
  · obtain ⟨i, _, rfl⟩ := List.mem_map.mp hx
    simp
theorem readsIntInv {h : Heap} {v : Value} {i : Int} {as : List Addr} (r : Reads h v (.int i) as) : ∃ t, v = .int i t := by
  cases r with
  | int _ t => exact ⟨t, rfl⟩
def hdInt (f : Int → List Int → Int) : List Int → Int
  | [] => 0
  | a :: r => f a r
theorem cr_maxA {X : Cx} (hc : X.calm = true) (hu : X.A.units + 65 < cLine) : CallR X (.builtin "max") (rInts X.K (fun ns => ns ≠ []) (hdInt maxI)) := by
  intro pins s σ H vs us Q I r h
  obtain ⟨a, ns, rfl, hs, hne, q⟩ := h
  cases ns with
  | nil => exact absurd rfl hne
  | cons n ns =>
    rw [Vals.ref1 r]
    have hd : X.A.units + 1 + PyData.depthAll (PyData.int n :: ns.map PyData.int) < cLine := by
      have := PySem.W.depth_ints (n :: ns)
      rw [List.map_cons] at this
      rw [this]; omega
    rcases hs with hs | hs
    · obtain ⟨its, rv, hl, _⟩ := I.list hs
      obtain ⟨as, hr⟩ := readsInts (h := s.heap) rv.ints
      refine PySem.W.max_list_data (I.ok.hd hc) hl.isList hr (alikeInts (n :: ns)) hd fun i v h' tk bs _ hv hk => ?_
      rw [PySem.W.maxD_ints] at hv
      obtain ⟨t, rfl⟩ := readsIntInv hv
      exact ⟨.int _, H, I.kept hk, ⟨_, rfl⟩, q⟩
    · obtain ⟨its, rv, hl, _⟩ := I.tuple hs
      obtain ⟨as, hr⟩ := readsInts (h := s.heap) rv.ints
      refine PySem.W.max_tuple_data (I.ok.hd hc) hl hr (alikeInts (n :: ns)) hd fun i v h' tk bs _ hv hk => ?_
      rw [PySem.W.maxD_ints] at hv
      obtain ⟨t, rfl⟩ := readsIntInv hv
      exact ⟨.int _, H, I.kept hk, ⟨_, rfl⟩, q⟩
theorem cr_minA {X : Cx} (hc : X.calm = true) (hu : X.A.units + 65 < cLine) : CallR X (.builtin "min") (rInts X.K (fun ns => ns ≠ []) (hdInt minI)) := by
  intro pins s σ H vs us Q I r h
  obtain ⟨a, ns, rfl, hs, hne, q⟩ := h
  cases ns with
  | nil => exact absurd rfl hne
  | cons n ns =>
    rw [Vals.ref1 r]
    have hd : X.A.units + 1 + PyData.depthAll (PyData.int n :: ns.map PyData.int) < cLine := by
      have := PySem.W.depth_ints (n :: ns)
      rw [List.map_cons] at this
      rw [this]; omega
    rcases hs with hs | hs
    · obtain ⟨its, rv, hl, _⟩ := I.list hs
      obtain ⟨as, hr⟩ := readsInts (h := s.heap) rv.ints
      refine PySem.W.min_list_data (I.ok.hd hc) hl.isList hr (alikeInts (n :: ns)) hd fun i v h' tk bs _ hv hk => ?_
      rw [PySem.W.minD_ints] at hv
      obtain ⟨t, rfl⟩ := readsIntInv hv
      exact ⟨.int _, H, I.kept hk, ⟨_, rfl⟩, q⟩
    · obtain ⟨its, rv, hl, _⟩ := I.tuple hs
      obtain ⟨as, hr⟩ := readsInts (h := s.heap) rv.ints
      refine PySem.W.min_tuple_data (I.ok.hd hc) hl hr (alikeInts (n :: ns)) hd fun i v h' tk bs _ hv hk => ?_
      rw [PySem.W.minD_ints] at hv
      obtain ⟨t, rfl⟩ := readsIntInv hv
      exact ⟨.int _, H, I.kept hk, ⟨_, rfl⟩, q⟩
end
end Ri
set_option maxHeartbeats 1000000
namespace Ri
open PySem PySem.Calls PyProof.Rows PySem.W
/-- the heap with the items in a new list -/
def copyBase (h : Heap) (us : List Value) : Heap := (h.push (seqObj "list" #[] 0)).update h.objs.size (Obj.mapSeq (· ++ us.toArray))
section
variable {prog : Program} {w : World} {A : Around} {E : Value → Shared → Prop} {s : Shared}
theorem tup_collect {a : Addr} {us : List Value} {Q : List Value → Shared → Prop} (ht : IsTup s.heap a us.toArray) (hz : us.length ≤ sizeLine)
    (q : Q us { s with heap := copyBase s.heap us }) : wpAny (model prog w) A (collect (.ref a)) Q E s := by
  obtain ⟨ob, g, gc, m, gd⟩ := id ht
  unfold collect
  refine wpAny_bind (wpAny_runValue (codeAny_builtin entry_proto_collect' ?start))
  case start =>
    refine (?_ : wpAny _ _ (do again (.builtin "list.__iadd__" ⟨[← newList [], .ref a], []⟩)) _ _ s)
    refine wpAny_bind (wpAny_newList (wpAny_pure ⟨Code.quiet_builtin _ (by decide +kernel), codeAny_builtin entry_list_iadd' ?ext⟩))
    case ext =>
      refine (?_ : wpAny _ _ (Builtin.List.listExtendWith (.ref s.heap.objs.size) (.ref a) (.ref s.heap.objs.size)) _ _ { s with heap := s.heap.push (seqObj "list" #[] 0) })
      have g1 := Heap.get?_push_of_some (seqObj "list" #[] 0) g
      have g2 : (s.heap.push (seqObj "list" #[] 0)).get? s.heap.objs.size = some (seqObj "list" #[] 0) := Heap.get?_push_size _ rfl
      unfold Builtin.List.listExtendWith
      refine wpAny_bind (wpAny_typeOf (T := "tuple") ⟨ob, g1, gc⟩ ?_)
      rw [if_pos (by rw [show (Value.type "tuple" == Value.type "tuple") = true from rfl] <;> simp)]
      refine wpAny_bind (listItems_at g1 gd (wpAny_bind (listItems_at (xs := #[]) (n := 0) g2 rfl ?_)))
      rw [if_neg (by simp)]
      refine wpAny_bind (listUpdate_at (xs := #[]) (n := 0) g2 rfl (wpAny_pure ?_) (Nat.zero_le _) (by
        show (#[] ++ us.toArray).size ≤ sizeLine + 1
        simp only [Array.size_append, List.size_toArray, List.length_nil] <;> omega))
      refine (?_ : wpAny (model prog w) A (do
        let o ← load s.heap.objs.size
        match o.data with | .seq xs _ => pure xs.toList | _ => unsupported "internal:collect") Q E { s with heap := copyBase s.heap us })
      refine wpAny_bind (wpAny_load (get?_update_seq g2 _) ?_)
      refine (?_ : wpAny _ _ (pure ((#[] : Array Value) ++ us.toArray).toList) Q E _)
      rw [show ((#[] : Array Value) ++ us.toArray).toList = us by simp]
      exact wpAny_pure q
theorem tup_sorted {a : Addr} {us : List Value} {Q : Value → Shared → Prop} {κ : PyProof.Rows.KeyKind} (ht : IsTup s.heap a us.toArray) (hz : us.length ≤ sizeLine)
    (S : SortsAt prog w A.in1.in1 { s with heap := sortingHeap (copyHeap s.heap us) (s.heap.objs.size + 1) us } κ us)
    (q : Q (.ref (s.heap.objs.size + 1)) { s with heap := sortedAll s.heap us (sortVals κ false us us).toArray }) : wpAny (model prog w) A (call (.builtin "sorted") [.ref a]) Q E s := by
  refine call_function_entry_kw kind_sorted plain_sorted entry_sorted (args_sorted1 _) ?_
  unfold Builtin.«sorted»
  refine wpAny_bind (m := checkCount "sorted" 1 1 _) (wpAny_pure (wpAny_bind (tup_collect ht hz (wpAny_bind (wpAny_newList ?_ hz)))))
  have e : (copyBase s.heap us).objs.size = s.heap.objs.size + 1 := by
    unfold copyBase
    rw [Heap.size_update, size_push']
  refine (?_ : wpAny _ _ _ _ _ { s with heap := copyHeap s.heap us })
  show wpAny (model prog w) A.in1 (do
    let _ ← holding [Value.ref (copyBase s.heap us).objs.size] (call (.builtin "list.sort") [Value.ref (copyBase s.heap us).objs.size] [])
    PySem.ret (Value.ref (copyBase s.heap us).objs.size)) _ _ _
  rw [e]
  refine wpAny_bind (wpAny_holding (wpAny_call_entry_kw slot_list_sort ⟨_, copyHeap_at s.heap us, rfl⟩ entry_list_sort ?body (args_list_sort _)))
  case body =>
    refine (?_ : wpAny (model prog w) A.in1.in1 (Builtin.«list.sort» ⟨[.ref (s.heap.objs.size + 1)], []⟩) _ _ _)
    have k : ∀ E2, wpAny (model prog w) A.in1.in1 (Builtin.«list.sort» ⟨[.ref (s.heap.objs.size + 1)], []⟩) (fun f s' => f = .done (.ret .none) ∧ Q (.ref (s.heap.objs.size + 1)) s') E2 { s with heap := copyHeap s.heap us } := fun E2 =>
      list_sort_vals (s := { s with heap := copyHeap s.heap us }) (copyHeap_at s.heap us) S hz ⟨rfl, q⟩
    refine wpAny_mono (k _) (fun f s' ⟨e1, e2⟩ => ?_) fun _ _ e => e
    subst e1
    exact ⟨_, rfl, wpAny_pure ⟨_, rfl, e2⟩⟩
theorem tup_sorted_data {β : Type} {R : Value → β → Prop} {enc : β → PyData} {a : Addr} {us : List Value} {bs : List β} {Q : Value → Shared → Prop} (ht : IsTup s.heap a us.toArray) (e : EachIs R us bs)
    (er : EachIs (fun v b => ∃ as, Reads s.heap v (enc b) as) us bs) (hal : AllAlike (bs.map enc)) (hk : Sortable (bs.map enc)) (hL : bs.length ≤ sizeLine) (hu : ∀ b, b ∈ bs → A.units + 2 + (enc b).depth < cLine)
    (h : ∀ out, out.length = bs.length → EachIs R out (bs.mergeSort (dataLe false enc)) → Q (.ref (s.heap.objs.size + 1)) { s with heap := sortedAll s.heap us (List.toArray out) }) :
    wpAny (model prog w) A (call (.builtin "sorted") [.ref a]) Q E s := by
  have er2 := er.mono fun _ _ ⟨as, r⟩ => (⟨as, PyProof.Rows.Reads.keeps (fun _ _ => sorting_copy_old) r⟩ : ∃ as, Reads (sortingHeap (copyHeap s.heap us) (s.heap.objs.size + 1) us) _ (enc _) as)
  have hz : us.length ≤ sizeLine := by rw [e.length] <;> exact hL
  refine tup_sorted ht hz (κ := dataKind (sortingHeap (copyHeap s.heap us) (s.heap.objs.size + 1) us) (bs.map enc)) ?_ (h _ (by rw [sortVals_length false rfl] <;> exact e.length) (sortVals_data false e er2 hal))
  refine SortsAt.data (s := { s with heap := sortingHeap (copyHeap s.heap us) (s.heap.objs.size + 1) us }) (each_map (R := fun v d => ∃ as, Reads (sortingHeap (copyHeap s.heap us) (s.heap.objs.size + 1) us) v d as) enc er2) hal hk ?_
  intro d hd
  obtain ⟨b, hb, rfl⟩ := List.mem_map.mp hd
  exact hu b hb
end
end Ri
set_option maxHeartbeats 1000000
namespace Ri
open PySem PySem.Spec PyProof.Rows L2

section
variable {K : PySem.W.Frag} {XR : XRel} {E : XK}
theorem dle (a b : V × D) : PySem.W.dataLe false (fun p : V × D => toPy p.2) a b = !PySem.W.dataLt (toPy b.2) (toPy a.2) := rfl
theorem alkAll_mem : ∀ {l : List D}, alkAll l = true → ∀ x ∈ l, ∀ y ∈ l, PySem.W.alike (toPy x) (toPy y) = true
  | [], _, _, hx, _, _ => by cases hx
  | z :: r, h, x, hx, y, hy => by
    obtain ⟨h1, h2⟩ := two_and (show (alk z z && r.all (alk z) && alkAll r) = true from h)
    obtain ⟨h0, h1⟩ := two_and h1
    have ha : ∀ w ∈ r, PySem.W.alike (toPy z) (toPy w) = true := fun w hw => alk_py z w (List.all_eq_true.mp h1 w hw)
    rcases List.mem_cons.mp hx with rfl | hx1
    · rcases List.mem_cons.mp hy with rfl | hy1
      · exact alk_py _ _ h0
      · exact ha y hy1
    · rcases List.mem_cons.mp hy with rfl | hy1
      · rw [PySem.W.alike_comm]; exact ha x hx1
      · exact alkAll_mem h2 x hx1 y hy1
theorem alkAll_alk : ∀ {l : List D}, alkAll l = true → ∀ x ∈ l, ∀ y ∈ l, alk x y = true ∨ alk y x = true
  | [], _, _, hx, _, _ => by cases hx
  | z :: r, h, x, hx, y, hy => by
    obtain ⟨h1, h2⟩ := two_and (show (alk z z && r.all (alk z) && alkAll r) = true from h)
    obtain ⟨h0, h1⟩ := two_and h1
    have ha : ∀ w ∈ r, alk z w = true := fun w hw => List.all_eq_true.mp h1 w hw
    rcases List.mem_cons.mp hx with rfl | hx1
    · rcases List.mem_cons.mp hy with rfl | hy1
      · exact .inl h0
      · exact .inl (ha y hy1)
    · rcases List.mem_cons.mp hy with rfl | hy1
      · exact .inr (ha x hx1)
      · exact alkAll_alk h2 x hx1 y hy1
mutual
theorem alk_comm : ∀ x y : D, alk x y = alk y x
  | .int _, y => by cases y <;> rfl
  | .str _, y => by cases y <;> rfl
  | .tup l, y => by
    cases y with
    | tup k => exact alks_comm l k
    | _ => rfl
  | .non, y => by cases y <;> rfl
  | .bl _, y => by cases y <;> rfl
  | .lst _, y => by cases y <;> rfl
  | .scr _, y => by cases y <;> rfl
  | .ref _, y => by cases y <;> rfl
  | .rng _ _, y => by cases y <;> rfl
theorem alks_comm : ∀ x y : List D, alks x y = alks y x
  | [], [] => rfl
  | [], _ :: _ => rfl
  | _ :: _, [] => rfl
  | a :: x, b :: y => by
    show (alk a b && alks x y) = (alk b a && alks y x)
    rw [alk_comm a b, alks_comm x y]
end
theorem ltD_of {l : List D} (h : alkAll l = true) (hd : ∀ x ∈ l, isDt x = true) {x y : D} (hx : x ∈ l) (hy : y ∈ l) : ltD x y = PySem.W.dataLt (toPy x) (toPy y) := by
  have ha : alk x y = true := by
    rcases alkAll_alk h x hx y hy with z | z
    · exact z
    · rw [alk_comm]; exact z
  exact ltD_py x y ha (hd x hx) (hd y hy)
/-- inserting is inserting where core's sort does -/
theorem ins_eq (le : V × D → V × D → Bool) (p : V × D) : ∀ (l1 l2 : List (V × D)), (∀ b ∈ l1, ltD b.2 p.2 = true) → (∀ b ∈ l2.head?, ltD b.2 p.2 = false) → insD p.2 ((l1 ++ l2).map (·.2)) = (l1 ++ p :: l2).map (·.2)
  | [], [], _, _ => rfl
  | [], b :: l2, _, h2 => by
    show (if ltD b.2 p.2 = true then _ else _) = _
    rw [h2 b rfl] <;> rfl
  | b :: l1, l2, h1, h2 => by
    show (if ltD b.2 p.2 = true then b.2 :: insD p.2 ((l1 ++ l2).map (·.2)) else _) = _
    rw [h1 b List.mem_cons_self, ins_eq le p l1 l2 (fun c hc => h1 c (List.mem_cons_of_mem _ hc)) h2] <;> rfl
theorem sort_eq : ∀ (zs : List (V × D)) (big : List D), alkAll big = true → (∀ x ∈ big, isDt x = true) → (∀ z ∈ zs, z.2 ∈ big) → (zs.mergeSort (PySem.W.dataLe false fun p : V × D => toPy p.2)).map (·.2) = sortD (zs.map (·.2))
  | [], _, _, _, _ => by simp [sortD]
  | p :: zs, big, h, hd, hz => by
    have T := PySem.W.sortLe_total (listOrd itemOrd) false fun q : V × D => PySem.W.keyToks (toPy q.2)
    have tr : ∀ a b c : V × D, PySem.W.dataLe false (fun p : V × D => toPy p.2) a b = true → PySem.W.dataLe false (fun p : V × D => toPy p.2) b c = true → PySem.W.dataLe false (fun p : V × D => toPy p.2) a c = true := T.trans
    have to : ∀ a b : V × D, (PySem.W.dataLe false (fun p : V × D => toPy p.2) a b || PySem.W.dataLe false (fun p : V × D => toPy p.2) b a) = true := fun a b => Bool.or_eq_true_iff.mpr (T.total a b)
    obtain ⟨l1, l2, e1, e2, e3⟩ := List.mergeSort_cons tr to p zs
    have ih := sort_eq zs big h hd fun z hz' => hz z (List.mem_cons_of_mem _ hz')
    have mem : ∀ z ∈ l1 ++ l2, z.2 ∈ big := fun z hz' => by
      rw [← e2] at hz'
      exact hz z (List.mem_cons_of_mem _ ((List.mergeSort_perm zs _).mem_iff.mp hz'))
    have pb : p.2 ∈ big := hz p List.mem_cons_self
    have srt := List.pairwise_mergeSort tr to (p :: zs)
    rw [e1] at srt
    show _ = insD p.2 (sortD (zs.map (·.2)))
    rw [← ih, e1, e2]
    refine (ins_eq (PySem.W.dataLe false fun p : V × D => toPy p.2) p l1 l2 (fun b hb => ?_) fun b hb => ?_).symm
    · have q := e3 b hb
      rw [dle] at q
      rw [ltD_of h hd (mem b (List.mem_append_left _ hb)) pb]
      simpa using q
    · cases l2 with
      | nil => cases hb
      | cons c l2 =>
        have hb : c = b := Option.some.inj hb
        subst hb
        have q := (List.pairwise_cons.mp (List.pairwise_append.mp srt).2.1).1 c List.mem_cons_self
        rw [dle] at q
        rw [ltD_of h hd (mem c (List.mem_append_right _ List.mem_cons_self)) pb]
        simpa using q
def zipV : List V → List D → List (V × D)
  | v :: vs, d :: ds => (v, d) :: zipV vs ds
  | _, _ => []
theorem zipV_snd {H : Hp} {p : Pl} : ∀ {l : List D} {xs : List V}, RelDs K H p l xs → (zipV xs l).map (·.2) = l ∧ ∀ z ∈ zipV xs l, RelD K H p z.2 z.1
  | [], xs, h => by
    cases (show xs = [] from h)
    exact ⟨rfl, fun z hz => by cases hz⟩
  | d :: l, xs, h => by
    obtain ⟨v, r, e, h1, h2⟩ := h
    subst e
    obtain ⟨i1, i2⟩ := zipV_snd h2
    refine ⟨by show d :: (zipV r l).map (·.2) = d :: l; rw [i1], fun z hz => ?_⟩
    rcases List.mem_cons.mp hz with rfl | hz
    · exact h1
    · exact i2 z hz
theorem zip_each {H : Hp} {p : Pl} : ∀ {l : List D} {xs : List V} {us : List Value}, RelDs K H p l xs → Vals xs us → PySem.W.EachIs (fun (u : Value) (b : V × D) => RelV b.1 u) us (zipV xs l)
  | [], xs, us, h, r => by
    cases (show xs = [] from h)
    cases r
    exact .nil
  | d :: l, xs, us, h, r => by
    obtain ⟨v, t, e, h1, h2⟩ := h
    subst e
    cases r with
    | cons r1 r2 => exact .cons r1 (zip_each h2 r2)
theorem each_vals : ∀ {us : List Value} {zs : List (V × D)}, PySem.W.EachIs (fun (u : Value) (b : V × D) => RelV b.1 u) us zs → Vals (zs.map (·.1)) us
  | _, _, .nil => .nil
  | _, _, .cons h t => .cons h (each_vals t)
theorem zip_rel {H : Hp} {p : Pl} : ∀ {zs : List (V × D)}, (∀ z ∈ zs, RelD K H p z.2 z.1) → RelDs K H p (zs.map (·.2)) (zs.map (·.1))
  | [], _ => rfl
  | z :: zs, h => ⟨z.1, zs.map (·.1), rfl, h z List.mem_cons_self, zip_rel fun y hy => h y (List.mem_cons_of_mem _ hy)⟩
theorem each_and {α β : Type} {R R' : α → β → Prop} : ∀ {us : List α} {zs : List β}, PySem.W.EachIs R us zs → (∀ u z, z ∈ zs → R u z → R' u z) → PySem.W.EachIs R' us zs
  | _, _, .nil, _ => .nil
  | _, _, .cons h t, f => .cons (f _ _ List.mem_cons_self h) (each_and t fun u z hz => f u z (List.mem_cons_of_mem _ hz))
theorem isDts_mem : ∀ {l : List D}, isDts l = true → ∀ x ∈ l, isDt x = true
  | [], _, _, hx => by cases hx
  | d :: r, h, x, hx => by
    obtain ⟨h1, h2⟩ := two_and (show (isDt d && isDts r) = true from h)
    rcases List.mem_cons.mp hx with rfl | hx
    · exact h1
    · exact isDts_mem h2 x hx
theorem depL_mem : ∀ {l : List D}, ∀ x ∈ l, depD x ≤ depL l
  | [], _, hx => by cases hx
  | d :: r, x, hx => by
    show depD x ≤ max (depD d) (depL r)
    rcases List.mem_cons.mp hx with rfl | hx
    · exact Nat.le_max_left _ _
    · exact Nat.le_trans (depL_mem x hx) (Nat.le_max_right _ _)
theorem can_inv {l : List D} (h : canSort l = true) : isDts l = true ∧ alkAll l = true ∧ (noEmp l = true ∨ noTup l = true) ∧ depL l ≤ 60 ∧ l.length ≤ sizeLine := by
  obtain ⟨h, h5⟩ := two_and h
  obtain ⟨h, h4⟩ := two_and h
  obtain ⟨h, h3⟩ := two_and h
  obtain ⟨h1, h2⟩ := two_and h
  exact ⟨h1, h2, Bool.or_eq_true_iff.mp h3, Nat.le_of_ble_eq_true h4, LIM_line h5⟩
/-- sorted(xs) -/
def rSortA (K : PySem.W.Frag) : List V → Hp → VK → Prop := fun vs H Q => ∃ (a : Addr) (xs : List V) (l : List D) (p : Pl), vs = [V.ref a] ∧ (SqL K H a xs ∨ SqT K H a xs) ∧ RelDs K H p l xs ∧ canSort l = true ∧ ∀ (ys : List V) (q : Addr), RelDs K H p (sortD l) ys → H q = none → Q (.ref q) (upd H q (.lst ys))
theorem cr_sortA {X : Cx} (hu : X.A.units + 65 < cLine) : CallR X (.builtin "sorted") (rSortA X.K) := by
  intro pins s σ H vs us Q I r h
  obtain ⟨a, xs, l, p, rfl, hs, rl, hc, q⟩ := h
  obtain ⟨h1, h2, h3, h4, h5⟩ := can_inv hc
  obtain ⟨its, rv, hl⟩ : ∃ its : List Value, Vals xs its ∧ (s.heap.IsList a its.toArray ∨ IsTup s.heap a its.toArray) := by
    rcases hs with hs | hs
    · obtain ⟨its, rv, hl, _⟩ := I.list hs
      exact ⟨its, rv, .inl hl.isList⟩
    · obtain ⟨its, rv, hl, _⟩ := I.tuple hs
      exact ⟨its, rv, .inr hl⟩
  rw [Vals.ref1 r]
  obtain ⟨z1, z2⟩ := zipV_snd rl
  have e := zip_each rl rv
  have hmem : ∀ z ∈ zipV xs l, z.2 ∈ l := fun z hz => by rw [← z1]; exact List.mem_map_of_mem hz
  have hbs : (zipV xs l).map (fun p : V × D => toPy p.2) = l.map toPy := by
    have e3 : ((zipV xs l).map (·.2)).map toPy = l.map toPy := congrArg _ z1
    rw [List.map_map] at e3
    exact e3
  have hlen : (zipV xs l).length = l.length := by
    have := congrArg List.length z1
    rw [List.length_map] at this
    exact this
  have er : PySem.W.EachIs (fun v b => ∃ as, Reads s.heap v (toPy b.2) as) its (zipV xs l) := each_and e fun u z hz hr => Dp.reads I (toPy z.2) z.1 u (dp_of z.2 z.1 (isDts_mem h1 _ (hmem z hz)) (z2 z hz)) hr
  have hal : PySem.W.AllAlike ((zipV xs l).map fun p : V × D => toPy p.2) := by
    rw [hbs]
    intro d hd d' hd'
    obtain ⟨x, hx, rfl⟩ := List.mem_map.mp hd
    obtain ⟨y, hy, rfl⟩ := List.mem_map.mp hd'
    exact alkAll_mem h2 x hx y hy
  have hk : PySem.W.Sortable ((zipV xs l).map fun p : V × D => toPy p.2) := by
    rw [hbs]
    rcases h3 with h3 | h3
    · refine .inl fun d hd => ?_
      obtain ⟨x, hx, rfl⟩ := List.mem_map.mp hd
      have q := List.all_eq_true.mp h3 x hx
      cases x with
      | tup k =>
        cases k with
        | nil => cases q
        | cons y k => exact ⟨toPy y, toPys k, rfl⟩
      | _ => cases q
    · refine .inr fun d hd => ?_
      obtain ⟨x, hx, rfl⟩ := List.mem_map.mp hd
      have q := List.all_eq_true.mp h3 x hx
      have q2 := isDts_mem h1 x hx
      cases x with
      | tup k => cases q
      | non => cases q
      | scr _ => cases q2
      | ref _ => cases q2
      | rng _ _ => cases q2
      | bl _ => exact ⟨fun z => (nomatch z), fun _ z => (nomatch z)⟩
      | int _ => exact ⟨fun z => (nomatch z), fun _ z => (nomatch z)⟩
      | str _ => exact ⟨fun z => (nomatch z), fun _ z => (nomatch z)⟩
      | lst _ => exact ⟨fun z => (nomatch z), fun _ z => (nomatch z)⟩
  have road : ∀ {Q2 : Value → Shared → Prop}, (∀ b ∈ zipV xs l, X.A.units + 2 + (toPy b.2).depth < cLine) → (∀ out, out.length = (zipV xs l).length → PySem.W.EachIs (fun (u : Value) (b : V × D) => RelV b.1 u) out ((zipV xs l).mergeSort (PySem.W.dataLe false fun p : V × D => toPy p.2)) → Q2 (.ref (s.heap.objs.size + 1)) { s with heap := PyProof.Rows.sortedAll s.heap its (List.toArray out) }) → ∀ E2, wpAny (model X.prog X.w) X.A (call (.builtin "sorted") [.ref a]) Q2 E2 s := fun hu hq E2 => by
    rcases hl with hl | hl
    · exact PySem.W.sorted_data hl e er hal hk (by rw [hlen] <;> exact h5) hu hq
    · exact tup_sorted_data hl e er hal hk (by rw [hlen] <;> exact h5) hu hq
  refine road (fun b hb => ?_) (fun out ho heach => ?_) _
  · have z1 := dep_of b.2
    have z2 := depL_mem b.2 (hmem b hb)
    omega
  · have hv := each_vals heach
    have hrel : RelDs X.K H p (sortD l) (((zipV xs l).mergeSort (PySem.W.dataLe false fun p : V × D => toPy p.2)).map (·.1)) := by
      have q := zip_rel (K := X.K) (H := H) (p := p) (zs := (zipV xs l).mergeSort (PySem.W.dataLe false fun p : V × D => toPy p.2)) fun z hz => z2 z ((List.mergeSort_perm _ _).mem_iff.mp hz)
      rw [sort_eq (zipV xs l) l h2 (isDts_mem h1) hmem, z1] at q
      exact q
    obtain ⟨ep, he'⟩ := PyProof.Rows.sortedAll_at s.heap its out.toArray
    have hsz : (((zipV xs l).mergeSort (PySem.W.dataLe false fun p : V × D => toPy p.2)).map (·.1)).length ≤ sizeLine := by rw [List.length_map, List.length_mergeSort, hlen]; exact h5
    exact ⟨.ref _, upd H (s.heap.objs.size + 1) (.lst (((zipV xs l).mergeSort (PySem.W.dataLe false fun p : V × D => toPy p.2)).map (·.1))), I.laid (t' := s.toks) (fun _ _ => PyProof.Rows.sortedAll_old) (Nat.le_succ _) ⟨hsz, out, ep, hv, he'⟩, rfl, q _ _ hrel (I.hok.fresh (Nat.le_succ _))⟩
end
end Ri
set_option maxHeartbeats 1000000
namespace Ri
open PySem PySem.Spec PyProof.Rows L2

def priC : P → Value
  | .len => .builtin "len" | .sum => .builtin "sum" | .max1 => .builtin "max" | .max2 => .builtin "max" | .min1 => .builtin "min" | .min2 => .builtin "min"
  | .abs => .builtin "abs" | .all => .builtin "all" | .any => .builtin "any" | .tuple => .type "tuple" | .list => .type "list" | .sorted => .builtin "sorted"
  | .int => .type "int" | _ => .builtin "none"
def rPri (K : PySem.W.Frag) : P → List V → Hp → VK → Prop
  | .len => fun xs H Q => (∃ p ys, xs = [.ref p] ∧ (SqL K H p ys ∨ SqT K H p ys) ∧ Q (.int ys.length) H) ∨ (∃ z : Str, xs = [.str z] ∧ z.length ≤ sizeLine ∧ Q (.int z.length) H)
  | .sum => rInts K (fun _ => True) fun ns => ns.sum
  | .max1 => rInts K (fun ns => ns ≠ []) (hdInt maxI)
  | .min1 => rInts K (fun ns => ns ≠ []) (hdInt minI)
  | .max2 => fun xs H Q => ∃ i j, xs = [.int i, .int j] ∧ Q (.int (if j > i then j else i)) H
  | .min2 => fun xs H Q => ∃ i j, xs = [.int i, .int j] ∧ Q (.int (if j < i then j else i)) H
  | .abs => fun xs H Q => ∃ i, xs = [.int i] ∧ Q (.int (if i < 0 then -i else i)) H
  | .all => rAll K
  | .any => rAny K
  | .tuple => fun xs H Q => ∃ p ys, xs = [.ref p] ∧ ((SqL K H p ys ∧ ∀ l, H l = none → Q (.ref l) (upd H l (.tup ys))) ∨ (SqT K H p ys ∧ Q (.ref p) H))
  | .list => fun xs H Q => ∃ p ys, xs = [.ref p] ∧ (SqL K H p ys ∨ SqT K H p ys) ∧ ∀ l, H l = none → Q (.ref l) (upd H l (.lst ys))
  | .sorted => rSortA K
  | .int => fun xs H Q => (∃ i, xs = [.int i] ∧ Q (.int i) H) ∨ ∃ k, xs = [.bl k] ∧ Q (.int (if k then 1 else 0)) H
  | _ => fun _ _ _ => False
theorem CallR.no {X : Cx} {f : Value} : CallR X f fun _ _ _ => False := fun _ _ _ _ _ _ _ _ _ h => h.elim
theorem cr_pri {X : Cx} (hc : X.calm = true) (hu : X.A.units + 65 < cLine) : ∀ p, CallR X (priC p) (rPri X.K p)
  | .len => call_len_seq.or call_len_str
  | .sum => cr_sumA hc
  | .max1 => cr_maxA hc hu
  | .min1 => cr_minA hc hu
  | .max2 => call_max2 hc
  | .min2 => call_min2 hc
  | .abs => call_abs
  | .all => cr_all hc
  | .any => cr_any hc
  | .tuple => call_tuple_of
  | .list => call_list_of
  | .sorted => cr_sortA hu
  | .int => call_int1
  | .sortedSet => CallR.no
  | .lenSet => CallR.no
  | .isi _ => CallR.no
  | .str => CallR.no
  | .repr => CallR.no
section
variable {K : PySem.W.Frag} {XR : XRel} {E : XK}
theorem map_inv {α β : Type} {o : Option α} {f : α → β} {b : β} (h : o.map f = some b) : ∃ a, o = some a ∧ f a = b := by
  cases o with
  | none => cases h
  | some a => exact ⟨a, rfl, Option.some.inj h⟩
theorem one_of {ds : List D} {α : Type} {f : D → Option α} {g : List D → Option α} {y : α} (h : (match ds with
  | [d] => f d
  | _ => none) = some y) : ∃ d, ds = [d] ∧ f d = some y := by
  match ds, h with
  | [d], h => exact ⟨d, rfl, h⟩
theorem ints_of {S : Sto} {m r : List Addr} {H : Hp} {d : D} {v : V} {ns : List Int} (s : SimS K H ⟨m, r⟩ S) (rv : RelD K H ⟨m, r⟩ d v) (h : (seqOf S d).bind intsOf = some ns) : ∃ a, v = .ref a ∧ (SqL K H a (ns.map V.int) ∨ SqT K H a (ns.map V.int)) := by
  cases q : seqOf S d with
  | none => rw [q] at h; cases h
  | some l =>
    rw [q] at h
    obtain ⟨a, xs, e, rl, sq⟩ := seq_inv s rv q
    have e2 := ints_inv rl h
    subst e2
    exact ⟨a, e, sq_or sq⟩
theorem bls_of {S : Sto} {m r : List Addr} {H : Hp} {d : D} {v : V} {ns : List Bool} (s : SimS K H ⟨m, r⟩ S) (rv : RelD K H ⟨m, r⟩ d v) (h : (lstOf S d).bind blsOf = some ns) : ∃ a, v = .ref a ∧ SqL K H a (ns.map V.bl) := by
  cases q : lstOf S d with
  | none => rw [q] at h; cases h
  | some l =>
    rw [q] at h
    obtain ⟨a, xs, e, hx, rl⟩ := lstOf_inv s rv q
    have e2 := bls_inv rl h
    subst e2
    exact ⟨a, e, SqL.of hx⟩
theorem pr_case {S : Sto} {p : P} {ds : List D} {d : D} (h : prim S p ds = some d) : (∃ x, ds = [x] ∧ prim1 S p x = some d) ∨ ∃ i j, ds = [.int i, .int j] ∧ prim2 p (.int i) (.int j) = some d := by
  match ds with
  | [x] => exact .inl ⟨x, rfl, h⟩
  | [] => cases h
  | _ :: _ :: _ :: _ => cases h
  | [x, y] =>
    cases x <;> first | (cases (show none = some d from h)) | (cases y <;> first | exact .inr ⟨_, _, rfl, h⟩ | (cases (show none = some d from h)))
theorem p1_ok {S : Sto} {m r : List Addr} {H : Hp} {bs : List Nat} {x d : D} {v : V} {Q : VK} (p : P) (s : SimS K H ⟨m, r⟩ S) (c : Cls bs S) (rv : RelD K H ⟨m, r⟩ x v) (e : prim1 S p x = some d) (q : PostV K XR E bs r m H (.ok d S) Q) (np : ∀ t, p ≠ .isi t) : rPri K p [v] H Q := by
  cases p with
  | sum =>
    obtain ⟨ns, e1, e2⟩ := map_inv (show ((seqOf S x).bind intsOf).map (fun l => D.int l.sum) = some d from e)
    obtain ⟨a, rfl, sq⟩ := ints_of s rv e1
    subst e2
    exact ⟨a, ns, rfl, sq, trivial, PostV.val q s c rfl⟩
  | max1 =>
    have e : headI maxI ((seqOf S x).bind intsOf) = some d := e
    cases q1 : (seqOf S x).bind intsOf with
    | none => rw [q1] at e; cases e
    | some ns =>
      rw [q1] at e
      obtain ⟨a, rfl, sq⟩ := ints_of s rv q1
      cases ns with
      | nil => cases e
      | cons n ns =>
        cases e
        exact ⟨a, n :: ns, rfl, sq, by simp, PostV.val q s c rfl⟩
  | min1 =>
    have e : headI minI ((seqOf S x).bind intsOf) = some d := e
    cases q1 : (seqOf S x).bind intsOf with
    | none => rw [q1] at e; cases e
    | some ns =>
      rw [q1] at e
      obtain ⟨a, rfl, sq⟩ := ints_of s rv q1
      cases ns with
      | nil => cases e
      | cons n ns =>
        cases e
        exact ⟨a, n :: ns, rfl, sq, by simp, PostV.val q s c rfl⟩
  | all =>
    obtain ⟨ns, e1, e2⟩ := map_inv (show ((lstOf S x).bind blsOf).map (fun l => D.bl (l.all id)) = some d from e)
    obtain ⟨a, rfl, sq⟩ := bls_of s rv e1
    subst e2
    exact ⟨a, ns, rfl, sq, PostV.val q s c rfl⟩
  | any =>
    obtain ⟨ns, e1, e2⟩ := map_inv (show ((lstOf S x).bind blsOf).map (fun l => D.bl (l.any id)) = some d from e)
    obtain ⟨a, rfl, sq⟩ := bls_of s rv e1
    subst e2
    exact ⟨a, ns, rfl, sq, PostV.val q s c rfl⟩
  | tuple =>
    obtain ⟨l, e1, e2⟩ := map_inv (show (seqOf S x).map D.tup = some d from e)
    subst e2
    obtain ⟨a, xs, rfl, rx, sq⟩ := seq_inv s rv e1
    rcases sq with sq | ⟨sq, ex⟩
    · exact ⟨a, xs, rfl, .inl ⟨sq, PostV.tup q s c rx⟩⟩
    · exact ⟨a, xs, rfl, .inr ⟨sq.sq, PostV.val q s c ⟨a, xs, rfl, sq, rx⟩⟩⟩
  | list =>
    obtain ⟨l, e1, e2⟩ := map_inv (show (seqOf S x).map D.lst = some d from e)
    subst e2
    obtain ⟨a, xs, rfl, rx, sq⟩ := seq_inv s rv e1
    exact ⟨a, xs, rfl, sq_or sq, PostV.lst q s c rx⟩
  | sorted =>
    have e : sortedD S x = some d := e
    unfold sortedD at e
    cases q1 : seqOf S x with
    | none => rw [q1] at e; cases e
    | some l =>
      rw [q1] at e
      obtain ⟨e1, e2⟩ := some_if e
      subst e2
      obtain ⟨a, xs, rfl, rx, sq⟩ := seq_inv s rv q1
      exact ⟨a, xs, l, ⟨m, r⟩, rfl, sq_or sq, rx, e1, fun ys p rl hp => PostV.lst q s c rl p hp⟩
  | len =>
    have sqc : (seqOf S x).map (fun l => D.int l.length) = some d → rPri K .len [v] H Q := fun e => by
      obtain ⟨l, e1, e2⟩ := map_inv e
      subst e2
      obtain ⟨a, xs, rfl, rx, sq⟩ := seq_inv s rv e1
      rw [rx.length] at q
      exact .inl ⟨a, xs, rfl, sq_or sq, PostV.val q s c rfl⟩
    cases x with
    | str x =>
      have e : (if Nat.ble x.length LIM then some (D.int x.length) else none) = some d := e
      obtain ⟨e1, e2⟩ := some_if e
      subst e2
      exact .inr ⟨x, by rw [show v = V.str x from rv], LIM_line e1, PostV.val q s c rfl⟩
    | _ => exact sqc e
  | abs =>
    cases x with
    | int i =>
      have e := Option.some.inj (show some (D.int (if i < 0 then -i else i)) = some d from e)
      subst e
      exact ⟨i, by rw [show v = V.int i from rv], PostV.val q s c rfl⟩
    | _ => cases e
  | int =>
    cases x with
    | int i =>
      have e := Option.some.inj (show some (D.int i) = some d from e)
      subst e
      exact .inl ⟨i, by rw [show v = V.int i from rv], PostV.val q s c rfl⟩
    | bl b =>
      have e := Option.some.inj (show some (D.int (b2i b)) = some d from e)
      subst e
      exact .inr ⟨b, by rw [show v = V.bl b from rv], PostV.val q s c rfl⟩
    | _ => cases e
  | isi t => exact absurd rfl (np t)
  | max2 => cases e
  | min2 => cases e
  | sortedSet => cases e
  | lenSet => cases e
  | str => cases e
  | repr => cases e
theorem pr_ok (p : P) (np : ∀ t, p ≠ .isi t) : PrOk K XR E (fun S ds => prim S p ds) (rPri K p) := by
  intro S m r H bs ds d vs Q s c rl e q
  rcases pr_case e with ⟨x, rfl, e⟩ | ⟨i, j, rfl, e⟩
  · obtain ⟨v, rfl, rv⟩ := one_inv rl
    exact p1_ok p s c rv e q np
  · obtain ⟨v, u, rfl, rv, ru⟩ := two_inv rl
    cases p with
    | max2 =>
      have e := Option.some.inj (show some (D.int (if j > i then j else i)) = some d from e)
      subst e
      exact ⟨i, j, by rw [show v = V.int i from rv, show u = V.int j from ru], PostV.val q s c rfl⟩
    | min2 =>
      have e := Option.some.inj (show some (D.int (if j < i then j else i)) = some d from e)
      subst e
      exact ⟨i, j, by rw [show v = V.int i from rv, show u = V.int j from ru], PostV.val q s c rfl⟩
    | _ => cases e
end
end Ri
set_option maxHeartbeats 1000000
namespace Ri
open PySem PySem.Spec PyProof.Rows L2

abbrev Nms := List (Str × NameKind)
def visB (sc : Nms) (x : Str) : Bool := match sc.lookup x with
  | some .local => true
  | some .cell => true
  | some .free => true
  | _ => false
def locB (sc : Nms) (x : Str) : Bool := match sc.lookup x with
  | some .local => true
  | some .cell => true
  | _ => false
def cfB (sc : Nms) (x : Str) : Bool := match sc.lookup x with
  | some .cell => true
  | some .free => true
  | _ => false
def glB (sc : Nms) (x : Str) : Bool := match sc.lookup x with
  | some .globalImplicit => true
  | _ => false
def oddName (x : Str) : Bool := x == ("__debug__" : Str) || x == ("__classdict__" : Str)
/-- what a law's text has -/
structure Tab where
  rz : List Nat
  fnm : List Str
  gnm : List Str
  cnm : List Str
/-- the names that Python brings along, as used here -/
def blts : List Str := ["len", "sum", "max", "min", "abs", "all", "any", "tuple", "list", "sorted", "isinstance", "int", "bool", "str", "range", "enumerate", "zip", "set", "repr", "ValueError"]

/-- a def's promise by its run -/
def spF (K : PySem.W.Frag) (XR : XRel) (C : Ctx) (f : Nat) : Sp := fun vs H Q E => ∃ bs S m r ds, SimS K H ⟨m, r⟩ S ∧ Cls bs S ∧ RelDs K H ⟨m, r⟩ ds vs ∧ PostV K XR E bs r m H (C.fn f bs ds S) Q
structure Cok (X : Cx) (XR : XRel) (E : XK) (C : Ctx) (tb : Tab) (N : List Str) (sc : Nms) : Prop where
  calm : X.calm = true
  hN : X.N = N
  nd : X.N.Nodup
  un : X.A.units + 65 < cLine
  vis : ∀ x, visB sc x = true → Vis X.env.scope x
  gl : ∀ x, glB sc x = true → Gl X x
  loc : ∀ x, locB sc x = true → Loc X.env.scope x ∧ (X.fn x = true ∨ X.env.scope.names.lookup x = some .local)
  cf : ∀ x, cfB sc x = true → X.env.scope.names.lookup x = some .cell ∨ X.env.scope.names.lookup x = some .free
  blt : ∀ x ∈ blts, X.mg x = none
  glo : ∀ (i : Nat) (x : Str), tb.gnm[i]? = some x → ∃ (u : Value) (v : V) (d : D), X.mg x = some u ∧ RelV v u ∧ C.glo[i]? = some d ∧ ∀ H p, RelD X.K H p d v
  fns : ∀ (f : Nat) (x : Str), tb.fnm[f]? = some x → ∃ (a : Addr) (fd : FuncData) (ps : List Str) (k : Nat), X.mg x = some (.ref a) ∧ PySem.W.keepIn X.K (.ref a) = true ∧ Binds X.K fd ps [] ∧ Room k X.A ∧ FnOk X.prog X.w X.K X.mg X.base (L2.CX X.prog X.w) k a fd ps (spF X.K XR C f)
  px : Passes (L2.CX X.prog X.w) X E

section
variable {X : Cx} {XR : XRel} {E : XK} {C : Ctx} {tb : Tab} {N : List Str} {sc : Nms} {pos : Pos} {a b e : Expr} {es : List Expr} {f g : Env → M D} {fs : Env → M (List D)}
/-- a name's test -/
def isName (x : Str) (e : Expr) : Bool := match e with
  | .Name y _ => y == x
  | _ => false
theorem isName_inv {x : Str} {e : Expr} (h : isName x e = true) : ∃ p, e = .Name x p := by
  cases e with
  | Name y p => exact ⟨p, by rw [eq_of_beq (show (y == x) = true from h)]⟩
  | _ => cases h
def okVar (N : List Str) (sc : Nms) (i : Nat) (x : Str) : Bool := (match N[i]? with
  | some y => y == x
  | none => false) && visB sc x && !oddName x
theorem odd_inv {x : Str} (h : (!oddName x) = true) : (x == ("__debug__" : Str)) = false ∧ (x == ("__classdict__" : Str)) = false := by
  unfold oddName at h
  cases h1 : (x == ("__debug__" : Str)) with
  | true => rw [h1] at h; cases h
  | false =>
    cases h2 : (x == ("__classdict__" : Str)) with
    | true => rw [h1, h2] at h; cases h
    | false => exact ⟨rfl, rfl⟩
theorem at_inv {i : Nat} {x : Str} (h : (match N[i]? with
  | some y => y == x
  | none => false) = true) : N[i]? = some x := by
  cases q : N[i]? with
  | none => rw [q] at h; cases h
  | some y => rw [q] at h; rw [eq_of_beq h]
theorem ck_var (c : Cok X XR E C tb N sc) {i : Nat} {x : Str} (h : okVar N sc i x = true) : DE X XR E (.Name x pos) (ev2 C (.var i)) := by
  obtain ⟨h, h3⟩ := two_and h
  obtain ⟨h1, h2⟩ := two_and h
  obtain ⟨o1, o2⟩ := odd_inv h3
  exact de_vt (de_var (by rw [c.hN]; exact at_inv h1) (c.vis x h2) o1 o2) rfl
def cstB : D → Expr → Bool
  | .non, .Constant .none _ _ => true
  | .bl b, .Constant (.bool c) _ _ => b == c
  | .int i, .Constant (.int j) _ _ => i == (j : Int)
  | .str x, .Constant (.str y) _ _ => x == y
  | _, _ => false
theorem ck_cst {d : D} (h : cstB d e = true) : DE X XR E e (ev2 C (.cst d)) := by
  unfold cstB at h
  split at h
  · exact de_vt (de_cst pe_non fun _ _ => rfl) rfl
  · cases eq_of_beq h
    exact de_vt (de_cst pe_bl fun _ _ => rfl) rfl
  · rw [eq_of_beq h]
    exact de_vt (de_cst pe_int fun _ _ => rfl) rfl
  · rw [eq_of_beq h]
    exact de_vt (de_cst pe_str fun _ _ => rfl) rfl
  · cases h
theorem ck_glo (c : Cok X XR E C tb N sc) {i : Nat} {x : Str} (h : (match tb.gnm[i]? with
  | some y => y == x
  | none => false) = true) (h1 : glB sc x = true) (h2 : (!oddName x) = true) : DE X XR E (.Name x pos) (ev2 C (.glo i)) := by
  obtain ⟨u, v, d, hm, r, hd, rel⟩ := c.glo i x (at_inv h)
  refine de_vt ((pe_glob (c.gl x h1) hm r (odd_inv h2).1).imp fun σ H Q q => ?_) rfl
  obtain ⟨ρ, S, m, r, A, q⟩ := q
  have q : Post X.K XR E ρ.bs r m H (ofO C.glo[i]? S) (fun d m' _ H' => ∀ v, RelD X.K H' ⟨m', r⟩ d v → Q v H') := q
  rw [hd] at q
  exact Post.here q A.sto A.cl v (rel _ _)
def priN : P → Str
  | .len => "len" | .sum => "sum" | .max1 => "max" | .max2 => "max" | .min1 => "min" | .min2 => "min"
  | .abs => "abs" | .all => "all" | .any => "any" | .tuple => "tuple" | .list => "list" | .sorted => "sorted"
  | .int => "int" | .isi _ => "isinstance" | _ => "__debug__"
def priOk : P → Bool
  | .isi _ => false
  | .sortedSet => false
  | .lenSet => false
  | .str => false
  | .repr => false
  | _ => true
theorem glx (c : Cok X XR E C tb N sc) {x : Str} (h : glB sc x = true) (hb : x ∈ blts) : Gl X x ∧ X.mg x = none := ⟨c.gl x h, c.blt x hb⟩
theorem ck_pri (c : Cok X XR E C tb N sc) {p : P} {nps : Pos} (np : priOk p = true) (hg : glB sc (priN p) = true) (ha : PA X (e :: es) (tA X.K XR E fs)) (hs : ((e :: es).all noStar) = true) :
    DE X XR E (.Call (.Name (priN p) nps) (e :: es) [] pos) (vt (priF (fun S ds => prim S p ds) fs)) := by
  obtain ⟨h1, h2⟩ := two_and (show (noStar e && es.all noStar) = true from hs)
  have rule := cr_pri (X := X) c.calm c.un p
  have ok := pr_ok (K := X.K) (XR := XR) (E := E) p fun t q => by rw [q] at np; cases np
  refine de_vt (PE.imp (t := tCB (rPri X.K p) (tA X.K XR E fs)) ?_ fun σ H Q q => priF_ok ok q) rfl
  have st := noStar_ok h1 es X.env
  have bk := backNo (pos := pos) (env := X.env) h2
  cases p with
  | len => exact pe_callB rule (c.gl _ hg) (c.blt _ (by decide)) (by decide +kernel) ha (by decide) (by decide) st bk
  | sum => exact pe_callB rule (c.gl _ hg) (c.blt _ (by decide)) (by decide +kernel) ha (by decide) (by decide) st bk
  | max1 => exact pe_callB rule (c.gl _ hg) (c.blt _ (by decide)) (by decide +kernel) ha (by decide) (by decide) st bk
  | max2 => exact pe_callB rule (c.gl _ hg) (c.blt _ (by decide)) (by decide +kernel) ha (by decide) (by decide) st bk
  | min1 => exact pe_callB rule (c.gl _ hg) (c.blt _ (by decide)) (by decide +kernel) ha (by decide) (by decide) st bk
  | min2 => exact pe_callB rule (c.gl _ hg) (c.blt _ (by decide)) (by decide +kernel) ha (by decide) (by decide) st bk
  | abs => exact pe_callB rule (c.gl _ hg) (c.blt _ (by decide)) (by decide +kernel) ha (by decide) (by decide) st bk
  | all => exact pe_callB rule (c.gl _ hg) (c.blt _ (by decide)) (by decide +kernel) ha (by decide) (by decide) st bk
  | any => exact pe_callB rule (c.gl _ hg) (c.blt _ (by decide)) (by decide +kernel) ha (by decide) (by decide) st bk
  | sorted => exact pe_callB rule (c.gl _ hg) (c.blt _ (by decide)) (by decide +kernel) ha (by decide) (by decide) st bk
  | tuple => exact pe_callTy rule (c.gl _ hg) (c.blt _ (by decide)) (by decide +kernel) ha (by decide) (by decide) st bk
  | list => exact pe_callTy rule (c.gl _ hg) (c.blt _ (by decide)) (by decide +kernel) ha (by decide) (by decide) st bk
  | int => exact pe_callTy rule (c.gl _ hg) (c.blt _ (by decide)) (by decide +kernel) ha (by decide) (by decide) st bk
  | _ => cases np
end
end Ri
set_option maxHeartbeats 1000000
namespace Ri
open PySem PySem.Spec PyProof.Rows L2

def tyS : Ty → String
  | .int => "int" | .bool => "bool" | .tuple => "tuple" | .str => "str" | .list => "list"
def tyP : Ty → Str
  | .int => "int" | .bool => "bool" | .tuple => "tuple" | .str => "str" | .list => "list"
def tyOf : D → Option String
  | .non => some "NoneType" | .bl _ => some "bool" | .int _ => some "int" | .str _ => some "str" | .tup _ => some "tuple" | .lst _ => some "list"
  | _ => none
theorem isTy_kit (t : Ty) (d : D) (b : Bool) (h : isTy t d = some b) : ∃ a, tyOf d = some a ∧ kitB a (tyS t) = some b := by
  cases t <;> cases d <;> first
    | (cases h; done)
    | (cases h; exact ⟨_, rfl, by decide +kernel⟩)
theorem tyx_of {K : PySem.W.Frag} {H : Hp} {m r : List Addr} {S : Sto} {d : D} {v : V} {a : String} (s : SimS K H ⟨m, r⟩ S) (rv : RelD K H ⟨m, r⟩ d v) (h : tyOf (view S d) = some a) : TyX K H v (.type a) := by
  cases d with
  | non => cases h; cases (show v = V.non from rv); exact .base .non
  | bl b => cases h; cases (show v = V.bl _ from rv); exact .base (.bl _)
  | int b => cases h; cases (show v = V.int _ from rv); exact .base (.int _)
  | str b => cases h; cases (show v = V.str _ from rv); exact .base (.str _)
  | tup l =>
    cases h
    obtain ⟨p, xs, rfl, t, q⟩ := rv
    rcases t with ⟨t, _⟩ | ⟨o, its, n, hk, hc, _⟩
    · exact .base (.tup t)
    · exact .kTuple hk hc
  | lst l =>
    cases h
    obtain ⟨p, xs, rfl, t, _⟩ := rv
    exact .base (.lst t)
  | ref n =>
    have e : view S (.ref n) = (match stoL S n with | some l => .lst l | none => .ref n) := rfl
    rw [e] at h
    cases q : stoL S n with
    | none => rw [q] at h; cases h
    | some l =>
      rw [q] at h
      cases h
      obtain ⟨p, xs, rfl, hp, _⟩ := lstOf_inv s rv (show lstOf S (.ref n) = some l from q)
      exact .base (.lst hp)
  | scr _ => cases h
  | rng _ _ => cases h
section
variable {X : Cx} {XR : XRel} {E : XK} {C : Ctx} {tb : Tab} {N : List Str} {sc : Nms} {pos : Pos} {a b e : Expr} {es : List Expr} {f g : Env → M D} {fs : Env → M (List D)}
theorem tyP_blt (t : Ty) : tyP t ∈ blts := by cases t <;> decide
theorem tyP_boot (t : Ty) : bootBuiltins (tyP t) = some (.type (tyS t)) := by cases t <;> decide +kernel
theorem tyP_odd (t : Ty) : (tyP t == ("__debug__" : Str)) = false := by cases t <;> decide
theorem tyP_nn (t : Ty) : tyP t ≠ "__name__" := by cases t <;> decide
theorem ck_isi (c : Cok X XR E C tb N sc) {t : Ty} {p1 p2 : Pos} (hg : glB sc "isinstance" = true) (hg2 : glB sc (tyP t) = true) (ha : PE X e (tE X.K XR E f)) (hs : noStar e = true) :
    DE X XR E (.Call (.Name "isinstance" p1) [e, .Name (tyP t) p2] [] pos) (vt (priF (fun S ds => prim S (.isi t) ds) (consF f fun _ => ret []))) := by
  have hp : PA X [e, .Name (tyP t) p2] (tCons (tE X.K XR E f) (tCons (tC (.ty (tyS t))) tNil)) := pa_cons ha (pa_cons (pe_bltn (c.gl _ hg2) (c.blt _ (tyP_blt t)) (tyP_boot t) rfl (tyP_nn t) (tyP_odd t)) pa_nil rfl) (noStar_ok hs _ _)
  refine de_vt ((pe_callB call_isi (c.gl _ hg) (c.blt _ (by decide)) (by decide +kernel) hp (by decide) (by decide) (noStar_ok hs _ _) rfl).imp fun σ H Q q => ?_) rfl
  obtain ⟨ρ, S, m, r, A, q⟩ := q
  refine ⟨ρ, S, m, r, A, (Post.bind (Post.bind q)).imp fun d m1 S1 H1 g1 s1 c1 q v rv => ?_⟩
  have q : PostV X.K XR E ρ.bs r m1 H1 (ofO (prim S1 (.isi t) [d]) S1) Q := Post.here (a := [d]) (S := S1) q s1 c1
  obtain ⟨d', e, q⟩ := q.ofO
  obtain ⟨b, e1, e2⟩ := map_inv (show (isTy t (view S1 d)).map D.bl = some d' from e)
  subst e2
  obtain ⟨a, h1, h2⟩ := isTy_kit t _ b e1
  exact ⟨v, .ty (tyS t), .type a, .type (tyS t), b, rfl, .ty _, tyx_of s1 rv h1, kit_ty h2, PostV.val q s1 c1 rfl⟩

theorem spF_ok {f : Nat} {σ : St} {H : Hp} {Q : VK} (q : tE X.K XR E (fun ρ => bnd (fs ρ) fun ds => C.fn f ρ.bs ds) σ H Q) : tCall (spF X.K XR C f) [] E (tA X.K XR E fs) σ H Q := by
  obtain ⟨ρ, S, m, r, A, q⟩ := tE.args q
  refine ⟨ρ, S, m, r, A, q.imp fun ds m1 S1 H1 g1 s1 c1 q vs rvs => ?_⟩
  obtain ⟨ρ2, S2, m2, r2, ds2, A2, rv2, q⟩ := q vs rvs
  rw [List.append_nil]
  exact ⟨ρ2.bs, S2, m2, r2, ds2, A2.sto, A2.cl, rv2, q⟩
theorem ck_call (c : Cok X XR E C tb N sc) {i : Nat} {x : Str} {p1 : Pos} (h : (match tb.fnm[i]? with
  | some y => y == x
  | none => false) = true) (h1 : glB sc x = true) (h2 : (!oddName x) = true) (ha : PA X (e :: es) (tA X.K XR E fs)) (hs : ((e :: es).all noStar) = true) :
    DE X XR E (.Call (.Name x p1) (e :: es) [] pos) (vt fun ρ => bnd (fs ρ) fun ds => C.fn i ρ.bs ds) := by
  obtain ⟨s1, s2⟩ := two_and (show (noStar e && es.all noStar) = true from hs)
  obtain ⟨a, fd, ps, k, hm, hk, hb, hr, F⟩ := c.fns i x (at_inv h)
  exact de_vt ((pe_call F hr (c.gl x h1) hm hk hb .nil c.px ha (odd_inv h2).1 (noStar_ok s1 _ _) (backNo s2)).imp fun σ H Q q => spF_ok q) rfl
theorem ck_call0 (c : Cok X XR E C tb N sc) {i : Nat} {x : Str} {p1 : Pos} (h : (match tb.fnm[i]? with
  | some y => y == x
  | none => false) = true) (h1 : glB sc x = true) (h2 : (!oddName x) = true) :
    DE X XR E (.Call (.Name x p1) [] [] pos) (vt fun ρ => bnd (ret []) fun ds => C.fn i ρ.bs ds) := by
  obtain ⟨a, fd, ps, k, hm, hk, hb, hr, F⟩ := c.fns i x (at_inv h)
  refine de_vt ((pe_call0 F hr (c.gl x h1) hm hk hb .nil c.px (odd_inv h2).1).imp fun σ H Q q => ?_) rfl
  obtain ⟨ρ, S, m, r, A, q⟩ := q
  exact ⟨ρ.bs, S, m, r, [], A.sto, A.cl, rfl, q⟩

def plainIx : Expr → Bool
  | .Slice _ _ _ _ => false
  | _ => true
theorem plainIx_ok {b : Expr} (h : plainIx b = true) : PlainIx b := fun o i => by
  cases b <;> first | rfl | (cases h)
theorem ixA_at {α : Type} {l : List α} {i : Int} : ixA l i = atI l i := by
  unfold ixA atI ixN
  cases i with
  | ofNat n =>
    have h0 : (0 : Int) ≤ Int.ofNat n := Int.natCast_nonneg n
    rw [if_pos h0]
    by_cases h : n < l.length
    · have h1 : Int.ofNat n < (l.length : Int) := by simpa using h
      rw [if_pos h1] <;> rfl
    · have h1 : ¬ Int.ofNat n < (l.length : Int) := by simpa using h
      rw [if_neg h1]
      show l[n]? = none
      exact List.getElem?_eq_none (Nat.le_of_not_lt h)
  | negSucc n =>
    have h0 : ¬ (0 : Int) ≤ Int.negSucc n := by omega
    rw [if_neg h0]
    show (if Nat.ble (n + 1) l.length = true then l[l.length - (n + 1)]? else none) = _
    by_cases h : n + 1 ≤ l.length
    · rw [if_pos (Nat.ble_eq_true_of_le h), if_pos (by omega)]
      have e : (Int.negSucc n + (l.length : Int)).toNat = l.length - (n + 1) := by omega
      show _ = l[(Int.negSucc n + (l.length : Int)).toNat]?
      rw [e]
    · rw [if_neg (fun z => h (Nat.le_of_ble_eq_true z)), if_neg (by omega)] <;> rfl
theorem ixN_at {n : Nat} {i : Int} : ixNat n i = ixN n i := by
  unfold ixNat ixN
  cases i with
  | ofNat k =>
    have h0 : (0 : Int) ≤ Int.ofNat k := Int.natCast_nonneg k
    rw [if_pos h0]
    by_cases h : k < n
    · have h1 : Int.ofNat k < (n : Int) := by simpa using h
      rw [if_pos h1]
      show (if Nat.blt k n = true then some k else none) = _
      rw [if_pos (show Nat.blt k n = true from Nat.ble_eq_true_of_le h)] <;> rfl
    · have h1 : ¬ Int.ofNat k < (n : Int) := by simpa using h
      rw [if_neg h1]
      show (if Nat.blt k n = true then some k else none) = _
      rw [if_neg (fun z : Nat.blt k n = true => h (Nat.le_of_ble_eq_true (show Nat.ble (k + 1) n = true from z)))]
  | negSucc k =>
    have h0 : ¬ (0 : Int) ≤ Int.negSucc k := by omega
    rw [if_neg h0]
    show (if Nat.ble (k + 1) n = true then some (n - (k + 1)) else none) = _
    by_cases h : k + 1 ≤ n
    · rw [if_pos (Nat.ble_eq_true_of_le h), if_pos (by omega)]
      congr 1
      omega
    · rw [if_neg (fun z => h (Nat.le_of_ble_eq_true z)), if_neg (by omega)]
theorem atI_rel {K : PySem.W.Frag} {H : Hp} {p : Pl} {l : List D} {xs : List V} {i : Int} {d : D} (rl : RelDs K H p l xs) (h : ixA l i = some d) : ∃ v, atI xs i = some v ∧ RelD K H p d v := by
  rw [ixA_at] at h
  unfold atI at h ⊢
  rw [rl.length] at h
  cases q : ixN xs.length i with
  | none => rw [q] at h; cases h
  | some j =>
    rw [q] at h
    exact rl.get h
theorem idx_ok {K : PySem.W.Frag} : OpOk K XR E (fun S x y => idxD S x y) (rIx K) := by
  intro S m r H bs x y d v u Q s c rx ry e q
  have sqc : ∀ {i : Int}, u = V.int i → (match seqOf S x with
    | some l => ixA l i
    | none => none) = some d → rIx K v u H Q := fun {i} hu e => by
    cases q1 : seqOf S x with
    | none => rw [q1] at e; cases e
    | some l =>
      rw [q1] at e
      obtain ⟨a, xs, rfl, rl, sq⟩ := seq_inv s rx q1
      obtain ⟨w, h1, h2⟩ := atI_rel rl e
      rcases sq with sq | ⟨sq, _⟩
      · exact .inl ⟨a, xs, i, w, rfl, hu, sq, h1, PostV.val q s c h2⟩
      · exact .inr (.inl ⟨a, xs, i, w, rfl, hu, sq.sq, h1, PostV.val q s c h2⟩)
  cases y with
  | int i =>
    cases x with
    | str z =>
      have e : (if Nat.ble z.length LIM then (ixA z.cps.toList i).map fun c => D.str ⟨#[c]⟩ else none) = some d := e
      by_cases hz : Nat.ble z.length LIM = true
      · rw [if_pos hz] at e
        obtain ⟨ch, e1, e2⟩ := map_inv e
        subst e2
        rw [ixA_at] at e1
        exact .inr (.inr ⟨z, i, ch, rx, ry, LIM_line hz, e1, PostV.val q s c rfl⟩)
      · rw [if_neg hz] at e; cases e
    | _ => exact sqc ry e
  | _ => cases x <;> cases e
theorem ck_idx (ha : PE X a (tE X.K XR E f)) (hb : PE X b (tE X.K XR E g)) (hp : plainIx b = true) : DE X XR E (.Subscript a b pos) (vt fun ρ => bnd (f ρ) fun x => bnd (g ρ) fun y => getI x y) :=
  de_vt ((pe_ix ix_seq ha hb (plainIx_ok hp)).imp fun σ H Q q => tE.op idx_ok q) rfl

theorem clip_at (n d : Nat) (o : Option Int) : clip n d o = HT.sIx n d o := by
  cases o with
  | none => rfl
  | some v =>
    cases v with
    | ofNat k => exact (HT.sIx_nat n d k).symm
    | negSucc k =>
      show n - (k + 1) = if Int.negSucc k < 0 then (Int.negSucc k + (n : Int)).toNat else _
      rw [if_pos (Int.negSucc_lt_zero k)]
      omega
theorem cut_rel {K : PySem.W.Frag} {H : Hp} {p : Pl} {l : List D} {xs : List V} {lo hi : Option Int} (rl : RelDs K H p l xs) : RelDs K H p (cut l lo hi) (cutV xs lo hi) := by
  unfold cut cutV
  rw [clip_at, clip_at, rl.length]
  exact (rl.drop _).take _
def rSlAll (K : PySem.W.Frag) : V → Option Int → Option Int → Hp → VK → Prop := fun x lo hi H Q => rSlL K x lo hi H Q ∨ rSlA K x lo hi H Q ∨ rSlS x lo hi H Q
theorem sl_all : SlR X (rSlAll X.K) := sl_list.or (sl_tupA.or sl_str)
theorem cut_whole {l : List D} {n : Nat} {lo hi : Option Int} (hl : l.length = n) (h : HT.sIx n 0 lo = 0 ∧ HT.sIx n n hi = n) : cut l lo hi = l := by
  show (l.drop (clip l.length 0 lo)).take (clip l.length l.length hi - clip l.length 0 lo) = l
  rw [clip_at, clip_at, hl, h.1, h.2, List.drop_zero, Nat.sub_zero, ← hl, List.take_length]
theorem sli_ok {K : PySem.W.Frag} {S : Sto} {m r : List Addr} {H : Hp} {bs : List Nat} {x d : D} {lo hi : Option Int} {v : V} {Q : VK} (s : SimS K H ⟨m, r⟩ S) (c : Cls bs S) (rx : RelD K H ⟨m, r⟩ x v) (e : sliD S x lo hi = some d) (q : PostV K XR E bs r m H (.ok d S) Q) : rSlAll K v lo hi H Q := by
  have sqc : (match lstOf S x with
    | some l => some (D.lst (cut l lo hi))
    | none => none) = some d → rSlAll K v lo hi H Q := fun e => by
    cases q1 : lstOf S x with
    | none => rw [q1] at e; cases e
    | some l =>
      rw [q1] at e
      cases e
      obtain ⟨a, xs, rfl, hx, rl⟩ := lstOf_inv s rx q1
      exact .inl ⟨a, xs, rfl, SqL.of hx, PostV.lst q s c (cut_rel rl)⟩
  cases x with
  | tup l =>
    cases (show some (D.tup (cut l lo hi)) = some d from e)
    obtain ⟨a, xs, rfl, t, rl⟩ := rx
    refine .inr (.inl ⟨a, xs, rfl, t.sq, fun h => ?_, fun _ => PostV.tup q s c (cut_rel rl)⟩)
    rw [cut_whole rl.length h] at q
    exact PostV.val q s c ⟨a, xs, rfl, t, rl⟩
  | str z =>
    have e : (if Nat.ble z.length LIM then some (D.str ⟨(cut z.cps.toList lo hi).toArray⟩) else none) = some d := e
    obtain ⟨hz, e⟩ := some_if e
    subst e
    refine .inr (.inr ⟨z, rx, LIM_line hz, ?_⟩)
    have e2 : cutS z lo hi = ⟨(cut z.cps.toList lo hi).toArray⟩ := by
      unfold cutS cut
      rw [clip_at, clip_at] <;> rfl
    rw [e2]
    exact PostV.val q s c rfl
  | _ => exact sqc e
/-- a slice's end -/
def PoOk (X : Cx) (XR : XRel) (E : XK) (o : Option Expr) (f : Env → M (Option Int)) : Prop := PO X o (tO X.K XR E f)
theorem po_no : PoOk X XR E none fun _ => ret none := ⟨fun pins s σ H Q I h => po_none.run pins s σ H Q I (by
  obtain ⟨ρ, S, m, r, A, q⟩ := h
  exact Post.here q A.sto A.cl)⟩
def intF (f : Env → M D) : Env → M (Option Int) := fun ρ => bnd (f ρ) fun x => match x with
    | .int i => ret (some i)
    | _ => bad
theorem po_yes (ha : PE X a (tE X.K XR E f)) : PoOk X XR E (some a) (intF f) := ⟨fun pins s σ H Q I h => (po_some ha).run pins s σ H Q I (by
  obtain ⟨ρ, S, m, r, A, q⟩ := h
  refine ⟨ρ, S, m, r, A, (Post.bind q).imp fun d m1 S1 H1 g1 s1 c1 q v rv => ?_⟩
  cases d with
  | int i => exact ⟨i, rv, Post.here q s1 c1⟩
  | _ => exact q.elim)⟩
theorem ck_sli {lo hi : Option Expr} {fl fh : Env → M (Option Int)} {p2 : Pos} (ha : PE X a (tE X.K XR E f)) (hl : PoOk X XR E lo fl) (hh : PoOk X XR E hi fh) :
    DE X XR E (.Subscript a (.Slice lo hi none p2) pos) (vt fun ρ => bnd (f ρ) fun x => bnd (fl ρ) fun l => bnd (fh ρ) fun h => fun S => ofO (sliD S x l h) S) := by
  refine de_vt ((pe_slice sl_all ha hl hh).imp fun σ H Q q => ?_) rfl
  obtain ⟨ρ, S, m, r, A, q⟩ := q
  refine ⟨ρ, S, m, r, A, q.bind.imp fun d m1 S1 H1 g1 s1 c1 q v rv => ?_⟩
  have A1 := A.grow g1 s1 c1
  refine ⟨ρ, S1, m1, r, A1, (Post.bind q).imp fun l m2 S2 H2 g2 s2 c2 q => ?_⟩
  have A2 := A1.grow g2 s2 c2
  refine ⟨ρ, S2, m2, r, A2, (Post.bind q).imp fun h m3 S3 H3 g3 s3 c3 q => ?_⟩
  obtain ⟨z, e, q⟩ := Post.ofO q
  exact sli_ok s3 c3 (rel_grow g3 (rel_grow g2 rv)) e q

def meId : Me → String
  | .append => "list.append" | .pop => "list.pop" | .popAt => "list.pop" | _ => ""
def meN : Me → Str
  | .append => "append" | .pop => "pop" | .popAt => "pop" | _ => ""
end
end Ri
set_option maxHeartbeats 1000000
namespace Ri
open PySem PySem.Spec PyProof.Rows L2

section
open AutoSeq1 (wpAny_loadPart')
theorem enumT_meets (l : Addr) (items : Array Value) (n : Nat) (dd : Option Addr) (sl : Array (Option Value)) :
    Meets (Builtin.«enumerate.__new__» ⟨[.type "enumerate", .ref l], []⟩) (fun _ R s => s.heap.get? l = some { cls := .type "tuple", dict := dd, data := .seq items n, slots := sl } ∧
      R (.ok (.ret (.ref (s.heap.push { cls := .type "tuple_iterator", data := .fields #[.ref l, .int 0 0] }).objs.size)))
        { s with heap := (s.heap.push { cls := .type "tuple_iterator", data := .fields #[.ref l, .int 0 0] }).push { cls := .type "enumerate", data := .fields #[.none, .bool false, .ref s.heap.objs.size, rawInt 0, .none, .none] } }) :=
  .of_wp fun prog w A R s h => by
    obtain ⟨hp, g, d, tk, os⟩ := s
    obtain ⟨hl, h⟩ := h
    have hsub := sub_enumerate
    have hT : Heap.IsTuple (Shared.heap ⟨hp, g, d, tk, os⟩) l items := ⟨_, hl, rfl, n, rfl⟩
    wp_walk using wpAny_loadPart' hl
    refine wpAny_stack_any fun st => wpAny_pure ?_
    split
    · rename_i c _ _ _ _ _
      cases (c == Value.type "enumerate")
      · wp_walk using wpAny_loadPart' hl, wpAny_pyIter_tuple hT
        exact ⟨_, rfl, h⟩
      · wp_walk using wpAny_loadPart' hl, wpAny_pyIter_tuple hT
        exact ⟨_, rfl, h⟩
    · wp_walk using wpAny_loadPart' hl, wpAny_pyIter_tuple hT
      exact ⟨_, rfl, h⟩
end
section
variable {prog : Program} {w : World} {A : Around} {E : Value → Shared → Prop} {s : Shared}
theorem call_enumT {l : Addr} {items : Array Value} {Q : Value → Shared → Prop} (hL : s.heap.IsTuple l items)
    (h : ∀ h', IsEnum h' (s.heap.objs.size + 1) s.heap.objs.size 0 .none → h'.IsTupleIter s.heap.objs.size l 0 → h'.objs.size = s.heap.objs.size + 2 →
      (∀ b o, s.heap.get? b = some o → h'.get? b = some o) → Q (.ref (s.heap.objs.size + 1)) { s with heap := h' }) :
    wpAny (model prog w) A (call (.type "enumerate") [.ref l]) Q E s := by
  obtain ⟨⟨c, dd, dt, sl⟩, hl, hc, n, hd⟩ := hL
  replace hc : c = .type "tuple" := hc
  replace hd : dt = .seq items n := hd
  subst hc hd
  refine callType_new F.called_enumerate (by decide) (F.typeCall_enumerate_1 _) (F.newCall_enumerate_1 _) (fun obj => F.args_object_init_2 obj _) F.entry_enumerate_new
    (enumT_meets l items n dd sl) ⟨hl, ?_⟩
  have hz : (s.heap.push { cls := .type "tuple_iterator", data := .fields #[.ref l, .int 0 0] }).objs.size = s.heap.objs.size + 1 := Heap.size_push ..
  show _ ∧ _
  rw [hz]
  have he : IsEnum ((s.heap.push { cls := .type "tuple_iterator", data := .fields #[.ref l, .int 0 0] }).push
      { cls := .type "enumerate", data := .fields #[.none, .bool false, .ref s.heap.objs.size, rawInt 0, .none, .none] }) (s.heap.objs.size + 1) s.heap.objs.size 0 .none := by
    have := Heap.get?_push_size (s.heap.push { cls := .type "tuple_iterator", data := .fields #[.ref l, .int 0 0] })
      (o := { cls := .type "enumerate", data := .fields #[.none, .bool false, .ref s.heap.objs.size, rawInt 0, .none, .none] }) rfl
    rw [hz] at this
    exact this
  refine ⟨⟨_, he, rfl⟩, h _ he ⟨_, Heap.get?_push_of_some _ (Heap.get?_push_size _ rfl), rfl, rfl⟩ (by rw [Heap.size_push, hz]) fun b o x => Heap.get?_push_of_some _ (Heap.get?_push_of_some _ x)⟩
end
/-- the tuple at a, each item in a new pair -/
def IteT (K : PySem.W.Frag) (a : Addr) : L2.It :=
  ⟨fun i H => ∃ (xs : List V) (x : V), SqT K H a xs ∧ xs[i]? = some x, fun i H v H' => ∃ T x, v = .ref T ∧ H T = none ∧ H' = upd H T (.tup [.int (i : Nat), x]) ∧ ∀ xs, SqT K H a xs → xs[i]? = some x, fun i H => ∃ xs : List V, SqT K H a xs ∧ xs.length ≤ i⟩
theorem turn_enumT {P : Program} {w : World} {K : PySem.W.Frag} {elts : List Expr} {kk : Nat} {tpos : Pos} (a e it : Addr) :
    Turn P w K (.Tuple elts kk tpos) (IteT K a) [e, it] e (fun i h => (∃ old, IsEnum h e it ((i : Nat) : Int) old) ∧ h.IsTupleIter it a i ∧ e ≠ it) where
  mem := by simp
  obj := fun i h st b hb => by
    obtain ⟨⟨old, he⟩, ⟨o, ho, hc, hd⟩, _⟩ := st
    have e' : b = e ∨ b = it := by simpa using hb
    rcases e' with z | z
    · rw [z]; exact ⟨_, he, fun v q => nomatch q⟩
    · rw [z]; exact ⟨o, ho, fun v q => by rw [hd] at q; cases q⟩
  keep := fun i h h' st k => let ⟨⟨old, he⟩, hi, hne⟩ := st; ⟨⟨old, k e (by simp) _ he⟩, hi.at fun o q => k it (by simp) o q, hne⟩
  item := by
    intro X hP hw hK hc i pins s σ H E I hf st hg
    subst hP hw hK
    obtain ⟨⟨old, he⟩, hit, hne⟩ := st
    obtain ⟨xs, x, hq, hx⟩ := hg
    obtain ⟨its, rv, p, hz⟩ := I.tuple hq
    obtain ⟨u, hu, ru⟩ := rv.get hx
    have hel : e < s.heap.objs.size := Heap.lt_size he
    have hil : it < s.heap.objs.size := by obtain ⟨_, q, _⟩ := hit; exact Heap.lt_size q
    have hT : s.heap.IsTuple a its.toArray := p
    have hea : e ≠ a := fun z => by
      obtain ⟨o, ho, hc, _⟩ := hT
      rw [← z, he] at ho
      have ho := Option.some.inj ho
      rw [← ho] at hc
      exact absurd hc (by show Value.type "enumerate" ≠ .type "tuple"; decide)
    have hia : a ≠ it := fun z => by
      obtain ⟨o, ho, hc, _⟩ := hT
      obtain ⟨o2, ho2, hc2, _⟩ := hit
      rw [z, ho2] at ho
      have ho := Option.some.inj ho
      rw [← ho, hc2] at hc
      exact absurd hc (by show Value.type "tuple_iterator" ≠ .type "tuple"; decide)
    have D := Draws.tuple (prog := X.prog) (w := X.w) (A := X.A.in1) (I.ok.hd hc) it a hia its.toArray
    have hlt : i < its.toArray.size := by
      have := (List.getElem?_eq_some_iff.mp hu).1
      rw [List.size_toArray]; exact this
    refine wpAny_pyNext_enum_itemD D he ⟨hit, hT⟩ hlt hne (by simp [hne, hea]) fun x' h' tk hx' ho hst hTn hsz hk => ?_
    have ex : x' = u := by
      have e1 : its.toArray[i]? = some x' := hx'
      have e2 : its.toArray[i]? = some u := by rw [← Array.getElem?_toList]; exact hu
      exact Option.some.inj (e1.symm.trans e2)
    subst ex
    refine ⟨_, rfl, wpAny_letOwnedTupleGo_enum (s := { s with heap := h', toks := tk + 1 }) ho fun h'' he' sb => ?_⟩
    have hT2 : h''.get? s.heap.objs.size = some { cls := .type "tuple", data := .seq #[.int i tk, x'] } := (sb.2 _ (Nat.ne_of_gt hel)).trans hTn
    have new : ObjOk X.prog X.w (upd H s.heap.objs.size (.tup [.int (i : Nat), x])) h'' s.heap.objs.size (.tup [.int (i : Nat), x]) :=
      ⟨by show 2 ≤ sizeLine; decide, [.int i tk, x'], .cons ⟨_, rfl⟩ (.cons ru .nil), ⟨_, hT2, rfl, _, rfl⟩⟩
    have I1 : Inv X pins σ (upd H s.heap.objs.size (.tup [.int (i : Nat), x])) { s with heap := h'', toks := tk + 1 } :=
      I.turnedNew (ch := [e, it]) (fun b ob hb q => (sb.2 b (fun z => hb (by simp [z]))).trans (hk b ob (fun z => hb (by simp [z])) (fun z => hb (by simp [z])) q)) hf (Nat.le_refl _) new
    refine ⟨.ref s.heap.objs.size, _, I1, rfl, ⟨_, x, rfl, I.hok.fresh (Nat.le_refl _), rfl, fun ys hy => by rw [I.tuple_inj hy hq]; exact hx⟩, ⟨⟨x', ?_⟩, hst.1.at fun o q => (sb.2 it (Ne.symm hne)).trans q, hne⟩, fun b hb => ?_⟩
    · have e1 : ((i + 1 : Nat) : Int) = (i : Int) + 1 := by omega
      rw [e1]; exact he'
    · have hb' : b < s.heap.objs.size := by
        have e' : b = e ∨ b = it := by simpa using hb
        rcases e' with z | z
        · rw [z]; exact hel
        · rw [z]; exact hil
      rw [upd_ne (Nat.ne_of_lt hb')]
      exact (hf b hb).1
  done := by
    intro X hP hw hK hc i pins s σ H E I hf st hg
    subst hP hw hK
    obtain ⟨⟨old, he⟩, hit, hne⟩ := st
    obtain ⟨xs, hq, hx⟩ := hg
    obtain ⟨its, rv, p, hz⟩ := I.tuple hq
    obtain ⟨f0, f1, f2, f3, f4, f5⟩ := hf it (by simp)
    have hl := rv.length
    have hT : s.heap.IsTuple a its.toArray := p
    have hh := I.ok.hd hc
    have hTy : s.TypeIs (.ref e) "enumerate" := ⟨_, he, rfl⟩
    unfold pyNext
    refine wpAny_bind (wpAny_attempt (wpAny_callSpecial?_slot (name := Str.ofString "__next__") hTy F.slot_enumerate_next
      (wpAny_call_entry F.slot_enumerate_next hTy F.entry_enumerate_next ?_ (F.args_enumerate_next_1 _))))
    show wpAny _ _ (field (.ref e) 2 >>= _) _ _ _
    refine wpAny_bind (wpAny_field he rfl (x := .ref it) rfl ?_)
    refine wpAny_bind (wpAny_nextOf_tuple_end (show X.A.in1.handled = none from hh) hit hT (by simp; omega) fun h' x he' hx' => ?_)
    obtain ⟨o, ho, hc⟩ := hx'
    refine wpAny_bind (wpAny_isInstance (T := "StopIteration") (b := true) ⟨o, ho, hc⟩ isSubtype_stop ?_)
    exact wpAny_pure ⟨rfl, I.turned (t' := s.toks) (fun b o hb q => he' b o hb q) f0 f1 f3 f4 f5⟩
  self := fun A i s Q E st h => let ⟨⟨_, he⟩, _⟩ := st; wpAny_pyIter_enum he h
def iEnumT (K : PySem.W.Frag) (ta : TA) : TI := fun σ H R => ta σ H fun vs H1 => ∃ a xs, vs = [.ref a] ∧ SqT K H1 a xs ∧ R (IteT K a) H1
theorem pi_enumT {X : Cx} {e : Expr} {ta : TA} {p pos tpos : Pos} {elts : List Expr} {kk : Nat} (hg : Gl X "enumerate") (hm : X.mg "enumerate" = none) (ha : PA X [e] ta) (hs : starEach [e] X.env = [(false, eval e X.env)]) :
    PI X (.Tuple elts kk tpos) (.Call (.Name "enumerate" p) [e] [] pos) (iEnumT X.K ta) := by
  refine ⟨fun pins s σ H R I h => ?_⟩
  refine Call_ (ld_blt I hg hm boot_enumerate (PyProof.Rows.callWith_type1 (thn (ha.run pos pins s σ H _ I h) fun us s1 ⟨vs, H1, I1, r1, q1⟩ => ?_) hs rfl))
  obtain ⟨a, xs, ex, hq, q⟩ := q1
  subst ex
  cases r1 with
  | cons r rr =>
    cases rr
    cases r
    obtain ⟨its, rv, p', hz⟩ := I1.tuple hq
    refine call_enumT (show s1.heap.IsTuple a its.toArray from p') fun h' he hit hsz hk => wpAny_pyIter_enum he ?_
    have I2 : Inv X pins σ H1 { s1 with heap := h' } := I1.kept (t' := s1.toks) hk
    refine ⟨s1.heap.objs.size + 1, [s1.heap.objs.size + 1, s1.heap.objs.size], _, _, H1, rfl, I2, turn_enumT a (s1.heap.objs.size + 1) s1.heap.objs.size, ⟨⟨.none, he⟩, hit, Nat.succ_ne_self _⟩, fun b hb => ?_, q⟩
    have e' : b = s1.heap.objs.size + 1 ∨ b = s1.heap.objs.size := by simpa using hb
    have hle : s1.heap.objs.size ≤ b := by
      rcases e' with z | z
      · rw [z]; exact Nat.le_add_right _ _
      · rw [z]; exact Nat.le_refl _
    exact I1.fpOk hle (I1.hok.fresh hle)
end Ri
set_option maxHeartbeats 1000000
namespace Ri
open PySem PySem.Spec PyProof.Rows L2

/-- the heap goes on; what is reserved may be written; more places may be reserved -/
structure Gr (m r : List Addr) (H : Hp) (m' r' : List Addr) (H' : Hp) : Prop where
  keep : ∀ a o, H a = some o → a ∉ m → (a ∉ r ∨ isMut o = false) → H' a = some o
  hold : ∀ a, H a ≠ none → H' a ≠ none
  new : ∃ n, m' = m ++ n ∧ ∀ a ∈ n, H a = none
  r : ∀ a ∈ r', a ∈ r ∨ H a = none
theorem Gr.of {m r m' : List Addr} {H H' : Hp} (g : Grow m H m' H') : Gr m r H m' r H' := ⟨fun a o h n _ => g.keep a o h n, g.hold, g.new, fun _ h => .inl h⟩
theorem Gr.refl {m r : List Addr} {H : Hp} : Gr m r H m r H := Gr.of (Grow.refl m H)
theorem Gr.notin {m r m' r' : List Addr} {H H' : Hp} (g : Gr m r H m' r' H') {a : Addr} (h : H a ≠ none) (n : a ∉ m) : a ∉ m' := by
  obtain ⟨t, e, q⟩ := g.new
  rw [e, List.mem_append]
  rintro (z | z)
  · exact n z
  · exact h (q a z)
theorem Gr.get {m r m' r' : List Addr} {H H' : Hp} (g : Gr m r H m' r' H') {n : Nat} {a : Addr} (h : m[n]? = some a) : m'[n]? = some a := by
  obtain ⟨t, e, _⟩ := g.new
  rw [e, List.getElem?_append_left (List.getElem?_eq_some_iff.mp h).1]
  exact h
theorem Gr.trans {m r m1 r1 m2 r2 : List Addr} {H H1 H2 : Hp} (a : Gr m r H m1 r1 H1) (b : Gr m1 r1 H1 m2 r2 H2) : Gr m r H m2 r2 H2 := by
  obtain ⟨n1, e1, q1⟩ := a.new
  obtain ⟨n2, e2, q2⟩ := b.new
  refine ⟨fun x o h hn hr => b.keep x o (a.keep x o h hn hr) (a.notin (by rw [h]; simp) hn) ?_, fun x h => b.hold x (a.hold x h), ⟨n1 ++ n2, by rw [e2, e1, List.append_assoc], fun x hx => ?_⟩, fun x hx => ?_⟩
  · rcases hr with hr | hr
    · refine .inl fun z => ?_
      rcases a.r x z with z | z
      · exact hr z
      · rw [h] at z; cases z
    · exact .inr hr
  · rcases List.mem_append.mp hx with z | z
    · exact q1 x z
    · cases e : H x with
      | none => rfl
      | some o => exact absurd (q2 x z) (a.hold x (by rw [e]; simp))
  · rcases b.r x hx with z | z
    · exact a.r x z
    · cases e : H x with
      | none => exact .inr rfl
      | some o => exact absurd z (a.hold x (by rw [e]; simp))
theorem Gr.newR {m r : List Addr} {H : Hp} {D : Addr} {o : HO} (h : H D = none) : Gr m r H m (D :: r) (upd H D o) := by
  have g : Grow m H m (upd H D o) := Grow.new1 h
  refine ⟨fun a o h n _ => g.keep a o h n, g.hold, g.new, fun a ha => ?_⟩
  rcases List.mem_cons.mp ha with rfl | ha
  · exact .inr h
  · exact .inl ha
/-- a reserved place (or one that was not there) is written -/
theorem Gr.wr {m r m' r' : List Addr} {H H' : Hp} {D : Addr} {xs : List V} (g : Gr m r H m' r' H') (h : H D = none ∨ (D ∈ r ∧ ∃ ys, H D = some (.lst ys))) : Gr m r H m' r' (upd H' D (.lst xs)) := by
  refine ⟨fun a o ha hn hr => ?_, fun a ha => ?_, g.new, g.r⟩
  · have ne : a ≠ D := fun e => by
      subst e
      rcases h with h | ⟨h1, ys, h2⟩
      · rw [ha] at h; cases h
      · rw [ha] at h2
        cases h2
        rcases hr with hr | hr
        · exact hr h1
        · cases hr
    rw [upd_ne ne]
    exact g.keep a o ha hn hr
  · by_cases e : a = D
    · subst e; rw [upd_same]; simp
    · rw [upd_ne e]; exact g.hold a ha
theorem Grow.wr {m m' : List Addr} {H H' : Hp} {D : Addr} {o : HO} (g : Grow m H m' H') (h : H D = none) : Grow m H m' (upd H' D o) := by
  refine ⟨fun a u ha hn => ?_, fun a ha => ?_, g.new⟩
  · rw [upd_ne (ne_of_none ha h)]
    exact g.keep a u ha hn
  · by_cases e : a = D
    · subst e; exact absurd h ha
    · rw [upd_ne e]; exact g.hold a ha
section
variable {K : PySem.W.Frag} {H H' : Hp} {m r m' r' : List Addr}
mutual
theorem RelD.gr (g : Gr m r H m' r' H') : ∀ (d : D) (v : V), RelD K H ⟨m, r⟩ d v → RelD K H' ⟨m', r'⟩ d v
  | .non, _, h => h
  | .bl _, _, h => h
  | .int _, _, h => h
  | .str _, _, h => h
  | .tup l, v, h => by
    obtain ⟨a, xs, e, t, q⟩ := h
    refine ⟨a, xs, e, ?_, RelDs.gr g l xs q⟩
    rcases t with ⟨t, n⟩ | t
    · exact .inl ⟨g.keep a _ t n (.inr rfl), g.notin (by rw [t]; simp) n⟩
    · exact .inr t
  | .lst l, v, h => by
    obtain ⟨a, xs, e, t, n, nr, q⟩ := h
    refine ⟨a, xs, e, g.keep a _ t n (.inl nr), g.notin (by rw [t]; simp) n, fun z => ?_, RelDs.gr g l xs q⟩
    rcases g.r a z with z | z
    · exact nr z
    · rw [t] at z; cases z
  | .scr l, v, h => by
    obtain ⟨a, e, t⟩ := h
    refine ⟨a, e, ?_⟩
    rcases t with ⟨⟨o, t⟩, n⟩ | t
    · exact .inl ⟨⟨o, g.keep a _ t n (.inr rfl)⟩, g.notin (by rw [t]; simp) n⟩
    · exact .inr t
  | .ref n, v, h => by
    obtain ⟨a, e, t⟩ := h
    exact ⟨a, g.get e, t⟩
  | .rng lo hi, v, h => by
    obtain ⟨a, e, t, n⟩ := h
    exact ⟨a, e, g.keep a _ t n (.inr rfl), g.notin (by rw [t]; simp) n⟩
theorem RelDs.gr (g : Gr m r H m' r' H') : ∀ (ds : List D) (vs : List V), RelDs K H ⟨m, r⟩ ds vs → RelDs K H' ⟨m', r'⟩ ds vs
  | [], _, h => h
  | d :: ds, vs, h => by
    obtain ⟨v, t, e, h1, h2⟩ := h
    exact ⟨v, t, e, RelD.gr g d v h1, RelDs.gr g ds t h2⟩
end
theorem RelKV.gr (g : Gr m r H m' r' H') : ∀ (ds : List (Int × D)) (vs : List (Key × V)), RelKV K H ⟨m, r⟩ ds vs → RelKV K H' ⟨m', r'⟩ ds vs
  | [], _, h => h
  | (k, d) :: ds, vs, h => by
    obtain ⟨v, t, e, h1, h2⟩ := h
    exact ⟨v, t, e, RelD.gr g d v h1, RelKV.gr g ds t h2⟩
/-- a write to a reserved list leaves the store -/
theorem SimS.wr {S : Sto} {D : Addr} {xs ys : List V} (s : SimS K H ⟨m, r⟩ S) (hD : D ∈ r) (h : H D = some (.lst ys)) : SimS K (upd H D (.lst xs)) ⟨m, r⟩ S := by
  have g : Gr m r H m r (upd H D (.lst xs)) := Gr.refl.wr (.inr ⟨hD, ys, h⟩)
  have nm := (s.res D hD).2
  refine ⟨s.len, s.nd, fun b hb => ⟨g.hold b (s.res b hb).1, (s.res b hb).2⟩, fun n a so e1 e2 => ?_⟩
  have q := s.at_ n a so e1 e2
  have ne : a ≠ D := fun e => nm (by rw [← e]; exact List.mem_of_getElem? e1)
  cases so with
  | lst l =>
    obtain ⟨zs, z1, z2⟩ := q
    exact ⟨zs, by rw [upd_ne ne]; exact z1, RelDs.gr g l zs z2⟩
  | dic l =>
    obtain ⟨zs, z1, z2⟩ := q
    exact ⟨zs, by rw [upd_ne ne]; exact z1, RelKV.gr g l zs z2⟩
end
/-- an iterator and what it yields -/
def ItAt (K : PySem.W.Frag) (J : L2.It) (o : Option (Option D)) (i : Nat) (m r : List Addr) (H : Hp) (S : Sto) : Prop := match o with
  | some none => J.stop i H
  | some (some d) => J.go i H ∧ ∀ x H', J.yld i H x H' → Grow m H m H' ∧ SimS K H' ⟨m, r⟩ S ∧ RelD K H' ⟨m, r⟩ d x
  | none => True
def ItOk (K : PySem.W.Frag) (J : L2.It) (it : It) (m r : List Addr) (H : Hp) : Prop :=
  ∀ m' r' H', Gr m r H m' r' H' → ∀ S, SimS K H' ⟨m', r'⟩ S → ∀ i, ItAt K J (it.at S i) i m' r' H' S
theorem ItOk.gr {K : PySem.W.Frag} {J : L2.It} {it : It} {m r m1 r1 : List Addr} {H H1 : Hp} (h : ItOk K J it m r H) (g : Gr m r H m1 r1 H1) : ItOk K J it m1 r1 H1 := fun m' r' H' g' => h m' r' H' (g.trans g')

section
variable {K : PySem.W.Frag} {H : Hp} {m r : List Addr} {S : Sto}
/-- the items that stand at a, for good -/
def StA (K : PySem.W.Frag) (H : Hp) (m r : List Addr) (a : Addr) (xs : List V) : Prop := (H a = some (.lst xs) ∧ a ∉ m ∧ a ∉ r) ∨ ScrAt K H m a xs
theorem StA.gr {m' r' : List Addr} {H' : Hp} {a : Addr} {xs : List V} (g : Gr m r H m' r' H') (h : StA K H m r a xs) : SqL K H' a xs := by
  rcases h with ⟨h, n, nr⟩ | h
  · exact SqL.of (g.keep a _ h n (.inl nr))
  · rcases h with ⟨⟨o, h⟩, n⟩ | h
    · exact .inl (.inr ⟨o, g.keep a _ h n (.inr rfl)⟩)
    · exact .inr h
theorem TupAt.gr {m' r' : List Addr} {H' : Hp} {a : Addr} {xs : List V} (g : Gr m r H m' r' H') (h : TupAt K H m a xs) : SqT K H' a xs := by
  rcases h with ⟨h, n⟩ | h
  · exact .inl (.inl (g.keep a _ h n (.inr rfl)))
  · exact .inr h
theorem snap_l {l : List D} {a : Addr} {xs : List V} (h : StA K H m r a xs) (rl : RelDs K H ⟨m, r⟩ l xs) : ItOk K (Itl K a) (.snap l) m r H := fun m' r' H' g S s i => by
  have q := h.gr g
  have rl' := RelDs.gr g l xs rl
  show ItAt K (Itl K a) (some l[i]?) i m' r' H' S
  cases e : l[i]? with
  | none => exact ⟨xs, q, by rw [← rl.length]; exact List.getElem?_eq_none_iff.mp e⟩
  | some d =>
    obtain ⟨v, e1, e2⟩ := rl'.get e
    refine ⟨⟨xs, v, q, e1⟩, fun x H'' y => ?_⟩
    obtain ⟨y1, y2⟩ := y
    subst y1
    have := y2 xs q
    rw [e1] at this
    cases this
    exact ⟨Grow.refl _ _, s, e2⟩
theorem snap_t {l : List D} {a : Addr} {xs : List V} (h : TupAt K H m a xs) (rl : RelDs K H ⟨m, r⟩ l xs) : ItOk K (Itt K a) (.snap l) m r H := fun m' r' H' g S s i => by
  have q := h.gr g
  have rl' := RelDs.gr g l xs rl
  show ItAt K (Itt K a) (some l[i]?) i m' r' H' S
  cases e : l[i]? with
  | none => exact ⟨xs, q, by rw [← rl.length]; exact List.getElem?_eq_none_iff.mp e⟩
  | some d =>
    obtain ⟨v, e1, e2⟩ := rl'.get e
    refine ⟨⟨xs, v, q, e1⟩, fun x H'' y => ?_⟩
    obtain ⟨y1, y2⟩ := y
    subst y1
    have := y2 xs q
    rw [e1] at this
    cases this
    exact ⟨Grow.refl _ _, s, e2⟩
/-- the n-th of the store, as it stands -/
theorem live_inv {n : Nat} {a : Addr} {m' r' : List Addr} {H' : Hp} {i : Nat} {o : Option D} (g : Gr m r H m' r' H') (ha : m[n]? = some a) (s : SimS K H' ⟨m', r'⟩ S) (h : (Src.live n).at S i = some o) :
    ∃ xs l, SqL K H' a xs ∧ RelDs K H' ⟨m', r'⟩ l xs ∧ o = l[i]? := by
  obtain ⟨l, e1, e2⟩ := map_inv (show (stoL S n).map (fun l => l[i]?) = some o from h)
  obtain ⟨b, xs, e3, hb, rl⟩ := lstOf_inv (v := .ref a) s (show RelD K H' ⟨m', r'⟩ (.ref n) (.ref a) from ⟨a, g.get ha, rfl⟩) (show lstOf S (.ref n) = some l from e1)
  cases e3
  exact ⟨xs, l, SqL.of hb, rl, e2.symm⟩
/-- one source: the list at a -/
def SrcA (K : PySem.W.Frag) (H : Hp) (m r : List Addr) (a : Addr) : Src → Prop
  | .snap l => ∃ xs, StA K H m r a xs ∧ RelDs K H ⟨m, r⟩ l xs
  | .live n => m[n]? = some a
theorem SrcA.at {s : Src} {a : Addr} {m' r' : List Addr} {H' : Hp} {i : Nat} {o : Option D} (g : Gr m r H m' r' H') (ha : SrcA K H m r a s) (sm : SimS K H' ⟨m', r'⟩ S) (h : s.at S i = some o) :
    ∃ xs l, SqL K H' a xs ∧ RelDs K H' ⟨m', r'⟩ l xs ∧ o = l[i]? := by
  cases s with
  | snap l =>
    obtain ⟨xs, h1, h2⟩ := ha
    exact ⟨xs, l, h1.gr g, RelDs.gr g l xs h2, (Option.some.inj (show some l[i]? = some o from h)).symm⟩
  | live n => exact live_inv g ha sm h
theorem one_l {s : Src} {a : Addr} (ha : SrcA K H m r a s) : ItOk K (Itl K a) (.one s) m r H := fun m' r' H' g S sm i => by
  show ItAt K (Itl K a) (s.at S i) i m' r' H' S
  cases e : s.at S i with
  | none => exact trivial
  | some o =>
    obtain ⟨xs, l, q, rl, e1⟩ := ha.at g sm e
    subst e1
    cases e : l[i]? with
    | none => exact ⟨xs, q, by rw [← rl.length]; exact List.getElem?_eq_none_iff.mp e⟩
    | some d =>
      obtain ⟨v, e1, e2⟩ := rl.get e
      refine ⟨⟨xs, v, q, e1⟩, fun x H'' y => ?_⟩
      obtain ⟨y1, y2⟩ := y
      subst y1
      have := y2 xs q
      rw [e1] at this
      cases this
      exact ⟨Grow.refl _ _, sm, e2⟩
theorem newTup {T : Addr} {xs : List V} {l : List D} (sm : SimS K H ⟨m, r⟩ S) (hT : H T = none) (rl : RelDs K H ⟨m, r⟩ l xs) : Grow m H m (upd H T (.tup xs)) ∧ SimS K (upd H T (.tup xs)) ⟨m, r⟩ S ∧ RelD K (upd H T (.tup xs)) ⟨m, r⟩ (.tup l) (.ref T) := by
  have g : Grow m H m (upd H T (.tup xs)) := Grow.new1 hT
  exact ⟨g, sm.new1 hT, T, xs, rfl, .inl ⟨upd_same, fun z => sm.m_some z hT⟩, rels_grow g rl⟩
theorem enum_l {s : Src} {a : Addr} (ha : SrcA K H m r a s) : ItOk K (Ite K a) (.enum s) m r H := fun m' r' H' g S sm i => by
  show ItAt K (Ite K a) ((s.at S i).map fun o => o.map fun d => .tup [.int i, d]) i m' r' H' S
  cases e : s.at S i with
  | none => exact trivial
  | some o =>
    obtain ⟨xs, l, q, rl, e1⟩ := ha.at g sm e
    subst e1
    cases e : l[i]? with
    | none => exact ⟨xs, q, by rw [← rl.length]; exact List.getElem?_eq_none_iff.mp e⟩
    | some d =>
      obtain ⟨v, e1, e2⟩ := rl.get e
      refine ⟨⟨xs, v, q, e1⟩, fun x H'' y => ?_⟩
      obtain ⟨T, w, rfl, hT, rfl, y2⟩ := y
      have := y2 xs q
      rw [e1] at this
      cases this
      exact newTup sm hT (RelDs.cons (d := .int i) rfl (RelDs.one e2))
theorem enum_t {l : List D} {a : Addr} {xs : List V} (h : TupAt K H m a xs) (rl : RelDs K H ⟨m, r⟩ l xs) : ItOk K (IteT K a) (.enum (.snap l)) m r H := fun m' r' H' g S sm i => by
  have q := h.gr g
  have rl' := RelDs.gr g l xs rl
  show ItAt K (IteT K a) (some (l[i]?.map fun d => .tup [.int i, d])) i m' r' H' S
  cases e : l[i]? with
  | none => exact ⟨xs, q, by rw [← rl.length]; exact List.getElem?_eq_none_iff.mp e⟩
  | some d =>
    obtain ⟨v, e1, e2⟩ := rl'.get e
    refine ⟨⟨xs, v, q, e1⟩, fun x H'' y => ?_⟩
    obtain ⟨T, w, rfl, hT, rfl, y2⟩ := y
    have := y2 xs q
    rw [e1] at this
    cases this
    exact newTup sm hT (RelDs.cons (d := .int i) rfl (RelDs.one e2))
theorem enumL_get : ∀ (l : List D) (k i : Nat), (enumL k l)[i]? = l[i]?.map fun d => D.tup [.int ((k + i : Nat) : Int), d]
  | [], _, _ => rfl
  | d :: l, k, 0 => rfl
  | d :: l, k, i + 1 => by
    show (enumL (k + 1) l)[i]? = _
    rw [enumL_get l (k + 1) i, show k + 1 + i = k + (i + 1) from by omega] <;> rfl
theorem enum_at {l : List D} {S : Sto} {i : Nat} : (It.snap (enumL 0 l)).at S i = (It.enum (.snap l)).at S i := by
  show some (enumL 0 l)[i]? = some (l[i]?.map fun d => D.tup [.int i, d])
  rw [enumL_get l 0 i, Nat.zero_add]
theorem zipL_get : ∀ (l k : List D) (i : Nat), (zipL l k)[i]? = (match l[i]? with
    | some d => (match k[i]? with
      | some e => some (D.tup [d, e])
      | none => none)
    | none => none)
  | [], _, _ => rfl
  | d :: l, [], 0 => rfl
  | d :: l, [], i + 1 => by
    show ([] : List D)[i + 1]? = _
    cases l[i]? <;> simp [List.getElem?_cons_succ] <;> (split <;> rfl)
  | d :: l, e :: k, 0 => rfl
  | d :: l, e :: k, i + 1 => zipL_get l k i
theorem zip_at {l k : List D} {S : Sto} {i : Nat} : (It.snap (zipL l k)).at S i = (It.zip (.snap l) (.snap k)).at S i := by
  show some (zipL l k)[i]? = (match some l[i]?, some k[i]? with
    | some (some d), some (some e) => some (some (D.tup [d, e]))
    | some _, some _ => some none
    | _, _ => none)
  rw [zipL_get]
  cases l[i]? with
  | none => cases k[i]? <;> rfl
  | some d => cases k[i]? <;> rfl
theorem ItOk.same {J : L2.It} {it it' : It} (h : ItOk K J it m r H) (e : ∀ S i, it'.at S i = it.at S i) : ItOk K J it' m r H := fun m' r' H' g S sm i => by
  rw [e]; exact h m' r' H' g S sm i
/-- two lists' turn, or two tuples' -/
theorem zip_core {J : L2.It} {P P' : List V → Prop} {xs ys : List V} {l k : List D} {i : Nat} (sm : SimS K H ⟨m, r⟩ S) (rx : RelDs K H ⟨m, r⟩ l xs) (ry : RelDs K H ⟨m, r⟩ k ys)
    (st : xs.length ≤ i ∨ ys.length ≤ i → J.stop i H) (go : ∀ v u, xs[i]? = some v → ys[i]? = some u → J.go i H) (yl : ∀ v u x H', xs[i]? = some v → ys[i]? = some u → J.yld i H x H' → ∃ T, x = .ref T ∧ H T = none ∧ H' = upd H T (.tup [v, u])) :
    ItAt K J (match some l[i]?, some k[i]? with
    | some (some d), some (some e) => some (some (D.tup [d, e]))
    | some _, some _ => some none
    | _, _ => none) i m r H S := by
  cases e : l[i]? with
  | none =>
    have h1 : J.stop i H := st (.inl (by rw [← rx.length]; exact List.getElem?_eq_none_iff.mp e))
    cases k[i]? <;> exact h1
  | some d =>
    cases e' : k[i]? with
    | none => exact st (.inr (by rw [← ry.length]; exact List.getElem?_eq_none_iff.mp e'))
    | some d' =>
      obtain ⟨v, e1, e2⟩ := rx.get e
      obtain ⟨u, e3, e4⟩ := ry.get e'
      refine ⟨go v u e1 e3, fun x H'' y => ?_⟩
      obtain ⟨T, rfl, hT, rfl⟩ := yl v u x H'' e1 e3 y
      exact newTup sm hT (RelDs.cons e2 (RelDs.one e4))
theorem zip_l {s t : Src} {a b : Addr} (ha : SrcA K H m r a s) (hb : SrcA K H m r b t) : ItOk K (Itz K a b) (.zip s t) m r H := fun m' r' H' g S sm i => by
  show ItAt K (Itz K a b) (match s.at S i, t.at S i with
    | some (some d), some (some e) => some (some (D.tup [d, e]))
    | some _, some _ => some none
    | _, _ => none) i m' r' H' S
  cases e : s.at S i with
  | none => cases t.at S i <;> exact trivial
  | some o =>
    cases e' : t.at S i with
    | none => cases o <;> exact trivial
    | some o' =>
      obtain ⟨xs, l, q, rl, e1⟩ := ha.at g sm e
      obtain ⟨ys, k, q', rl', e1'⟩ := hb.at g sm e'
      subst e1 e1'
      refine zip_core (P := fun _ => True) (P' := fun _ => True) sm rl rl' (fun h => ⟨xs, ys, q, q', h⟩) (fun v u h1 h2 => ⟨xs, ys, v, u, q, q', h1, h2⟩) fun v u x H'' h1 h2 y => ?_
      obtain ⟨T, v', u', rfl, hT, rfl, y1, y2⟩ := y
      have z1 := y1 xs q
      have z2 := y2 ys q'
      rw [h1] at z1
      rw [h2] at z2
      cases z1
      cases z2
      exact ⟨T, rfl, hT, rfl⟩
theorem zip_t {l k : List D} {a b : Addr} {xs ys : List V} (h : TupAt K H m a xs) (rl : RelDs K H ⟨m, r⟩ l xs) (h' : TupAt K H m b ys) (rl' : RelDs K H ⟨m, r⟩ k ys) : ItOk K (RZ.ItzT K a b) (.zip (.snap l) (.snap k)) m r H := fun m' r' H' g S sm i => by
  have q := h.gr g
  have q' := h'.gr g
  refine zip_core (P := fun _ => True) (P' := fun _ => True) sm (RelDs.gr g l xs rl) (RelDs.gr g k ys rl') (fun h => ⟨xs, ys, q, q', h⟩) (fun v u h1 h2 => ⟨xs, ys, v, u, q, q', h1, h2⟩) fun v u x H'' h1 h2 y => ?_
  obtain ⟨T, v', u', rfl, hT, rfl, y1, y2⟩ := y
  have z1 := y1 xs q
  have z2 := y2 ys q'
  rw [h1] at z1
  rw [h2] at z2
  cases z1
  cases z2
  exact ⟨T, rfl, hT, rfl⟩
theorem rngL_get : ∀ (n : Nat) (lo : Int) (i : Nat), (rngL lo n)[i]? = if i < n then some (D.int (lo + i)) else none
  | 0, _, _ => by simp [rngL]
  | n + 1, lo, 0 => by simp [rngL]
  | n + 1, lo, i + 1 => by
    show (rngL (lo + 1) n)[i]? = _
    rw [rngL_get n (lo + 1) i]
    by_cases h : i < n
    · rw [if_pos h, if_pos (by omega), show lo + 1 + (i : Int) = lo + ((i + 1 : Nat) : Int) from by omega]
    · rw [if_neg h, if_neg (by omega)]
theorem rngC_get (k : Int) : ∀ (n : Nat) (lo : Int) (i : Nat), (rngC lo k n)[i]? = if i < n then some (D.int (lo + i * k)) else none
  | 0, _, _ => by simp [rngC]
  | n + 1, lo, 0 => by simp [rngC]
  | n + 1, lo, i + 1 => by
    show (rngC (lo + k) k n)[i]? = _
    rw [rngC_get k n (lo + k) i]
    by_cases h : i < n
    · rw [if_pos h, if_pos (by omega)]
      have e : lo + k + (i : Int) * k = lo + ((i + 1 : Nat) : Int) * k := by
        rw [Int.natCast_add, Int.add_mul]; omega
      rw [e]
    · rw [if_neg h, if_neg (by omega)]
theorem snap_r (lo : Int) (n : Nat) : ItOk K (Itr lo n) (.snap (rngL lo n)) m r H := fun m' r' H' g S sm i => by
  show ItAt K (Itr lo n) (some (rngL lo n)[i]?) i m' r' H' S
  rw [rngL_get]
  by_cases h : i < n
  · rw [if_pos h]
    refine ⟨h, fun x H'' y => ?_⟩
    obtain ⟨y1, y2⟩ := y
    subst y1 y2
    exact ⟨Grow.refl _ _, sm, rfl⟩
  · rw [if_neg h]
    exact Nat.le_of_not_lt h
theorem snap_rc (lo k : Int) (n : Nat) : ItOk K (Itc lo k n) (.snap (rngC lo k n)) m r H := fun m' r' H' g S sm i => by
  show ItAt K (Itc lo k n) (some (rngC lo k n)[i]?) i m' r' H' S
  rw [rngC_get]
  by_cases h : i < n
  · rw [if_pos h]
    refine ⟨h, fun x H'' y => ?_⟩
    obtain ⟨y1, y2⟩ := y
    subst y1 y2
    exact ⟨Grow.refl _ _, sm, rfl⟩
  · rw [if_neg h]
    exact Nat.le_of_not_lt h
end
end Ri
set_option maxHeartbeats 1000000
namespace Ri
open PySem PySem.Spec PyProof.Rows L2

theorem _root_.L2.PI.imp {X : Cx} {tg e : Expr} {t t' : TI} (h : PI X tg e t) (f : ∀ σ H R, t' σ H R → t σ H R) : PI X tg e t' := ⟨fun pins s σ H R I q => h.run pins s σ H R I (f σ H R q)⟩
theorem _root_.L2.PI.orI {X : Cx} {tg e : Expr} {t t' : TI} (h : PI X tg e t) (h' : PI X tg e t') : PI X tg e (fun σ H R => t σ H R ∨ t' σ H R) := ⟨fun pins s σ H R I q => q.elim (h.run pins s σ H R I) (h'.run pins s σ H R I)⟩
def tI (K : PySem.W.Frag) (XR : XRel) (E : XK) (f : Env → M It) : TI := fun σ H R => ∃ ρ S m r, At K ρ S m r σ H ∧ Post K XR E ρ.bs r m H (f ρ S) fun it m1 _ H1 => ∀ J, ItOk K J it m1 r H1 → R J H1
section
variable {X : Cx} {XR : XRel} {E : XK} {C : Ctx} {tb : Tab} {N : List Str} {sc : Nms} {pos : Pos} {a b e tg : Expr} {es : List Expr} {f g : Env → M D} {fs : Env → M (List D)} {K : PySem.W.Frag}
/-- what a source is -/
theorem src_inv {S : Sto} {m r : List Addr} {H : Hp} {d : D} {v : V} {s : Src} (sm : SimS K H ⟨m, r⟩ S) (rv : RelD K H ⟨m, r⟩ d v) (e : srcOf S d = some s) :
    ∃ a, v = .ref a ∧ (∃ xs, SqL K H a xs ∨ SqT K H a xs) ∧ ((isTup d = false ∧ SrcA K H m r a s ∧ ∃ xs, SqL K H a xs) ∨ (isTup d = true ∧ ∃ l xs, s = .snap l ∧ TupAt K H m a xs ∧ RelDs K H ⟨m, r⟩ l xs)) := by
  cases d with
  | lst l =>
    have e := Option.some.inj (show some (Src.snap l) = some s from e)
    subst e
    obtain ⟨a, xs, rfl, h, n, nr, q⟩ := rv
    exact ⟨a, rfl, ⟨xs, .inl (SqL.of h)⟩, .inl ⟨rfl, ⟨xs, .inl ⟨h, n, nr⟩, q⟩, xs, SqL.of h⟩⟩
  | tup l =>
    have e := Option.some.inj (show some (Src.snap l) = some s from e)
    subst e
    obtain ⟨a, xs, rfl, t, q⟩ := rv
    exact ⟨a, rfl, ⟨xs, .inr t.sq⟩, .inr ⟨rfl, l, xs, rfl, t, q⟩⟩
  | scr l =>
    have e := Option.some.inj (show some (Src.snap (l.map D.int)) = some s from e)
    subst e
    obtain ⟨a, rfl, h⟩ := rv
    have rl : ∀ l : List Int, RelDs K H ⟨m, r⟩ (l.map D.int) (l.map V.int) := fun l => by
      induction l with
      | nil => exact rfl
      | cons i l ih => exact ⟨.int i, _, rfl, rfl, ih⟩
    exact ⟨a, rfl, ⟨_, .inl h.sq⟩, .inl ⟨rfl, ⟨_, .inr h, rl l⟩, _, h.sq⟩⟩
  | ref n =>
    have e' : (match stoL S n with
      | some _ => some (Src.live n)
      | none => none) = some s := e
    cases q : stoL S n with
    | none => rw [q] at e'; cases e'
    | some l =>
      rw [q] at e'
      have e' := Option.some.inj e'
      subst e'
      obtain ⟨a, xs, e1, ha, _⟩ := lstOf_inv sm rv (show lstOf S (.ref n) = some l from q)
      obtain ⟨a', h1, h2⟩ := rv
      subst h2
      cases e1
      exact ⟨_, rfl, ⟨xs, .inl (SqL.of ha)⟩, .inl ⟨rfl, h1, xs, SqL.of ha⟩⟩
  | _ => cases e
def seqF (f : Env → M D) : Env → M It := fun ρ => bnd (f ρ) fun x => fun S => (match srcOf S x with
    | some (.snap l) => .ok (.snap l) S
    | some s => .ok (.one s) S
    | none => .bad)
theorem di_seq (ha : PE X a (tE X.K XR E f)) : PI X tg a (tI X.K XR E (seqF f)) := ((pi_list ha).orI (pi_tup ha)).imp fun σ H R h => by
  obtain ⟨ρ, S, m, r, A, h⟩ := h
  have h := Post.bind h
  -- one run, two readings: by what comes out
  by_cases q : ∃ S1 d, f ρ S = .ok d S1 ∧ isTup d = true
  · obtain ⟨S1, d, q1, q2⟩ := q
    refine .inr ⟨ρ, S, m, r, A, ?_⟩
    rw [q1] at h ⊢
    intro m1 H1 g s c v rv
    have h := h m1 H1 g s c
    dsimp only at h
    cases e : srcOf S1 d with
    | none => rw [e] at h; exact h.elim
    | some sr =>
      rw [e] at h
      obtain ⟨a, rfl, _, z⟩ := src_inv s rv e
      rcases z with ⟨z, _⟩ | ⟨_, l, xs, rfl, t, rl⟩
      · rw [q2] at z; cases z
      · exact ⟨a, rfl, ⟨xs, t.sq⟩, Post.here (S := S1) h s c _ (snap_t t rl)⟩
  · refine .inl ⟨ρ, S, m, r, A, ?_⟩
    cases q1 : f ρ S with
    | ex c d S1 => rw [q1] at h; exact h
    | bad => rw [q1] at h; exact h
    | ok d S1 =>
      rw [q1] at h
      intro m1 H1 g s c v rv
      have h := h m1 H1 g s c
      dsimp only at h
      cases e : srcOf S1 d with
      | none => rw [e] at h; exact h.elim
      | some sr =>
        rw [e] at h
        obtain ⟨a, rfl, _, z⟩ := src_inv s rv e
        rcases z with ⟨z, sa, sq⟩ | ⟨z, _⟩
        · cases sr with
          | snap l =>
            obtain ⟨xs, h1, h2⟩ := sa
            exact ⟨a, rfl, sq, Post.here (S := S1) h s c _ (snap_l h1 h2)⟩
          | live n => exact ⟨a, rfl, sq, Post.here (S := S1) h s c _ (one_l sa)⟩
        · exact absurd ⟨S1, d, q1, z⟩ q
def enumF (f : Env → M D) : Env → M It := fun ρ => bnd (f ρ) fun x => fun S => (match srcOf S x with
    | some (.snap l) => .ok (.snap (enumL 0 l)) S
    | some s => .ok (.enum s) S
    | none => .bad)
theorem one_arg (ha : PE X a (tE X.K XR E f)) (hs : noStar a = true) : PA X [a] (tCons (tE X.K XR E f) tNil) := pa_cons ha pa_nil (noStar_ok hs _ _)
theorem di_enum (c : Cok X XR E C tb N sc) {elts : List Expr} {kk : Nat} {tp p1 : Pos} (hg : glB sc "enumerate" = true) (ha : PE X a (tE X.K XR E f)) (hs : noStar a = true) :
    PI X (.Tuple elts kk tp) (.Call (.Name "enumerate" p1) [a] [] pos) (tI X.K XR E (enumF f)) :=
  ((pi_enum (c.gl _ hg) (c.blt _ (by decide)) (one_arg ha hs) (noStar_ok hs _ _)).orI (pi_enumT (c.gl _ hg) (c.blt _ (by decide)) (one_arg ha hs) (noStar_ok hs _ _))).imp fun σ H R h => by
  obtain ⟨ρ, S, m, r, A, h⟩ := h
  have h := Post.bind h
  by_cases q : ∃ S1 d, f ρ S = .ok d S1 ∧ isTup d = true
  · obtain ⟨S1, d, q1, q2⟩ := q
    refine .inr ⟨ρ, S, m, r, A, ?_⟩
    rw [q1] at h ⊢
    intro m1 H1 g s c v rv
    have h := h m1 H1 g s c
    dsimp only at h
    cases e : srcOf S1 d with
    | none => rw [e] at h; exact h.elim
    | some sr =>
      rw [e] at h
      obtain ⟨a, rfl, _, z⟩ := src_inv s rv e
      rcases z with ⟨z, _⟩ | ⟨_, l, xs, rfl, t, rl⟩
      · rw [q2] at z; cases z
      · exact ⟨a, xs, rfl, t.sq, Post.here (S := S1) h s c _ ((enum_t t rl).same fun S i => enum_at)⟩
  · refine .inl ⟨ρ, S, m, r, A, ?_⟩
    cases q1 : f ρ S with
    | ex c d S1 => rw [q1] at h; exact h
    | bad => rw [q1] at h; exact h
    | ok d S1 =>
      rw [q1] at h
      intro m1 H1 g s c v rv
      have h := h m1 H1 g s c
      dsimp only at h
      cases e : srcOf S1 d with
      | none => rw [e] at h; exact h.elim
      | some sr =>
        rw [e] at h
        obtain ⟨a, rfl, _, z⟩ := src_inv s rv e
        rcases z with ⟨z, sa, xs, sq⟩ | ⟨z, _⟩
        · cases sr with
          | snap l => exact ⟨a, xs, rfl, sq, Post.here (S := S1) h s c _ ((enum_l sa).same fun S i => enum_at)⟩
          | live n => exact ⟨a, xs, rfl, sq, Post.here (S := S1) h s c _ (enum_l sa)⟩
        · exact absurd ⟨S1, d, q1, z⟩ q
def zipF (f g : Env → M D) : Env → M It := fun ρ => bnd (f ρ) fun x => bnd (g ρ) fun y => fun S => (match isTup x == isTup y with
    | true => (match srcOf S x, srcOf S y with
      | some (.snap l), some (.snap r) => .ok (.snap (zipL l r)) S
      | some s, some t => .ok (.zip s t) S
      | _, _ => .bad)
    | false => .bad)
theorem SrcA.gr {s : Src} {a : Addr} {m r m' r' : List Addr} {H H' : Hp} (g : Gr m r H m' r' H') (h : SrcA K H m r a s) : SrcA K H' m' r' a s := by
  cases s with
  | snap l =>
    obtain ⟨xs, h1, h2⟩ := h
    refine ⟨xs, ?_, RelDs.gr g l xs h2⟩
    rcases h1 with ⟨h1, n, nr⟩ | h1
    · refine .inl ⟨g.keep a _ h1 n (.inl nr), g.notin (by rw [h1]; simp) n, fun z => ?_⟩
      rcases g.r a z with z | z
      · exact nr z
      · rw [h1] at z; cases z
    · refine .inr ?_
      rcases h1 with ⟨⟨o, h1⟩, n⟩ | h1
      · exact .inl ⟨⟨o, g.keep a _ h1 n (.inr rfl)⟩, g.notin (by rw [h1]; simp) n⟩
      · exact .inr h1
  | live n => exact g.get h
theorem di_zip (c : Cok X XR E C tb N sc) {elts : List Expr} {kk : Nat} {tp p1 : Pos} (hg : glB sc "zip" = true) (ha : PE X a (tE X.K XR E f)) (hb : PE X b (tE X.K XR E g)) (hs : noStar a = true) (hs' : noStar b = true) :
    PI X (.Tuple elts kk tp) (.Call (.Name "zip" p1) [a, b] [] pos) (tI X.K XR E (zipF f g)) :=
  (RZ.pi_zipA (c.gl _ hg) (c.blt _ (by decide)) (pa_cons ha (one_arg hb hs') (noStar_ok hs _ _)) (noStar_ok hs _ _) (backNo (by rw [List.all_cons, hs'] <;> rfl))).imp fun σ H R h => by
  obtain ⟨ρ, S, m, r, A, h⟩ := h
  refine ⟨ρ, S, m, r, A, (Post.bind h).imp fun x m1 S1 H1 g1 s1 c1 q v rv => ?_⟩
  refine ⟨ρ, S1, m1, r, A.grow g1 s1 c1, (Post.bind q).imp fun y m2 S2 H2 g2 s2 c2 q u ru => ?_⟩
  have rv2 := rel_grow g2 rv
  cases t1 : (isTup x == isTup y) with
  | false => rw [t1] at q; exact q.elim
  | true =>
    rw [t1] at q
    have t1 := eq_of_beq t1
    cases e : srcOf S2 x with
    | none => rw [e] at q; exact q.elim
    | some sx =>
      cases e' : srcOf S2 y with
      | none => rw [e, e'] at q; cases sx <;> exact q.elim
      | some sy =>
        rw [e, e'] at q
        obtain ⟨a, rfl, _, z⟩ := src_inv s2 rv2 e
        obtain ⟨b, rfl, _, z'⟩ := src_inv s2 ru e'
        rcases z with ⟨z, sa, xs, sq⟩ | ⟨z, l, xs, rfl, t, rl⟩
        · rcases z' with ⟨z', sb, ys, sq'⟩ | ⟨z', _⟩
          · refine ⟨a, b, xs, ys, rfl, .inl ⟨sq, sq', ?_⟩⟩
            cases sx with
            | snap l =>
              cases sy with
              | snap k => exact Post.here (S := S2) q s2 c2 _ ((zip_l sa sb).same fun S i => zip_at)
              | live k => exact Post.here (S := S2) q s2 c2 _ (zip_l sa sb)
            | live l => cases sy <;> exact Post.here (S := S2) q s2 c2 _ (zip_l sa sb)
          · rw [z, z'] at t1; cases t1
        · rcases z' with ⟨z', _⟩ | ⟨z', k, ys, rfl, t', rl'⟩
          · rw [z, z'] at t1; cases t1
          · exact ⟨a, b, xs, ys, rfl, .inr ⟨t.sq, t'.sq, Post.here (S := S2) q s2 c2 _ ((zip_t t rl t' rl').same fun S i => zip_at)⟩⟩
theorem okR_lt {i : Int} (h : okR i = true) : -(2 ^ 62) ≤ i ∧ i < 2 ^ 62 := by
  have h1 : i.natAbs ≤ 1000000000 := Nat.le_of_ble_eq_true h
  have e : (2 : Int) ^ 62 = 4611686018427387904 := by decide
  rw [e]
  omega
def rg1F (f : Env → M D) : Env → M It := fun ρ => bnd (f ρ) fun x => match x with
    | .int i => if okR i then ret (.snap (rngL 0 i.toNat)) else bad
    | _ => bad
theorem okIf {bs : List Nat} {r m : List Addr} {H : Hp} {α : Type} {b : Bool} {x : M α} {S : Sto} {okk : α → List Addr → Sto → Hp → Prop} (h : Post K XR E bs r m H ((if b = true then x else bad) S) okk) : b = true ∧ Post K XR E bs r m H (x S) okk := by
  cases b with
  | true => exact ⟨rfl, h⟩
  | false => exact h.elim
theorem di_rg1 (c : Cok X XR E C tb N sc) {p1 : Pos} (hg : glB sc "range" = true) (ha : PE X a (tE X.K XR E f)) (hs : noStar a = true) : PI X tg (.Call (.Name "range" p1) [a] [] pos) (tI X.K XR E (rg1F f)) :=
  (pi_range1 (c.gl _ hg) (c.blt _ (by decide)) (one_arg ha hs) (noStar_ok hs _ _)).imp fun σ H R h => by
  obtain ⟨ρ, S, m, r, A, h⟩ := h
  refine ⟨ρ, S, m, r, A, (Post.bind h).imp fun x m1 S1 H1 g1 s1 c1 q v rv => ?_⟩
  cases x with
  | int i =>
    obtain ⟨h1, q⟩ := okIf q
    obtain ⟨h2, h3⟩ := okR_lt h1
    exact ⟨i, by rw [show v = V.int i from rv], h2, h3, Post.here (S := S1) q s1 c1 _ (snap_r 0 _)⟩
  | _ => exact q.elim
def rg2F (f g : Env → M D) : Env → M It := fun ρ => bnd (f ρ) fun x => bnd (g ρ) fun y => match x, y with
    | .int i, .int j => if okR i && okR j then ret (.snap (rngL i (j - i).toNat)) else bad
    | _, _ => bad
theorem di_rg2 (c : Cok X XR E C tb N sc) {p1 : Pos} (hg : glB sc "range" = true) (ha : PE X a (tE X.K XR E f)) (hb : PE X b (tE X.K XR E g)) (hs : noStar a = true) (hs' : noStar b = true) : PI X tg (.Call (.Name "range" p1) [a, b] [] pos) (tI X.K XR E (rg2F f g)) :=
  (pi_range2 (c.gl _ hg) (c.blt _ (by decide)) (pa_cons ha (one_arg hb hs') (noStar_ok hs _ _)) (by rw [noStar_ok hs, noStar_ok hs'] <;> rfl) (noStar_ok hs' _ _)).imp fun σ H R h => by
  obtain ⟨ρ, S, m, r, A, h⟩ := h
  refine ⟨ρ, S, m, r, A, (Post.bind h).imp fun x m1 S1 H1 g1 s1 c1 q v rv => ?_⟩
  refine ⟨ρ, S1, m1, r, A.grow g1 s1 c1, (Post.bind q).imp fun y m2 S2 H2 g2 s2 c2 q u ru => ?_⟩
  have rv2 := rel_grow g2 rv
  cases x with
  | int i =>
    cases y with
    | int j =>
      obtain ⟨h1, q⟩ := okIf q
      obtain ⟨h1, h1'⟩ := two_and h1
      obtain ⟨h2, h3⟩ := okR_lt h1
      obtain ⟨h4, h5⟩ := okR_lt h1'
      exact ⟨i, j, by rw [show v = V.int i from rv2, show u = V.int j from ru], ⟨h2, h3, h4, h5⟩, Post.here (S := S2) q s2 c2 _ (snap_r _ _)⟩
    | _ => exact q.elim
  | _ => exact q.elim
def rg3F (f g : Env → M D) (k : Int) : Env → M It := fun ρ => bnd (f ρ) fun x => bnd (g ρ) fun y => match x, y with
    | .int i, .int j => if okR i && okR j && (k == -1) then ret (.snap (rngC i (-1) (i - j).toNat)) else bad
    | _, _ => bad
/-- the step -1 -/
def isM1 : Expr → Bool
  | .UnaryOp .USub (.Constant (.int 1) _ _) _ => true
  | _ => false
theorem m1_ok {X : Cx} {e : Expr} (h : isM1 e = true) : PE X e (tUn (rU fun i => .int (-i)) (tC (.int 1))) := by
  unfold isM1 at h
  split at h
  · exact pe_un un_neg pe_int
  · cases h
theorem di_rg3 (c : Cok X XR E C tb N sc) {p1 : Pos} {st : Expr} (hg : glB sc "range" = true) (ha : PE X a (tE X.K XR E f)) (hb : PE X b (tE X.K XR E g)) (hs : noStar a = true) (hs' : noStar b = true) (hst : isM1 st = true) (k : Int) :
    PI X tg (.Call (.Name "range" p1) [a, b, st] [] pos) (tI X.K XR E (rg3F f g k)) := by
  have ns : noStar st = true := by
    unfold isM1 at hst
    split at hst
    · rfl
    · cases hst
  refine (pi_range3 (c.gl _ hg) (c.blt _ (by decide)) (pa_cons ha (pa_cons hb (pa_cons (m1_ok hst) pa_nil (noStar_ok ns _ _)) (noStar_ok hs' _ _)) (noStar_ok hs _ _)) (noStar_ok hs _ _) (backNo (by rw [List.all_cons, hs', List.all_cons, ns] <;> rfl))).imp fun σ H R h => ?_
  obtain ⟨ρ, S, m, r, A, h⟩ := h
  refine ⟨ρ, S, m, r, A, (Post.bind h).imp fun x m1 S1 H1 g1 s1 c1 q v rv => ?_⟩
  refine ⟨ρ, S1, m1, r, A.grow g1 s1 c1, (Post.bind q).imp fun y m2 S2 H2 g2 s2 c2 q u ru => ?_⟩
  have rv2 := rel_grow g2 rv
  cases x with
  | int i =>
    cases y with
    | int j =>
      obtain ⟨h1, q⟩ := okIf q
      obtain ⟨h1, hk⟩ := two_and h1
      obtain ⟨h1, h1'⟩ := two_and h1
      obtain ⟨h2, h3⟩ := okR_lt h1
      obtain ⟨h4, h5⟩ := okR_lt h1'
      exact ⟨1, rfl, i, j, -1, (i - j).toNat, by rw [show v = V.int i from rv2, show u = V.int j from ru], RgC.neg h2 h3 h4 h5, Post.here (S := S2) q s2 c2 _ (snap_rc _ _ _)⟩
    | _ => exact q.elim
  | _ => exact q.elim
end
end Ri
set_option maxHeartbeats 2000000
namespace Ri
open PySem PySem.Spec PyProof.Rows L2
theorem cr_rangeV {X : Cx} : CallR X (.type "range") (fun vs H Q => ∃ j : Int, vs = [V.int j] ∧ ∀ p, H p = none → Q (.ref p) (upd H p (.rng 0 j))) := by
  intro pins s σ H vs us Q I r h
  obtain ⟨j, rfl, q⟩ := h
  cases r with
  | cons rx rr =>
    cases rr
    obtain ⟨t, rfl⟩ := rx
    refine call_range_1 ⟨.ref s.heap.objs.size, upd H s.heap.objs.size (.rng 0 j), I.laid (t' := s.toks + 1 + 1) (fun b o e => Heap.get?_push_of_some _ e) (Nat.le_refl _) ?_, rfl, q _ (I.hok.fresh (Nat.le_refl _))⟩
    exact ⟨s.toks, t, s.toks + 1, Heap.get?_push_size _ rfl⟩
section
variable {X : Cx} {tg : Expr}
def iRngV (tl : TE) : TI := fun σ H R => tl σ H fun x H1 => ∃ a lo hi, x = .ref a ∧ H1 a = some (.rng lo hi) ∧ (-(2 ^ 62) ≤ lo ∧ lo < 2 ^ 62 ∧ -(2 ^ 62) ≤ hi ∧ hi < 2 ^ 62) ∧ R (Itr lo (hi - lo).toNat) H1
theorem pi_rngV {l : Expr} {tl : TE} (hl : PE X l tl) : PI X tg l (iRngV tl) := by
  refine ⟨fun pins s σ H R I h => ?_⟩
  refine thn (hl.run pins s σ H _ I h) fun v s1 ⟨x, H1, I1, r1, q1⟩ => ?_
  obtain ⟨a, lo, hi, e, ha, ⟨b1, b2, b3, b4⟩, q⟩ := q1
  subst e
  cases r1
  obtain ⟨t, u, w, ho⟩ := I1.hok a _ ha
  have hR : IsRange s1.heap a lo hi 1 t u w := ho
  refine wpAny_pyIter_range hR (small_one b1 b2 b3 b4) ?_
  refine ⟨s1.heap.objs.size, [s1.heap.objs.size], _, _, H1, rfl, I1.kept (t' := s1.toks) fun b o e => Heap.get?_push_of_some _ e, turn_range _ lo (hi - lo).toNat, ?_, fun b hb => ?_, q⟩
  · have e1 : lo + ((0 : Nat) : Int) * 1 = lo := by simp
    have e2 : (((hi - lo).toNat : Nat) : Int) - ((0 : Nat) : Int) = Builtin.Range.rangeSize lo hi 1 := by rw [rangeSize_one]; split <;> omega
    show IsRangeIter _ _ (lo + ((0 : Nat) : Int) * 1) ((((hi - lo).toNat : Nat) : Int) - ((0 : Nat) : Int)) 1
    rw [e1, e2]
    exact Heap.get?_push_size _ rfl
  · have e : b = s1.heap.objs.size := by simpa using hb
    subst e
    exact I1.fpOk (Nat.le_refl _) (I1.hok.fresh (Nat.le_refl _))
end

theorem places_rev (n : Nat) : Builtin.Slice.slicePlaces ((n : Int) - 1) (-1) (-1) = n := by
  unfold Builtin.Slice.slicePlaces
  have h1 : ¬ ((-1 : Int) > 0) := by omega
  simp only [h1, if_false]
  by_cases h : (n : Int) - 1 > -1
  · rw [if_pos h]
    have : (n : Int) - 1 - -1 - 1 = (n : Int) - 1 := by omega
    rw [this]
    have h2 : -(-1 : Int) = 1 := by omega
    rw [h2, Int.ediv_one]
    omega
  · rw [if_neg h]
    omega
theorem fm_some {α β : Type} {f : α → Option β} {g : α → β} : ∀ {l : List α}, (∀ x ∈ l, f x = some (g x)) → l.filterMap f = l.map g
  | [], _ => rfl
  | x :: l, h => by
    rw [List.filterMap_cons, h x List.mem_cons_self, List.map_cons, fm_some fun y hy => h y (List.mem_cons_of_mem _ hy)]
theorem pick_rev (xs : Array Value) : ((List.range xs.size).filterMap fun (k : Nat) => xs[((xs.size : Int) - 1 + (k : Int) * (-1)).toNat]?).toArray = xs.toList.reverse.toArray := by
  congr 1
  apply List.ext_getElem?
  intro i
  have e : ((List.range xs.size).filterMap fun (k : Nat) => xs[((xs.size : Int) - 1 + (k : Int) * (-1)).toNat]?) = (List.range xs.size).map fun (k : Nat) => xs.toList.reverse.getD k .none := by
    apply fm_some
    intro k hk
    rw [List.mem_range] at hk
    have h1 : ((xs.size : Int) - 1 + (k : Int) * (-1)).toNat = xs.size - 1 - k := by omega
    rw [h1]
    show xs[xs.size - 1 - k]? = some _
    have h2 : k < xs.toList.reverse.length := by simpa using hk
    have h3 : xs.size - 1 - k < xs.size := by omega
    rw [Array.getElem?_eq_getElem h3, List.getD_eq_getElem?_getD, List.getElem?_eq_getElem h2, List.getElem_reverse]
    simp
  rw [e, List.getElem?_map]
  by_cases h : i < xs.size
  · rw [List.getElem?_range h]
    have h2 : i < xs.toList.reverse.length := by simpa using h
    show some (xs.toList.reverse.getD i .none) = _
    rw [List.getD_eq_getElem?_getD, List.getElem?_eq_getElem h2] <;> rfl
  · rw [List.getElem?_eq_none (by simpa using h), List.getElem?_eq_none (by simpa using h)] <;> rfl
section
variable {prog : Program} {w : World} {A : Around} {E : Value → Shared → Prop} {s : Shared}
theorem sliceApplied_rev {sl : Addr} {u : Tok} {n : Nat} {Q : Int × Int × Nat → Shared → Prop} (hs : s.heap.IsSliceOf sl .none .none (.int (-1) u))
    (h : Q ((n : Int) - 1, -1, n) s) : wpAny (model prog w) A (Builtin.Slice.sliceApplied (.ref sl) (pure (n : Int))) Q E s := by
  obtain ⟨os, hos, hcs, hds⟩ := id hs
  unfold Builtin.Slice.sliceApplied Builtin.Slice.sliceFields
  refine wpAny_bind (wpAny_bind (wpAny_field hos hds (x := .none) rfl (wpAny_bind (wpAny_field hos hds (x := .none) rfl (wpAny_bind (wpAny_field hos hds (x := .int (-1) u) rfl (wpAny_pure ?_)))))))
  refine wpAny_bind (slicePart_int ?_)
  show wpAny _ _ (if ((-1 : Int) == 0) = true then _ else _) _ _ s
  rw [if_neg (by decide)]
  refine wpAny_bind (slicePart_none (wpAny_bind (slicePart_none (wpAny_bind (wpAny_pure ?_)))))
  have e : Builtin.Slice.sliceAdjust none none (-1) (n : Int) = ((n : Int) - 1, -1) := rfl
  show wpAny _ _ (match Builtin.Slice.sliceAdjust none none (-1) (n : Int) with | (lo, hi) => pure (lo, (-1 : Int), Builtin.Slice.slicePlaces lo hi (-1))) _ _ s
  rw [e]
  show wpAny _ _ (pure ((n : Int) - 1, (-1 : Int), Builtin.Slice.slicePlaces ((n : Int) - 1) (-1) (-1))) _ _ s
  rw [places_rev]
  exact wpAny_pure h
theorem getItem_tuple_rev {t sl : Addr} {items : Array Value} {u : Tok} {Q : Value → Shared → Prop} (ht : IsTup s.heap t items) (hs : s.heap.IsSliceOf sl .none .none (.int (-1) u))
    (h : Q (.ref s.heap.objs.size) { s with heap := s.heap.push { cls := .type "tuple", data := .seq items.toList.reverse.toArray } })
    (hsz : items.size ≤ sizeLine) : wpAny (model prog w) A (getItem (.ref t) (.ref sl)) Q E s := by
  have htake : sizeOk (.seq items.toList.reverse.toArray) := by
    show items.toList.reverse.toArray.size ≤ sizeLine
    simpa using hsz
  obtain ⟨os, hos, hcs, hds⟩ := id hs
  have hTs : s.TypeIs (.ref sl) "slice" := ⟨os, hos, hcs⟩
  unfold getItem
  try with_reducible refine wpAny_holding ?_
  first | refine wpAny_bind (wpAny_pure ?_) | skip
  refine wpAny_bind (wpAny_sequenceKey ht.typeIs (by decide) ?_)
  refine wpAny_bind (wpAny_callSpecial?_slot (name := Str.ofString "__getitem__") ht.typeIs PyProof.Rows.slot_tuple_getitem
    (wpAny_call_entry PyProof.Rows.slot_tuple_getitem ht.typeIs entry_tuple_getitem ?_ (args_tuple_getitem _ _)))
  show wpAny _ _ (Builtin.Tuple.tupleItemsOf (.ref t) >>= _) _ _ s
  refine wpAny_bind (tupleItemsOf_ ht ?_)
  refine wpAny_bind (wpAny_typeOf hTs ?_)
  rw [if_pos (by decide)]
  refine wpAny_bind (sliceApplied_rev (n := items.size) hs ?_)
  have hno : ¬ ((((items.size : Int) - 1) == 0 && (-1 : Int) == 1 && items.size == items.size) = true) := by
    intro q
    rw [Bool.and_eq_true, Bool.and_eq_true] at q
    exact absurd q.1.2 (by decide)
  show wpAny _ _ (if (((items.size : Int) - 1) == 0 && (-1 : Int) == 1 && items.size == items.size) = true then _ else _) _ _ s
  rw [if_neg hno, pick_rev]
  first
    | exact wpAny_bind (m := Builtin.Tuple.tupleExact _) (wpAny_newObj_type (wpAny_pure ⟨_, rfl, wpAny_pure h⟩) htake)
    | exact wpAny_bind (m := Builtin.Tuple.tupleExact _) (wpAny_newObj_type (wpAny_bind (wpAny_pure (wpAny_pure ⟨_, rfl, wpAny_pure h⟩))) htake)
    | exact wpAny_bind (wpAny_bind (m := Builtin.Tuple.tupleExact _) (wpAny_newObj_type (wpAny_pure (wpAny_pure ⟨_, rfl, wpAny_pure h⟩)) htake))
    | exact wpAny_bind (wpAny_bind (m := Builtin.Tuple.tupleExact _) (wpAny_newObj_type (wpAny_pure ⟨_, rfl, wpAny_pure h⟩) htake))
end
section
variable {X : Cx}
def tRevT (K : PySem.W.Frag) (te : TE) : TE := fun σ H Q => te σ H fun x H1 => ∃ a xs, x = .ref a ∧ SqT K H1 a xs ∧ ∀ p, H1 p = none → Q (.ref p) (upd H1 p (.tup xs.reverse))
theorem pe_revT {e : Expr} {te : TE} {k : Nat} {p1 p2 p3 pos : Pos} (he : PE X e te) : PE X (.Subscript e (.Slice none none (some (.UnaryOp .USub (.Constant (.int 1) k p1) p2)) p3) pos) (tRevT X.K te) := by
  refine ⟨fun pins s σ H Q I h => ?_⟩
  refine Subscript_ (thn (he.run pins s σ H _ I h) fun v s1 ⟨x, H1, I1, r1, q1⟩ => ?_)
  obtain ⟨a, xs, ex, hx, q⟩ := q1
  subst ex
  cases r1
  have hst : PO X (some (.UnaryOp .USub (.Constant (.int 1) k p1) p2)) (tPart (tUn (rU fun i => .int (-i)) (tC (.int 1)))) := po_some (pe_un un_neg pe_int)
  refine wpAny_Slice (thn (po_none.run pins s1 σ H1 (fun o H2 => o = none ∧ H2 = H1) I1 ⟨rfl, rfl⟩) fun vl s2 ⟨l, H2, I2, pl, el, e2⟩ => ?_)
  subst el e2
  refine thn (po_none.run pins s2 σ H2 (fun o H3 => o = none ∧ H3 = H2) I2 ⟨rfl, rfl⟩) fun vu s3 ⟨u, H3, I3, pu, eu, e3⟩ => ?_
  subst eu e3
  refine thn (hst.run pins s3 σ H3 (fun o H4 => o = some (-1) ∧ H4 = H3) I3 ⟨1, rfl, -1, rfl, rfl, rfl⟩) fun vs s4 ⟨o, H4, I4, ps, eo, e4⟩ => ?_
  subst eo e4
  have I5 : Inv X pins σ H4 { s4 with heap := s4.heap.push { cls := .type "slice", data := .fields #[vl, vu, vs] } } := I4.kept (t' := s4.toks) fun b ob q => Heap.get?_push_of_some _ q
  obtain ⟨its, r, ht, hz⟩ := I5.tuple hx
  cases pl
  cases pu
  cases ps with
  | int _ t =>
    show wpAny (model X.prog X.w) X.A (subscriptTail e (.Slice none none (some (.UnaryOp .USub (.Constant (.int 1) k p1) p2)) p3) (.ref a) (.ref s4.heap.objs.size)) (EP X pins σ Q) X.xe { s4 with heap := s4.heap.push { cls := .type "slice", data := .fields #[.none, .none, .int (-1) t] } }
    refine tail_any (ops := [.ref a, .ref s4.heap.objs.size]) ht.typeIs (PyProof.Rows.slot_tuple_getitem.lookup) ?_ (by with_unfolding_all rfl)
    refine getItem_tuple_rev ht (Heap.IsSliceOf.new _ .none .none _) ?_ (by rw [List.size_toArray, ← r.length]; exact hz)
    refine ⟨.ref _, _, I5.laid (t' := s4.toks) (o := .tup xs.reverse) (fun b ob q => Heap.get?_push_of_some _ q) (Nat.le_refl _) ?_, rfl, q _ (I5.hok.fresh (Nat.le_refl _))⟩
    exact ⟨by rw [List.length_reverse]; exact hz, _, r.reverse, IsTup.new _ _⟩
end
end Ri
set_option maxHeartbeats 1000000
namespace Ri
open PySem PySem.Spec PyProof.Rows L2

def okLoc (N : List Str) (sc : Nms) (i : Nat) (x : Str) : Bool := (match N[i]? with
  | some y => y == x
  | none => false) && locB sc x
def tgNms (N : List Str) (sc : Nms) : List Nat → List Expr → Bool
  | [], [] => true
  | i :: is, .Name x _ :: es => okLoc N sc i x && tgNms N sc is es
  | _, _ => false
def tgB (N : List Str) (sc : Nms) : T → Expr → Bool
  | .nm i, .Name x _ => okLoc N sc i x
  | .tp is, .Tuple es _ _ => tgNms N sc is es
  | _, _ => false
def gNms : List Nat → TGs
  | [] => gNil
  | i :: is => gCons (gName i) (gNms is)
def gT (K : PySem.W.Frag) : T → TG
  | .nm i => gName i
  | .tp is => gTup K is.length (gNms is)
section
variable {X : Cx} {XR : XRel} {E : XK} {C : Ctx} {tb : Tab} {N : List Str} {sc : Nms}
theorem pg_nm (c : Cok X XR E C tb N sc) {i : Nat} {x : Str} {pos : Pos} (h : okLoc N sc i x = true) : PG X (.Name x pos) (gName i) := by
  obtain ⟨h1, h2⟩ := two_and h
  exact pg_name c.nd (by rw [c.hN]; exact at_inv h1) (c.loc x h2).1 (c.loc x h2).2
theorem pgs_nms (c : Cok X XR E C tb N sc) : ∀ {is : List Nat} {es : List Expr}, tgNms N sc is es = true → PGs X es (gNms is) ∧ (assignEach es X.env).length = is.length ∧ (assignEach es X.env).findIdx? (·.1) = none
  | [], [], _ => ⟨pgs_nil, rfl, rfl⟩
  | i :: is, .Name x p :: es, h => by
    obtain ⟨h1, h2⟩ := two_and (show (okLoc N sc i x && tgNms N sc is es) = true from h)
    obtain ⟨a, b, d⟩ := pgs_nms c h2
    refine ⟨pgs_cons (pg_nm c h1) a rfl, ?_, ?_⟩
    · show (assignEach es X.env).length + 1 = is.length + 1
      rw [b]
    · show ((false, assign (.Name x p) X.env) :: assignEach es X.env).findIdx? (·.1) = none
      rw [List.findIdx?_cons, d] <;> rfl
  | [], _ :: _, h => by cases h
  | _ :: _, [], h => by cases h
theorem ck_tg (c : Cok X XR E C tb N sc) {t : T} {e : Expr} (h : tgB N sc t e = true) : PG X e (gT X.K t) := by
  cases t with
  | nm i =>
    cases e with
    | Name x p => exact pg_nm c h
    | _ => cases h
  | tp is =>
    cases e with
    | Tuple es k p =>
      obtain ⟨a, b, d⟩ := pgs_nms c (show tgNms N sc is es = true from h)
      exact pg_tup c.calm a b d
    | _ => cases h
end
theorem wipe_get (σ : L2.St) : ∀ (vs : List Nat) (j : Nat), (wipe σ vs)[j]? = if j ∈ vs then (σ[j]?).map (fun _ => none) else σ[j]?
  | [], j => by simp [wipe]
  | v :: vs, j => by
    show ((wipe σ vs).set v none)[j]? = _
    rw [List.getElem?_set]
    by_cases h : v = j
    · subst h
      rw [if_pos rfl, if_pos List.mem_cons_self, wipe_length]
      by_cases hl : v < σ.length
      · rw [if_pos hl, List.getElem?_eq_getElem hl] <;> rfl
      · rw [if_neg hl, List.getElem?_eq_none (Nat.le_of_not_lt hl)] <;> rfl
    · rw [if_neg h, wipe_get σ vs j]
      by_cases hm : j ∈ vs
      · rw [if_pos hm, if_pos (List.mem_cons_of_mem _ hm)]
      · rw [if_neg hm, if_neg (by rw [List.mem_cons, not_or]; exact ⟨fun z => h z.symm, hm⟩)]
theorem wipe_set {σ : L2.St} {i : Nat} {o : Option V} {vs : List Nat} (h : i ∈ vs) : wipe (σ.set i o) vs = wipe σ vs := by
  refine List.ext_getElem? fun j => ?_
  rw [wipe_get, wipe_get, List.getElem?_set]
  by_cases hj : j ∈ vs
  · rw [if_pos hj, if_pos hj]
    by_cases e : i = j
    · subst e
      rw [if_pos rfl]
      by_cases hl : i < σ.length
      · rw [if_pos hl, List.getElem?_eq_getElem hl] <;> rfl
      · rw [if_neg hl, List.getElem?_eq_none (Nat.le_of_not_lt hl)]
    · rw [if_neg e]
  · rw [if_neg hj, if_neg hj, if_neg fun e : i = j => hj (e ▸ h)]
theorem wipe_idem (σ : L2.St) (vs : List Nat) : wipe (wipe σ vs) vs = wipe σ vs := by
  refine List.ext_getElem? fun j => ?_
  rw [wipe_get, wipe_get]
  by_cases hj : j ∈ vs
  · rw [if_pos hj, if_pos hj]
    cases σ[j]? <;> rfl
  · rw [if_neg hj, if_neg hj]
theorem wipeL_get (v : List (Option D)) : ∀ (vs : List Nat) (j : Nat) (d : D), (wipeL v vs)[j]? = some (some d) → v[j]? = some (some d) ∧ j ∉ vs
  | [], j, d, h => ⟨h, by simp⟩
  | i :: vs, j, d, h => by
    have h : ((wipeL v vs).set i none)[j]? = some (some d) := h
    rw [List.getElem?_set] at h
    by_cases e : i = j
    · rw [if_pos e] at h
      split at h <;> cases h
    · rw [if_neg e] at h
      obtain ⟨h1, h2⟩ := wipeL_get v vs j d h
      exact ⟨h1, by rw [List.mem_cons, not_or]; exact ⟨fun z => e z.symm, h2⟩⟩
theorem wipeL_length (v : List (Option D)) : ∀ vs : List Nat, (wipeL v vs).length = v.length
  | [] => rfl
  | i :: vs => by
    show ((wipeL v vs).set i none).length = _
    rw [List.length_set, wipeL_length v vs]
section
variable {K : PySem.W.Frag} {ρ : Env} {S S' : Sto} {m r m' r' : List Addr} {σ : L2.St} {H H' : Hp}
theorem At.gr (A : At K ρ S m r σ H) (g : Gr m r H m' r' H') (s : SimS K H' ⟨m', r'⟩ S') (c : Cls ρ.bs S') : At K ρ S' m' r' σ H' :=
  ⟨s, c, A.len, fun i d e => let ⟨v, e1, e2⟩ := A.var i d e; ⟨v, e1, RelD.gr g d v e2⟩⟩
theorem At.wipe (A : At K ρ S m r σ H) (vs : List Nat) : At K ⟨ρ.bs, wipeL ρ.v vs⟩ S m r (wipe σ vs) H := by
  refine ⟨A.sto, A.cl, by rw [wipe_length]; show (wipeL ρ.v vs).length = _; rw [wipeL_length]; exact A.len, fun i d e => ?_⟩
  obtain ⟨e1, e2⟩ := wipeL_get ρ.v vs i d e
  obtain ⟨v, e3, e4⟩ := A.var i d e1
  exact ⟨v, by rw [wipe_get, if_neg e2]; exact e3, e4⟩
theorem At.set {i : Nat} {d : D} {x : V} (A : At K ρ S m r σ H) (h : RelD K H ⟨m, r⟩ d x) : At K ⟨ρ.bs, ρ.v.set i (some d)⟩ S m r (σ.set i (some x)) H := by
  refine ⟨A.sto, A.cl, by show (ρ.v.set i (some d)).length = _; rw [List.length_set, List.length_set]; exact A.len, fun j e q => ?_⟩
  have q : (ρ.v.set i (some d))[j]? = some (some e) := q
  rw [List.getElem?_set] at q
  by_cases hj : i = j
  · subst hj
    rw [if_pos rfl] at q
    by_cases hl : i < ρ.v.length
    · rw [if_pos hl] at q
      cases q
      exact ⟨x, by rw [List.getElem?_set, if_pos rfl, if_pos (by rw [← A.len]; exact hl)], h⟩
    · rw [if_neg hl] at q; cases q
  · rw [if_neg hj] at q
    obtain ⟨v, e1, e2⟩ := A.var j e q
    exact ⟨v, by rw [List.getElem?_set, if_neg hj]; exact e1, e2⟩
theorem gNms_ok {Q : L2.St → Hp → Prop} : ∀ {is : List Nat} {ds : List D} {xs : List V} {v : List (Option D)} {σ : L2.St}, At K ⟨ρ.bs, v⟩ S m r σ H → RelDs K H ⟨m, r⟩ ds xs → is.length = ds.length →
    (∀ σ', At K ⟨ρ.bs, bindT.bindAll v is ds⟩ S m r σ' H → (∀ vs, (∀ i ∈ is, i ∈ vs) → wipe σ' vs = wipe σ vs) → Q σ' H) → gNms is xs σ H Q
  | [], [], xs, v, σ, A, h, _, k => by
    have e : xs = [] := h
    exact ⟨e, k σ A fun _ _ => rfl⟩
  | i :: is, d :: ds, xs, v, σ, A, h, hl, k => by
    obtain ⟨x, t, e, h1, h2⟩ := h
    refine ⟨x, t, e, ?_⟩
    have A2 : At K ⟨ρ.bs, v.set i (some d)⟩ S m r (σ.set i (some x)) H := At.set (ρ := ⟨ρ.bs, v⟩) A h1
    exact gNms_ok A2 h2 (Nat.succ.inj hl) fun σ' A' hw => k σ' A' fun vs hv => (hw vs fun j hj => hv j (List.mem_cons_of_mem _ hj)).trans (wipe_set (hv i List.mem_cons_self))
  | [], _ :: _, _, _, _, _, _, hl, _ => by cases hl
  | _ :: _, [], _, _, _, _, _, hl, _ => by cases hl
theorem gT_ok {t : T} {d : D} {x : V} {v' : List (Option D)} {Q : L2.St → Hp → Prop} (A : At K ρ S m r σ H) (rx : RelD K H ⟨m, r⟩ d x) (e : bindT ρ.v t d = some v')
    (k : ∀ σ', At K ⟨ρ.bs, v'⟩ S m r σ' H → (∀ vs, (∀ i ∈ slots t, i ∈ vs) → wipe σ' vs = wipe σ vs) → Q σ' H) : gT K t x σ H Q := by
  cases t with
  | nm i =>
    have e := Option.some.inj (show some (ρ.v.set i (some d)) = some v' from e)
    subst e
    exact k _ (At.set A rx) fun vs hv => wipe_set (hv i List.mem_cons_self)
  | tp is =>
    cases d with
    | tup ds =>
      have e : (if (is.length == ds.length) = true then some (bindT.bindAll ρ.v is ds) else none) = some v' := e
      obtain ⟨h1, h2⟩ := some_if e
      subst h2
      obtain ⟨a, xs, rfl, ta, rl⟩ := rx
      have hl : is.length = ds.length := eq_of_beq h1
      exact ⟨a, xs, rfl, ta.sq, by rw [hl, rl.length], gNms_ok A rl hl k⟩
    | _ => cases e
end

inductive Lp (f : D → List D → M (List D)) (it : It) : Nat → Nat → List D → Sto → List D → Sto → Prop
  | stop {n i : Nat} {acc : List D} {S : Sto} : it.at S i = some none → Lp f it n i acc S acc S
  | go {n i : Nat} {x : D} {acc acc1 l : List D} {S S1 S' : Sto} : it.at S i = some (some x) → f x acc S = .ok acc1 S1 → Lp f it n (i + 1) acc1 S1 l S' → Lp f it (n + 1) i acc S l S'
section
variable {f : D → List D → M (List D)}
theorem lcGo_lp : ∀ {L rest : List D} {i : Nat} {acc l : List D} {S S' : Sto}, L.drop i = rest → lcGo f rest acc S = .ok l S' → ∃ n, Lp f (.snap L) n i acc S l S'
  | L, [], i, acc, l, S, S', hd, h => by
    cases h
    refine ⟨0, .stop ?_⟩
    show some L[i]? = some none
    rw [List.getElem?_eq_none (List.drop_eq_nil_iff.mp hd)]
  | L, x :: rest, i, acc, l, S, S', hd, h => by
    obtain ⟨acc1, S1, h1, h2⟩ := bnd_ok h
    have hi : i < L.length := by
      refine Nat.lt_of_not_le fun hle => ?_
      rw [List.drop_eq_nil_of_le hle] at hd
      cases hd
    have e := List.drop_eq_getElem_cons hi
    rw [hd] at e
    injection e with e1 e2
    obtain ⟨n, q⟩ := lcGo_lp e2.symm h2
    refine ⟨n + 1, .go ?_ h1 q⟩
    show some L[i]? = some (some x)
    rw [List.getElem?_eq_getElem hi, e1]
theorem lcDyn_lp {it : It} : ∀ {fu i : Nat} {acc l : List D} {S S' : Sto}, lcDyn f it fu i acc S = .ok l S' → ∃ n, Lp f it n i acc S l S'
  | 0, _, _, _, _, _, h => by cases h
  | fu + 1, i, acc, l, S, S', h => by
    have h : (match it.at S i with
      | some (some x) => bnd (f x acc) (fun acc => lcDyn f it fu (i + 1) acc) S
      | some none => .ok acc S
      | none => .bad) = Ri.R.ok l S' := h
    cases e : it.at S i with
    | none => rw [e] at h; cases h
    | some o =>
      rw [e] at h
      cases o with
      | none =>
        cases h
        exact ⟨0, .stop e⟩
      | some x =>
        obtain ⟨acc1, S1, h1, h2⟩ := bnd_ok h
        obtain ⟨n, q⟩ := lcDyn_lp h2
        exact ⟨n + 1, .go e h1 q⟩
theorem lcRun_lp {C : Ctx} {it : It} {acc l : List D} {S S' : Sto} (h : lcRun C f it acc S = .ok l S') : ∃ n, Lp f it n 0 acc S l S' := by
  cases it with
  | snap L => exact lcGo_lp (i := 0) rfl h
  | _ => exact lcDyn_lp h
theorem Lp.len {it : It} (hf : ∀ x acc S acc1 S1, f x acc S = .ok acc1 S1 → acc.length ≤ acc1.length) {n i : Nat} {acc l : List D} {S S' : Sto} (h : Lp f it n i acc S l S') : acc.length ≤ l.length := by
  induction h with
  | stop => exact Nat.le_refl _
  | go _ h1 _ ih => exact Nat.le_trans (hf _ _ _ _ _ h1) ih
end
theorem bnd_go {α β : Type} {x : M α} {k : α → M β} {S S1 : Sto} {a : α} (h : x S = .ok a S1) : bnd x k S = k a S1 := by
  unfold bnd; rw [h]
theorem bnd_ex {α β : Type} {x : M α} {k : α → M β} {S S1 : Sto} {c : Nat} {d : D} (h : x S = .ex c d S1) : bnd x k S = .ex c d S1 := by
  unfold bnd; rw [h]
theorem bnd_bad {α β : Type} {x : M α} {k : α → M β} {S : Sto} (h : x S = .bad) : bnd x k S = .bad := by
  unfold bnd; rw [h]
theorem noEx_ok {α : Type} {x : M α} {S S' : Sto} {a : α} (h : noEx x S = .ok a S') : x S = .ok a S' := by
  unfold noEx at h
  cases e : x S with
  | ok b S1 => rw [e] at h; exact h
  | ex c d S1 => rw [e] at h; cases h
  | bad => rw [e] at h; cases h
theorem noEx_ne {α : Type} {x : M α} {S S' : Sto} {c : Nat} {d : D} : noEx x S ≠ .ex c d S' := by
  unfold noEx
  cases e : x S <;> (intro h; cases h)
theorem limM_ok {x : M (List D)} {S S' : Sto} {l : List D} (h : limM x S = .ok l S') : x S = .ok l S' ∧ Nat.ble l.length LIM = true := by
  obtain ⟨k, S1, h1, h2⟩ := bnd_ok h
  cases q : limL k with
  | true =>
    rw [q] at h2
    cases h2
    exact ⟨h1, q⟩
  | false => rw [q] at h2; cases h2
theorem Post.okP {K : PySem.W.Frag} {XR : XRel} {E : XK} {bs : List Nat} {r m : List Addr} {H : Hp} {α : Type} {x : Ri.R α} {a : α} {S1 : Sto} {okk : α → List Addr → Sto → Hp → Prop} (e : x = .ok a S1) (h : ∀ m' H', Grow m H m' H' → SimS K H' ⟨m', r⟩ S1 → Cls bs S1 → okk a m' S1 H') : Post K XR E bs r m H x okk := by
  rw [e]; exact h
abbrev noX : XK := fun _ _ _ => False

def c1F (C : Ctx) (v0 : List (Option D)) (bs : List Nat) (t : T) (fc : Env → M Bool) (fe : Env → M D) : D → List D → M (List D) := fun x acc => (match bindT v0 t x with
    | some v => bnd (fc ⟨bs, v⟩) fun b => match b with
      | true => bnd (fe ⟨bs, v⟩) fun y => ret (y :: acc)
      | false => ret acc
    | none => bad)
theorem c1F_ok {C : Ctx} {v0 : List (Option D)} {bs : List Nat} {t : T} {fc : Env → M Bool} {fe : Env → M D} {x : D} {acc acc1 : List D} {S S1 : Sto} (h : c1F C v0 bs t fc fe x acc S = .ok acc1 S1) :
    ∃ v, bindT v0 t x = some v ∧ ((fc ⟨bs, v⟩ S = .ok false S1 ∧ acc1 = acc) ∨ ∃ S2 y, fc ⟨bs, v⟩ S = .ok true S2 ∧ fe ⟨bs, v⟩ S2 = .ok y S1 ∧ acc1 = y :: acc) := by
  unfold c1F at h
  cases e : bindT v0 t x with
  | none => rw [e] at h; cases h
  | some v =>
    rw [e] at h
    obtain ⟨b, S2, h1, h2⟩ := bnd_ok h
    cases b with
    | false =>
      cases h2
      exact ⟨v, rfl, .inl ⟨h1, rfl⟩⟩
    | true =>
      obtain ⟨y, S3, h3, h4⟩ := bnd_ok h2
      cases h4
      exact ⟨v, rfl, .inr ⟨S2, y, h1, h3, rfl⟩⟩
theorem c1F_len {C : Ctx} {v0 : List (Option D)} {bs : List Nat} {t : T} {fc : Env → M Bool} {fe : Env → M D} (x : D) (acc : List D) (S : Sto) (acc1 : List D) (S1 : Sto) (h : c1F C v0 bs t fc fe x acc S = .ok acc1 S1) : acc.length ≤ acc1.length := by
  obtain ⟨v, _, h⟩ := c1F_ok h
  rcases h with ⟨_, rfl⟩ | ⟨_, _, _, _, rfl⟩
  · exact Nat.le_refl _
  · exact Nat.le_succ _
def c1R (C : Ctx) (fi : Env → M It) (t : T) (fc : Env → M Bool) (fe : Env → M D) : Env → M (List D) := fun ρ => bnd (fi ρ) fun i => noEx (limM (bnd (lcRun C (c1F C (wipeL ρ.v (slots t)) ρ.bs t fc fe) i []) fun acc => ret acc.reverse))
section
variable {K : PySem.W.Frag} {XR : XRel} {E : XK} {C : Ctx}
theorem c1_lc {fi : Env → M It} {t : T} {fc : Env → M Bool} {fe : Env → M D} {σ : L2.St} {H : Hp} {Q : VK} (h : tN K XR E (c1R C fi t fc fe) σ H Q) : tLc (tI K XR E fi) (gT K t) (tT K XR noX fc) (tE K XR noX fe) (slots t) σ H Q := by
  obtain ⟨ρ, S, m, r, A, h⟩ := h
  refine ⟨ρ, S, m, r, A, ?_⟩
  cases q : fi ρ S with
  | bad => rw [show c1R C fi t fc fe ρ S = .bad from bnd_bad q] at h; exact h
  | ex x d S1 => rw [show c1R C fi t fc fe ρ S = .ex x d S1 from bnd_ex q] at h; exact h
  | ok it S1 =>
    rw [show c1R C fi t fc fe ρ S = noEx (limM (bnd (lcRun C (c1F C (wipeL ρ.v (slots t)) ρ.bs t fc fe) it []) fun acc => ret acc.reverse)) S1 from bnd_go q] at h
    cases q2 : noEx (limM (bnd (lcRun C (c1F C (wipeL ρ.v (slots t)) ρ.bs t fc fe) it []) fun acc => ret acc.reverse)) S1 with
    | bad => rw [q2] at h; exact h.elim
    | ex x d S2 => exact absurd q2 noEx_ne
    | ok l SF =>
      rw [q2] at h
      have h' := h
      clear h
      obtain ⟨q3, hlim⟩ := limM_ok (noEx_ok q2)
      obtain ⟨accF, S2, q4, q5⟩ := bnd_ok q3
      cases q5
      obtain ⟨n0, lp0⟩ := lcRun_lp q4
      rw [List.length_reverse] at hlim
      have hLen := LIM_line hlim
      have hlim' : accF.length ≤ 1000000 := Nat.le_of_ble_eq_true hlim
      intro m1 H1 g s c1 J hJ D hD
      have A1 := A.grow g s c1
      have hD0 : H D = none := by
        cases e : H D with
        | none => rfl
        | some o => exact absurd hD (g.hold D (by rw [e]; simp))
      refine ⟨fun i n H' => ∃ acc accV S2 m2, Lp (c1F C (wipeL ρ.v (slots t)) ρ.bs t fc fe) it n i acc S2 accF SF ∧ SimS K H' ⟨m2, D :: r⟩ S2 ∧ Cls ρ.bs S2 ∧ Gr m1 r H1 m2 (D :: r) H' ∧ Grow m H m2 H' ∧ H' D = some (.lst accV) ∧ RelDs K H' ⟨m2, D :: r⟩ acc.reverse accV,
        ⟨n0, [], [], S1, m1, lp0, s.fresh hD, c1, Gr.newR hD, g.trans (Grow.new1 hD), upd_same, rfl⟩, ?_⟩
      rintro i n H' ⟨acc, accV, S2, m2, lp, s2, c2, gr, gw, hD2, rl⟩
      have hit := hJ m2 (D :: r) H' gr S2 s2 i
      have nD : D ∉ m2 := (s2.res D List.mem_cons_self).2
      cases lp with
      | stop e =>
        rw [e] at hit
        exact .inl ⟨hit, h' D accV m2 H' gw s2 c2 hD0 hD2 rl⟩
      | @go n' _ x _ acc1 _ _ S3 _ e ef rest =>
        rw [e] at hit
        obtain ⟨go, yl⟩ := hit
        refine .inr ⟨go, fun H'' => ∃ acc accV S2 m2, Lp (c1F C (wipeL ρ.v (slots t)) ρ.bs t fc fe) it n' (i + 1) acc S2 accF SF ∧ SimS K H'' ⟨m2, D :: r⟩ S2 ∧ Cls ρ.bs S2 ∧ Gr m1 r H1 m2 (D :: r) H'' ∧ Grow m H m2 H'' ∧ H'' D = some (.lst accV) ∧ RelDs K H'' ⟨m2, D :: r⟩ acc.reverse accV,
          fun H'' w => ⟨n', Nat.lt_succ_self _, w⟩, fun x' H3 y => ?_⟩
        obtain ⟨gy, sy, ry⟩ := yl x' H3 y
        have hD3 : H3 D = some (.lst accV) := gy.keep D _ hD2 nD
        have gr3 := gr.trans (Gr.of gy)
        have A3 := (A1.gr gr3 sy c2).wipe (slots t)
        obtain ⟨v, eb, ef⟩ := c1F_ok ef
        refine gT_ok A3 ry eb fun σ' A4 hw => ⟨(hw _ fun _ z => z).trans (wipe_idem _ _), ?_⟩
        have rl3 := rels_grow gy rl
        rcases ef with ⟨e1, rfl⟩ | ⟨S4, yd, e1, e2, rfl⟩
        · refine ⟨⟨ρ.bs, v⟩, S2, m2, D :: r, A4, Post.okP e1 fun m4 H4 g4 s4 c4 => ite_ff ?_⟩
          exact ⟨acc1, accV, S3, m4, rest, s4, c4, gr3.trans (Gr.of g4), (gw.trans gy).trans g4, g4.keep D _ hD3 nD, rels_grow g4 rl3⟩
        · refine ⟨⟨ρ.bs, v⟩, S2, m2, D :: r, A4, Post.okP e1 fun m4 H4 g4 s4 c4 => ite_tt ?_⟩
          have nD4 : D ∉ m4 := (s4.res D List.mem_cons_self).2
          refine ⟨⟨ρ.bs, v⟩, S4, m4, D :: r, A4.grow g4 s4 c4, Post.okP e2 fun m5 H5 g5 s5 c5 yv ryv => ?_⟩
          have hD5 : H5 D = some (.lst accV) := g5.keep D _ (g4.keep D _ hD3 nD) nD4
          have rl5 := rels_grow g5 (rels_grow g4 rl3)
          have hln := rest.len c1F_len
          have hac := rl.length
          rw [List.length_reverse] at hac
          rw [List.length_cons] at hln
          refine ⟨accV, hD5, by rw [sizeLine_eq]; omega, ?_⟩
          refine ⟨yd :: acc, accV ++ [yv], S3, m5, rest, s5.wr List.mem_cons_self hD5, c5, ((gr3.trans (Gr.of g4)).trans (Gr.of g5)).wr (.inl hD), (((gw.trans gy).trans g4).trans g5).wr hD0, upd_same, ?_⟩
          rw [List.reverse_cons]
          exact RelDs.gr (Gr.refl.wr (.inr ⟨List.mem_cons_self, accV, hD5⟩)) _ _ (rl5.append (RelDs.one ryv))
end
section
variable {X : Cx} {XR : XRel} {E : XK} {C : Ctx} {tb : Tab} {N : List Str} {sc : Nms}
theorem dn_c1 (c : Cok X XR E C tb N sc) {elt tg iter : Expr} {ifs : List Expr} {scope : Scope} {own : List (Str × Nat)} {pos : Pos} {fi : Env → M It} {t : T} {fc : Env → M Bool} {fe : Env → M D}
    (hi : PI X tg iter (tI X.K XR E fi)) (ok : BlkOk X.N X.env.scope scope own) (ho : own.map (·.2) = slots t)
    (hg : ∀ (s : Shared) (H : Hp) (A : Addr) (cl : List (Str × Addr)) (fp : List Addr), PG (X.blk s H scope (compEnvC scope cl A X.env) fp) tg (gT X.K t))
    (ht : ∀ (s : Shared) (H : Hp) (A : Addr) (cl : List (Str × Addr)) (fp : List Addr), PTs (X.blk s H scope (compEnvC scope cl A X.env) fp) ifs (tT X.K XR noX fc))
    (he : ∀ (s : Shared) (H : Hp) (A : Addr) (cl : List (Str × Addr)) (fp : List Addr), PE (X.blk s H scope (compEnvC scope cl A X.env) fp) elt (tE X.K XR noX fe))
    (hs : ∀ x, foldedSetIterable iter X.env x = pure x) : PE X (.ListComp elt [⟨tg, iter, ifs, 0⟩] scope pos) (tN X.K XR E (c1R C fi t fc fe)) := by
  refine (pe_lc c.calm c.nd hi ok hg ht he hs).imp fun σ H Q h => ?_
  rw [ho]
  exact c1_lc h
end
end Ri
set_option maxHeartbeats 1000000
namespace Ri
open PySem PySem.Spec PyProof.Rows L2

def c2F (C : Ctx) (v0 : List (Option D)) (bs : List Nat) (t : T) (fc : Env → M Bool) (fi2 : Env → M It) (t2 : T) (fc2 : Env → M Bool) (fe : Env → M D) : D → List D → M (List D) := fun x acc => (match bindT v0 t x with
    | some v => bnd (fc ⟨bs, v⟩) fun b => match b with
      | true => bnd (fi2 ⟨bs, v⟩) fun i2 => lcRun C (c1F C (wipeL v (slots t2)) bs t2 fc2 fe) i2 acc
      | false => ret acc
    | none => bad)
section
variable {C : Ctx} {v0 : List (Option D)} {bs : List Nat} {t t2 : T} {fc fc2 : Env → M Bool} {fi2 : Env → M It} {fe : Env → M D}
theorem c2F_ok {x : D} {acc acc1 : List D} {S S1 : Sto} (h : c2F C v0 bs t fc fi2 t2 fc2 fe x acc S = .ok acc1 S1) :
    ∃ v, bindT v0 t x = some v ∧ ((fc ⟨bs, v⟩ S = .ok false S1 ∧ acc1 = acc) ∨ ∃ S2 S3 i2 n, fc ⟨bs, v⟩ S = .ok true S2 ∧ fi2 ⟨bs, v⟩ S2 = .ok i2 S3 ∧ Lp (c1F C (wipeL v (slots t2)) bs t2 fc2 fe) i2 n 0 acc S3 acc1 S1) := by
  unfold c2F at h
  cases e : bindT v0 t x with
  | none => rw [e] at h; cases h
  | some v =>
    rw [e] at h
    obtain ⟨b, S2, h1, h2⟩ := bnd_ok h
    cases b with
    | false =>
      cases h2
      exact ⟨v, rfl, .inl ⟨h1, rfl⟩⟩
    | true =>
      obtain ⟨i2, S3, h3, h4⟩ := bnd_ok h2
      obtain ⟨n, h5⟩ := lcRun_lp h4
      exact ⟨v, rfl, .inr ⟨S2, S3, i2, n, h1, h3, h5⟩⟩
theorem c2F_len (x : D) (acc : List D) (S : Sto) (acc1 : List D) (S1 : Sto) (h : c2F C v0 bs t fc fi2 t2 fc2 fe x acc S = .ok acc1 S1) : acc.length ≤ acc1.length := by
  obtain ⟨v, _, h⟩ := c2F_ok h
  rcases h with ⟨_, rfl⟩ | ⟨_, _, _, _, _, _, h⟩
  · exact Nat.le_refl _
  · exact h.len c1F_len
end
def c2R (C : Ctx) (fi : Env → M It) (t : T) (fc : Env → M Bool) (fi2 : Env → M It) (t2 : T) (fc2 : Env → M Bool) (fe : Env → M D) : Env → M (List D) :=
  fun ρ => bnd (fi ρ) fun i => noEx (limM (bnd (lcRun C (c2F C (wipeL ρ.v (slots t ++ slots t2)) ρ.bs t fc fi2 t2 fc2 fe) i []) fun acc => ret acc.reverse))
/-- where a comprehension stands: from m1, H1 (behind the first source), the whole from m, H -/
structure Std (K : PySem.W.Frag) (bs : List Nat) (r : List Addr) (D : Addr) (m H m1 H1 : _) (acc : List Ri.D) (S : Sto) (H' : Hp) (m2 : List Addr) (accV : List V) : Prop where
  s : SimS K H' ⟨m2, D :: r⟩ S
  c : Cls bs S
  gr : Gr m1 r H1 m2 (D :: r) H'
  gw : Grow m H m2 H'
  d : H' D = some (.lst accV)
  rl : RelDs K H' ⟨m2, D :: r⟩ acc.reverse accV
section
variable {K : PySem.W.Frag} {bs : List Nat} {r m m1 m2 m3 : List Addr} {D : Addr} {H H1 H' H'' : Hp} {acc : List Ri.D} {S S' : Sto} {accV : List V}
theorem Std.nD (s : Std K bs r D m H m1 H1 acc S H' m2 accV) : D ∉ m2 := (s.s.res D List.mem_cons_self).2
theorem Std.grow (s : Std K bs r D m H m1 H1 acc S H' m2 accV) (g : Grow m2 H' m3 H'') (sm : SimS K H'' ⟨m3, D :: r⟩ S') (c : Cls bs S') : Std K bs r D m H m1 H1 acc S' H'' m3 accV :=
  ⟨sm, c, s.gr.trans (Gr.of g), s.gw.trans g, g.keep D _ s.d s.nD, rels_grow g s.rl⟩
theorem Std.app (s : Std K bs r D m H m1 H1 acc S H' m2 accV) (h : H D = none) (h1 : H1 D = none) {y : Ri.D} {yv : V} (ry : RelD K H' ⟨m2, D :: r⟩ y yv) : Std K bs r D m H m1 H1 (y :: acc) S (upd H' D (.lst (accV ++ [yv]))) m2 (accV ++ [yv]) := by
  refine ⟨s.s.wr List.mem_cons_self s.d, s.c, s.gr.wr (.inl h1), s.gw.wr h, upd_same, ?_⟩
  rw [List.reverse_cons]
  exact RelDs.gr (Gr.refl.wr (.inr ⟨List.mem_cons_self, accV, s.d⟩)) _ _ (s.rl.append (RelDs.one ry))
end
section
variable {K : PySem.W.Frag} {XR : XRel} {E : XK} {C : Ctx}
theorem c2_lc {fi fi2 : Env → M It} {t t2 : T} {fc fc2 : Env → M Bool} {fe : Env → M Ri.D} {σ : L2.St} {H : Hp} {Q : VK} (h : tN K XR E (c2R C fi t fc fi2 t2 fc2 fe) σ H Q) : tLc2 (tI K XR E fi) (gT K t) (tT K XR noX fc) (tI K XR noX fi2) (gT K t2) (tT K XR noX fc2) (tE K XR noX fe) (slots t ++ slots t2) (slots t2) σ H Q := by
  obtain ⟨ρ, S, m, r, A, h⟩ := h
  refine ⟨ρ, S, m, r, A, ?_⟩
  cases q : fi ρ S with
  | bad => rw [show c2R C fi t fc fi2 t2 fc2 fe ρ S = .bad from bnd_bad q] at h; exact h
  | ex x d S1 => rw [show c2R C fi t fc fi2 t2 fc2 fe ρ S = .ex x d S1 from bnd_ex q] at h; exact h
  | ok it S1 =>
    rw [show c2R C fi t fc fi2 t2 fc2 fe ρ S = noEx (limM (bnd (lcRun C (c2F C (wipeL ρ.v (slots t ++ slots t2)) ρ.bs t fc fi2 t2 fc2 fe) it []) fun acc => ret acc.reverse)) S1 from bnd_go q] at h
    cases q2 : noEx (limM (bnd (lcRun C (c2F C (wipeL ρ.v (slots t ++ slots t2)) ρ.bs t fc fi2 t2 fc2 fe) it []) fun acc => ret acc.reverse)) S1 with
    | bad => rw [q2] at h; exact h.elim
    | ex x d S2 => exact absurd q2 noEx_ne
    | ok l SF =>
      rw [q2] at h
      have h' := h
      clear h
      obtain ⟨q3, hlim⟩ := limM_ok (noEx_ok q2)
      obtain ⟨accF, S2, q4, q5⟩ := bnd_ok q3
      cases q5
      obtain ⟨n0, lp0⟩ := lcRun_lp q4
      rw [List.length_reverse] at hlim
      have hlim' : accF.length ≤ 1000000 := Nat.le_of_ble_eq_true hlim
      intro m1 H1 g s c1 J hJ D hD
      have A1 := A.grow g s c1
      have hD0 : H D = none := by
        cases e : H D with
        | none => rfl
        | some o => exact absurd hD (g.hold D (by rw [e]; simp))
      refine ⟨fun i n H' => ∃ acc accV S2 m2, Lp (c2F C (wipeL ρ.v (slots t ++ slots t2)) ρ.bs t fc fi2 t2 fc2 fe) it n i acc S2 accF SF ∧ Std K ρ.bs r D m H m1 H1 acc S2 H' m2 accV,
        ⟨n0, [], [], S1, m1, lp0, ⟨s.fresh hD, c1, Gr.newR hD, g.trans (Grow.new1 hD), upd_same, rfl⟩⟩, ?_⟩
      rintro i n H' ⟨acc, accV, S2, m2, lp, sd⟩
      have hit := hJ m2 (D :: r) H' sd.gr S2 sd.s i
      cases lp with
      | stop e =>
        rw [e] at hit
        exact .inl ⟨hit, h' D accV m2 H' sd.gw sd.s sd.c hD0 sd.d sd.rl⟩
      | @go n' _ x _ acc1 _ _ S3 _ e ef rest =>
        rw [e] at hit
        obtain ⟨go, yl⟩ := hit
        refine .inr ⟨go, fun H'' => ∃ acc accV S2 m2, Lp (c2F C (wipeL ρ.v (slots t ++ slots t2)) ρ.bs t fc fi2 t2 fc2 fe) it n' (i + 1) acc S2 accF SF ∧ Std K ρ.bs r D m H m1 H1 acc S2 H'' m2 accV,
          fun H'' w => ⟨n', Nat.lt_succ_self _, w⟩, fun x' H3 y => ?_⟩
        obtain ⟨gy, sy, ry⟩ := yl x' H3 y
        have sd3 := sd.grow gy sy sd.c
        have A3 := (A1.gr sd3.gr sy sd.c).wipe (slots t ++ slots t2)
        obtain ⟨v, eb, ef⟩ := c2F_ok ef
        refine gT_ok A3 ry eb fun σ' A4 hw => ⟨(hw _ fun _ z => List.mem_append_left _ z).trans (wipe_idem _ _), ?_⟩
        rcases ef with ⟨e1, rfl⟩ | ⟨S4, S5, i2, k0, e1, e2, lpi⟩
        · exact ⟨⟨ρ.bs, v⟩, S2, m2, D :: r, A4, Post.okP e1 fun m4 H4 g4 s4 c4 => ite_ff ⟨acc1, accV, S3, m4, rest, sd3.grow g4 s4 c4⟩⟩
        · refine ⟨⟨ρ.bs, v⟩, S2, m2, D :: r, A4, Post.okP e1 fun m4 H4 g4 s4 c4 => ite_tt ?_⟩
          have sd4 := sd3.grow g4 s4 c4
          have A5 := A4.grow g4 s4 c4
          refine ⟨⟨ρ.bs, v⟩, S4, m4, D :: r, A5, Post.okP e2 fun m5 H5 g5 s5 c5 J1 hJ1 => ?_⟩
          have sd5 := sd4.grow g5 s5 c5
          have A6 := A5.grow g5 s5 c5
          refine ⟨fun j k H' => ∃ acc accV S2 m2, Lp (c1F C (wipeL v (slots t2)) ρ.bs t2 fc2 fe) i2 k j acc S2 acc1 S3 ∧ Std K ρ.bs r D m H m1 H1 acc S2 H' m2 accV ∧ Gr m5 (D :: r) H5 m2 (D :: r) H',
            ⟨k0, acc, accV, S5, m5, lpi, sd5, Gr.refl⟩, ?_⟩
          rintro j k H6 ⟨ac, acV, S6, m6, lp6, sd6, gr6⟩
          have hit6 := hJ1 m6 (D :: r) H6 gr6 S6 sd6.s j
          cases lp6 with
          | stop e6 =>
            rw [e6] at hit6
            exact .inl ⟨hit6, _, acV, _, m6, rest, sd6⟩
          | @go k' _ x6 _ ac1 _ _ S7 _ e6 ef6 rest6 =>
            rw [e6] at hit6
            obtain ⟨go6, yl6⟩ := hit6
            refine .inr ⟨go6, fun H' => ∃ acc accV S2 m2, Lp (c1F C (wipeL v (slots t2)) ρ.bs t2 fc2 fe) i2 k' (j + 1) acc S2 acc1 S3 ∧ Std K ρ.bs r D m H m1 H1 acc S2 H' m2 accV ∧ Gr m5 (D :: r) H5 m2 (D :: r) H',
              fun H'' w => ⟨k', Nat.lt_succ_self _, w⟩, fun x' H7 y => ?_⟩
            obtain ⟨gy7, sy7, ry7⟩ := yl6 x' H7 y
            have sd7 := sd6.grow gy7 sy7 sd6.c
            have gr7 := gr6.trans (Gr.of gy7)
            have A7 := (A6.gr gr7 sy7 sd6.c).wipe (slots t2)
            obtain ⟨w, eb7, ef7⟩ := c1F_ok ef6
            refine gT_ok A7 ry7 eb7 fun σ'' A8 hw7 => ⟨(hw7 _ fun _ z => z).trans (wipe_idem _ _), ?_⟩
            rcases ef7 with ⟨e7, rfl⟩ | ⟨S8, yd, e7, e8, rfl⟩
            · exact ⟨⟨ρ.bs, w⟩, S6, m6, D :: r, A8, Post.okP e7 fun m8 H8 g8 s8 c8 => ite_ff ⟨ac1, acV, S7, m8, rest6, sd7.grow g8 s8 c8, gr7.trans (Gr.of g8)⟩⟩
            · refine ⟨⟨ρ.bs, w⟩, S6, m6, D :: r, A8, Post.okP e7 fun m8 H8 g8 s8 c8 => ite_tt ?_⟩
              refine ⟨⟨ρ.bs, w⟩, S8, m8, D :: r, A8.grow g8 s8 c8, Post.okP e8 fun m9 H9 g9 s9 c9 yv ryv => ?_⟩
              have sd9 := (sd7.grow g8 s8 c8).grow g9 s9 c9
              have gr9 := (gr7.trans (Gr.of g8)).trans (Gr.of g9)
              have hl1 := rest6.len c1F_len
              have hl2 := rest.len c2F_len
              have hac := sd9.rl.length
              rw [List.length_reverse] at hac
              rw [List.length_cons] at hl1
              refine ⟨acV, sd9.d, by rw [sizeLine_eq]; omega, yd :: ac, acV ++ [yv], S7, m9, rest6, sd9.app hD0 hD ryv, gr9.wr (.inr ⟨List.mem_cons_self, ?_⟩)⟩
              exact ⟨accV, sd5.d⟩
end
section
variable {X : Cx} {XR : XRel} {E : XK} {C : Ctx} {tb : Tab} {N : List Str} {sc : Nms}
theorem dn_c2 (c : Cok X XR E C tb N sc) {elt tg iter tg1 iter1 : Expr} {ifs ifs1 : List Expr} {scope : Scope} {own : List (Str × Nat)} {pos : Pos} {fi fi2 : Env → M It} {t t2 : T} {fc fc2 : Env → M Bool} {fe : Env → M Ri.D}
    (hi : PI X tg iter (tI X.K XR E fi)) (ok : BlkOk X.N X.env.scope scope own) (ho : own.map (·.2) = slots t ++ slots t2)
    (hg : ∀ (s : Shared) (H : Hp) (A : Addr) (cl : List (Str × Addr)) (fp : List Addr), PG (X.blk s H scope (compEnvC scope cl A X.env) fp) tg (gT X.K t))
    (ht : ∀ (s : Shared) (H : Hp) (A : Addr) (cl : List (Str × Addr)) (fp : List Addr), PTs (X.blk s H scope (compEnvC scope cl A X.env) fp) ifs (tT X.K XR noX fc))
    (hi1 : ∀ (s : Shared) (H : Hp) (A : Addr) (cl : List (Str × Addr)) (fp : List Addr), PI (X.blk s H scope (compEnvC scope cl A X.env) fp) tg1 iter1 (tI X.K XR noX fi2))
    (hg1 : ∀ (s : Shared) (H : Hp) (A : Addr) (cl : List (Str × Addr)) (fp : List Addr), PG (X.blk s H scope (compEnvC scope cl A X.env) fp) tg1 (gT X.K t2))
    (ht1 : ∀ (s : Shared) (H : Hp) (A : Addr) (cl : List (Str × Addr)) (fp : List Addr), PTs (X.blk s H scope (compEnvC scope cl A X.env) fp) ifs1 (tT X.K XR noX fc2))
    (he : ∀ (s : Shared) (H : Hp) (A : Addr) (cl : List (Str × Addr)) (fp : List Addr), PE (X.blk s H scope (compEnvC scope cl A X.env) fp) elt (tE X.K XR noX fe))
    (hs : ∀ x, foldedSetIterable iter X.env x = pure x) (hs1 : ∀ env x, foldedSetIterable iter1 env x = pure x) :
    PE X (.ListComp elt [⟨tg, iter, ifs, 0⟩, ⟨tg1, iter1, ifs1, 0⟩] scope pos) (tN X.K XR E (c2R C fi t fc fi2 t2 fc2 fe)) := by
  refine (pe_lc2 (vs1 := slots t2) c.calm c.nd hi ok (fun i hi => by rw [ho]; exact List.mem_append_right _ hi) hg ht hi1 hg1 ht1 he hs hs1).imp fun σ H Q h => ?_
  rw [ho]
  exact c2_lc h
end
end Ri
set_option maxHeartbeats 1000000
namespace Ri
open PySem PySem.Spec PyProof.Rows L2

theorem refBs_mem {b : Nat} : ∀ {l : List D}, refBs b l = true ↔ ∀ x ∈ l, refB b x = true
  | [] => by
    constructor
    · intro _ x h
      cases h
    · intro _
      rfl
  | d :: l => by
    constructor
    · intro h x hx
      obtain ⟨h1, h2⟩ := two_and (show (refB b d && refBs b l) = true from h)
      rcases List.mem_cons.mp hx with rfl | hx
      · exact h1
      · exact refBs_mem.mp h2 x hx
    · intro h
      show (refB b d && refBs b l) = true
      rw [h d List.mem_cons_self, refBs_mem.mpr fun x hx => h x (List.mem_cons_of_mem _ hx)] <;> rfl
mutual
theorem refB_mono {a b : Nat} (h : a ≤ b) : ∀ d : D, refB a d = true → refB b d = true
  | .non, _ => rfl
  | .bl _, _ => rfl
  | .int _, _ => rfl
  | .str _, _ => rfl
  | .tup l, q => refBs_mono h l q
  | .lst l, q => refBs_mono h l q
  | .scr _, _ => rfl
  | .ref n, q => by
    have q : n < a := Nat.le_of_ble_eq_true (show Nat.ble (n + 1) a = true from q)
    show Nat.ble (n + 1) b = true
    exact Nat.ble_eq_true_of_le (by omega)
  | .rng _ _, _ => rfl
theorem refBs_mono {a b : Nat} (h : a ≤ b) : ∀ l : List D, refBs a l = true → refBs b l = true
  | [], _ => rfl
  | d :: l, q => by
    obtain ⟨h1, h2⟩ := two_and (show (refB a d && refBs a l) = true from q)
    show (refB b d && refBs b l) = true
    rw [refB_mono h d h1, refBs_mono h l h2] <;> rfl
end
theorem Cls.set {bs : List Nat} {S : Sto} {n : Nat} {l l' : List D} (c : Cls bs S) (hl : stoL S n = some l) (h : ∀ b ∈ bs, b ≤ n ∨ ∀ x ∈ l', refB b x = true) : Cls bs (S.set n (.lst l')) := fun b hb => by
  obtain ⟨h1, h2⟩ := c b hb
  refine ⟨by rw [List.length_set]; exact h1, fun k so hk e => ?_⟩
  by_cases e2 : n = k
  · subst e2
    have hlt := (List.getElem?_eq_some_iff.mp e).1
    rw [List.length_set] at hlt
    rw [List.getElem?_set_self hlt] at e
    cases e
    rcases h b hb with z | z
    · exact absurd hk (Nat.not_lt.mpr z)
    · exact refBs_mem.mpr z
  · rw [List.getElem?_set_ne e2] at e
    exact h2 k so hk e
theorem stoL_some {S : Sto} {n : Nat} {l : List D} (h : stoL S n = some l) : S[n]? = some (.lst l) := by
  unfold stoL at h
  split at h
  · rename_i k e
    cases h
    exact e
  · cases h
theorem Cls.old {bs : List Nat} {S : Sto} {n : Nat} {l : List D} (c : Cls bs S) (hl : stoL S n = some l) : ∀ b ∈ bs, b ≤ n ∨ ∀ x ∈ l, refB b x = true := fun b hb => by
  by_cases h : b ≤ n
  · exact .inl h
  · exact .inr (refBs_mem.mp ((c b hb).2 n _ (Nat.lt_of_not_le h) (stoL_some hl)))
theorem okPut_inv {bs : List Nat} {n : Nat} {d : D} (h : okPut bs n d = true) : ∀ b ∈ bs, b ≤ n ∨ refB b d = true := fun b hb => by
  have gen : (refB 0 d || bs.all fun b => Nat.ble b n || refB b d) = true → b ≤ n ∨ refB b d = true := fun h => by
    rcases Bool.or_eq_true_iff.mp h with h | h
    · exact .inr (refB_mono (Nat.zero_le b) d h)
    · rcases Bool.or_eq_true_iff.mp (List.all_eq_true.mp h b hb) with h | h
      · exact .inl (Nat.le_of_ble_eq_true h)
      · exact .inr h
  cases d with
  | int _ => exact .inr rfl
  | bl _ => exact .inr rfl
  | non => exact .inr rfl
  | str _ => exact .inr rfl
  | _ => exact gen h
section
variable {K : PySem.W.Frag} {XR : XRel} {E : XK} {bs : List Nat} {S : Sto} {m r : List Addr} {H : Hp}
/-- the n-th list of the store rewritten -/
theorem put_ok {n : Nat} {a : Addr} {l l' : List D} {xs ys : List V} (sm : SimS K H ⟨m, r⟩ S) (c : Cls bs S) (ha : m[n]? = some a) (hl : stoL S n = some l) (h : ∀ b ∈ bs, b ≤ n ∨ ∀ x ∈ l', refB b x = true) (rl : RelDs K H ⟨m, r⟩ l' ys) :
    Grow m H m (upd H a (.lst ys)) ∧ SimS K (upd H a (.lst ys)) ⟨m, r⟩ (S.set n (.lst l')) ∧ Cls bs (S.set n (.lst l')) := by
  have g : Grow m H m (upd H a (.lst ys)) := Grow.put (List.mem_of_getElem? ha)
  exact ⟨g, sm.put ha ⟨ys, upd_same, rels_grow g rl⟩, c.set hl h⟩
theorem ref_inv {n : Nat} {l : List D} {v : V} (sm : SimS K H ⟨m, r⟩ S) (rv : RelD K H ⟨m, r⟩ (.ref n) v) (hl : stoL S n = some l) : ∃ a xs, v = .ref a ∧ m[n]? = some a ∧ H a = some (.lst xs) ∧ RelDs K H ⟨m, r⟩ l xs := by
  obtain ⟨a, xs, e1, ha, rl⟩ := lstOf_inv sm rv (show lstOf S (.ref n) = some l from hl)
  obtain ⟨b, h1, h2⟩ := rv
  subst h2
  cases e1
  exact ⟨_, xs, rfl, h1, ha, rl⟩
theorem mem_set {α : Type} {l : List α} {j : Nat} {d x : α} (h : x ∈ l.set j d) : x ∈ l ∨ x = d := by
  obtain ⟨i, hi, e⟩ := List.getElem_of_mem h
  rw [List.getElem_set] at e
  split at e
  · exact .inr e.symm
  · exact .inl (by rw [← e]; exact List.getElem_mem _)
theorem setI_ok {x y d : D} {ov iv dv : V} {okk : Unit → List Addr → Sto → Hp → Prop} (sm : SimS K H ⟨m, r⟩ S) (c : Cls bs S) (rx : RelD K H ⟨m, r⟩ x ov) (ry : RelD K H ⟨m, r⟩ y iv) (rd : RelD K H ⟨m, r⟩ d dv) (q : Post K XR E bs r m H (setI bs x y d S) okk) :
    rSetL ov iv dv H fun H3 => ∃ S3, okk () m S3 H3 ∧ SimS K H3 ⟨m, r⟩ S3 ∧ Cls bs S3 ∧ Grow m H m H3 := by
  cases x with
  | ref n =>
    cases y with
    | int k =>
      have q : Post K XR E bs r m H (match stoL S n with
        | some l => (match ixNat l.length k with
          | some j => putS bs n (l.set j d) d S
          | none => .bad)
        | none => .bad) okk := q
      cases e : stoL S n with
      | none => rw [e] at q; exact q.elim
      | some l =>
        rw [e] at q
        dsimp only at q
        cases e2 : ixNat l.length k with
        | none => rw [e2] at q; exact q.elim
        | some j =>
          rw [e2] at q
          obtain ⟨a, xs, e3, h1, h2, rl⟩ := ref_inv sm rx e
          have q : Post K XR E bs r m H (if (okPut bs n d && limL (l.set j d)) = true then .ok () (S.set n (.lst (l.set j d))) else .bad) okk := q
          cases e4 : (okPut bs n d && limL (l.set j d)) with
          | false => rw [e4] at q; exact q.elim
          | true =>
            rw [e4] at q
            obtain ⟨k1, k2⟩ := two_and e4
            have hp := okPut_inv k1
            have hb : ∀ b ∈ bs, b ≤ n ∨ ∀ x ∈ l.set j d, refB b x = true := fun b hb => by
              rcases c.old e b hb with z | z
              · exact .inl z
              · rcases hp b hb with w | w
                · exact .inl w
                · refine .inr fun x hx => ?_
                  rcases mem_set hx with u | u
                  · exact z x u
                  · rw [u]; exact w
            obtain ⟨p1, p2, p3⟩ := put_ok (xs := xs) sm c h1 e hb (rl.set j rd)
            rw [ixN_at, rl.length] at e2
            exact ⟨a, xs, k, j, e3, ry, h2, e2, _, q m _ p1 p2 p3, p2, p3, p1⟩
    | _ => exact q.elim
  | _ => cases y <;> exact q.elim

theorem append_ok {x d : D} {ov dv : V} {Q : VK} (sm : SimS K H ⟨m, r⟩ S) (c : Cls bs S) (rx : RelD K H ⟨m, r⟩ x ov) (rd : RelD K H ⟨m, r⟩ d dv) (q : PostV K XR E bs r m H (mAppend bs x d S) Q) : tyV K "list" ov H ∧ rAppend ov [dv] H Q := by
  cases x with
  | ref n =>
    have q : Post K XR E bs r m H (match stoL S n with
      | some l => bnd (putS bs n (l ++ [d]) d) (fun _ => ret .non) S
      | none => .bad) fun d m' _ H' => ∀ v, RelD K H' ⟨m', r⟩ d v → Q v H' := q
    cases e : stoL S n with
    | none => rw [e] at q; exact q.elim
    | some l =>
      rw [e] at q
      obtain ⟨a, xs, rfl, h1, h2, rl⟩ := ref_inv sm rx e
      have q := Post.bind q
      have q : Post K XR E bs r m H (if (okPut bs n d && limL (l ++ [d])) = true then .ok () (S.set n (.lst (l ++ [d]))) else .bad) _ := q
      cases e4 : (okPut bs n d && limL (l ++ [d])) with
      | false => rw [e4] at q; exact q.elim
      | true =>
        rw [e4] at q
        obtain ⟨k1, k2⟩ := two_and e4
        have hp := okPut_inv k1
        have hz := LIM_line k2
        rw [List.length_append, List.length_singleton, rl.length] at hz
        have hb : ∀ b ∈ bs, b ≤ n ∨ ∀ x ∈ l ++ [d], refB b x = true := fun b hb => by
          rcases c.old e b hb with z | z
          · exact .inl z
          · rcases hp b hb with w | w
            · exact .inl w
            · refine .inr fun x hx => ?_
              rcases List.mem_append.mp hx with u | u
              · exact z x u
              · rw [List.mem_singleton.mp u]; exact w
        obtain ⟨p1, p2, p3⟩ := put_ok (xs := xs) sm c h1 e hb (rl.append (RelDs.one rd))
        exact ⟨.inl ⟨rfl, xs, SqL.of h2⟩, a, xs, dv, rfl, rfl, h2, by omega, Post.here (q m _ p1 p2 p3) p2 p3 _ rfl⟩
  | _ => exact q.elim
theorem pop_ok {x : D} {ov : V} {Q : VK} (sm : SimS K H ⟨m, r⟩ S) (c : Cls bs S) (rx : RelD K H ⟨m, r⟩ x ov) (q : PostV K XR E bs r m H (mPop x S) Q) : tyV K "list" ov H ∧ rPop ov [] H Q := by
  cases x with
  | ref n =>
    have q : PostV K XR E bs r m H (match stoL S n with
      | some l => (match l[l.length - 1]? with
        | some d => .ok d (S.set n (.lst l.dropLast))
        | none => .bad)
      | none => .bad) Q := q
    cases e : stoL S n with
    | none => rw [e] at q; exact q.elim
    | some l =>
      rw [e] at q
      dsimp only at q
      obtain ⟨a, xs, rfl, h1, h2, rl⟩ := ref_inv sm rx e
      cases e2 : l[l.length - 1]? with
      | none => rw [e2] at q; exact q.elim
      | some d =>
        rw [e2] at q
        obtain ⟨v, e3, rd⟩ := rl.get e2
        rw [rl.length] at e3
        have hb : ∀ b ∈ bs, b ≤ n ∨ ∀ x ∈ l.dropLast, refB b x = true := fun b hb => by
          rcases c.old e b hb with z | z
          · exact .inl z
          · exact .inr fun x hx => z x ((List.dropLast_sublist l).subset hx)
        obtain ⟨p1, p2, p3⟩ := put_ok (xs := xs) sm c h1 e hb rl.dropLast
        exact ⟨.inl ⟨rfl, xs, SqL.of h2⟩, a, xs, v, rfl, rfl, h2, e3, q m _ p1 p2 p3 v (rel_grow p1 rd)⟩
  | _ => exact q.elim
theorem popAt_ok {x y : D} {ov iv : V} {Q : VK} (sm : SimS K H ⟨m, r⟩ S) (c : Cls bs S) (rx : RelD K H ⟨m, r⟩ x ov) (ry : RelD K H ⟨m, r⟩ y iv) (q : PostV K XR E bs r m H (mPopAt x y S) Q) : tyV K "list" ov H ∧ rPopAt ov [iv] H Q := by
  cases x with
  | ref n =>
    cases y with
    | int i =>
      have q : PostV K XR E bs r m H (match stoL S n with
        | some l => (match ixNat l.length i with
          | some j => (match l[j]? with
            | some d => if okR i then .ok d (S.set n (.lst (l.eraseIdx j))) else .bad
            | none => .bad)
          | none => .bad)
        | none => .bad) Q := q
      cases e : stoL S n with
      | none => rw [e] at q; exact q.elim
      | some l =>
        rw [e] at q
        dsimp only at q
        obtain ⟨a, xs, rfl, h1, h2, rl⟩ := ref_inv sm rx e
        cases e0 : ixNat l.length i with
        | none => rw [e0] at q; exact q.elim
        | some j =>
          rw [e0] at q
          dsimp only at q
          cases e2 : l[j]? with
          | none => rw [e2] at q; exact q.elim
          | some d =>
            rw [e2] at q
            dsimp only at q
            cases e5 : okR i with
            | false => rw [e5] at q; exact q.elim
            | true =>
              rw [e5] at q
              obtain ⟨v, e3, rd⟩ := rl.get e2
              have hb : ∀ b ∈ bs, b ≤ n ∨ ∀ x ∈ l.eraseIdx j, refB b x = true := fun b hb => by
                rcases c.old e b hb with z | z
                · exact .inl z
                · exact .inr fun x hx => z x (List.mem_of_mem_eraseIdx hx)
              obtain ⟨p1, p2, p3⟩ := put_ok (xs := xs) sm c h1 e hb (rl.eraseIdx j)
              rw [ixN_at, rl.length] at e0
              have k1 := (ixN_seq e0).1
              have k2 : i.natAbs ≤ 1000000000 := Nat.le_of_ble_eq_true e5
              have k3 : (2 : Int) ^ 63 = 9223372036854775808 := by decide
              exact ⟨.inl ⟨rfl, xs, SqL.of h2⟩, a, xs, i, j, v, rfl, by rw [show iv = V.int i from ry], h2, by rw [k3]; omega, by rw [k3]; omega, k1, e3, q m _ p1 p2 p3 v (rel_grow p1 rd)⟩
    | _ => exact q.elim
  | _ => cases y <;> exact q.elim
end
section
variable {X : Cx} {XR : XRel} {E : XK} {C : Ctx} {tb : Tab} {N : List Str} {sc : Nms} {o e : Expr} {es : List Expr} {apos cpos : Pos} {f g : Env → M D} {fs : Env → M (List D)}
/-- what a method stands on: no super() -/
def plainO : Expr → Bool
  | .Call _ _ _ _ => false
  | _ => true
theorem plainO_ok {o : Expr} (h : plainO o = true) (name : Str) (env : PySem.Env) (w : Sem Value) : attributeBase o name env w = w := by
  unfold attributeBase
  cases o <;> first | rfl | (cases h)
theorem isLst_ok {K : PySem.W.Frag} {bs : List Nat} {S : Sto} {m r : List Addr} {H : Hp} {x : D} {v : V} {α : Type} {k : Unit → M α} {okk : α → List Addr → Sto → Hp → Prop} (sm : SimS K H ⟨m, r⟩ S) (rx : RelD K H ⟨m, r⟩ x v) (q : Post K XR E bs r m H (bnd (isLst x) k S) okk) :
    tyV K "list" v H ∧ Post K XR E bs r m H (k () S) okk := by
  cases x with
  | ref n =>
    cases e : stoL S n with
    | none =>
      have : isLst (.ref n) S = .bad := by unfold isLst; dsimp only; rw [e]
      rw [bnd_bad this] at q
      exact q.elim
    | some l =>
      have : isLst (.ref n) S = .ok () S := by unfold isLst; dsimp only; rw [e]
      rw [bnd_go this] at q
      obtain ⟨a, xs, rfl, h1, h2, rl⟩ := ref_inv sm rx e
      exact ⟨.inl ⟨rfl, xs, SqL.of h2⟩, q⟩
  | _ => exact q.elim
def methF (f : Env → M D) (fs : Env → M (List D)) (me : Me) : Env → M D := fun ρ => bnd (f ρ) fun x => bnd (isLst x) fun _ => bnd (fs ρ) fun ds => method ρ.bs me x ds
theorem ck_append (ho : PE X o (tE X.K XR E f)) (he : PE X e (tE X.K XR E g)) (hp : plainO o = true) (hs : noStar e = true) (hl : (apos.endLine == cpos.line) = true) :
    DE X XR E (.Call (.Attribute o "append" apos) [e] [] cpos) (vt (methF f (consF g fun _ => ret []) .append)) := by
  refine de_vt ((pe_bm PySem.F.plainAttrs_list PySem.F.slot_list_append PySem.F.type_list_append mt_append ho (one_arg he hs) (plainO_ok hp _ _ _) (by rw [noStar_ok hs] <;> rfl) hl (noStar_ok hs _ _) rfl).imp fun σ H Q q => ?_) rfl
  obtain ⟨ρ, S, m, r, A, q⟩ := q
  refine ⟨ρ, S, m, r, A, (Post.bind q).imp fun x m1 S1 H1 g1 s1 c1 q v rv => ?_⟩
  obtain ⟨ty, q⟩ := isLst_ok s1 rv q
  refine ⟨ty, ρ, S1, m1, r, A.grow g1 s1 c1, (Post.bind (Post.bind q)).imp fun d m2 S2 H2 g2 s2 c2 q u ru => ?_⟩
  have q : PostV X.K XR E ρ.bs r m2 H2 (mAppend ρ.bs x d S2) Q := Post.here (a := [d]) (S := S2) q s2 c2
  exact (append_ok s2 c2 (rel_grow g2 rv) ru q).2
theorem ck_popAt (ho : PE X o (tE X.K XR E f)) (he : PE X e (tE X.K XR E g)) (hp : plainO o = true) (hs : noStar e = true) (hl : (apos.endLine == cpos.line) = true) :
    DE X XR E (.Call (.Attribute o "pop" apos) [e] [] cpos) (vt (methF f (consF g fun _ => ret []) .popAt)) := by
  refine de_vt ((pe_bm PySem.F.plainAttrs_list PySem.F.slot_list_pop PySem.F.type_list_pop mt_popAt ho (one_arg he hs) (plainO_ok hp _ _ _) (by rw [noStar_ok hs] <;> rfl) hl (noStar_ok hs _ _) rfl).imp fun σ H Q q => ?_) rfl
  obtain ⟨ρ, S, m, r, A, q⟩ := q
  refine ⟨ρ, S, m, r, A, (Post.bind q).imp fun x m1 S1 H1 g1 s1 c1 q v rv => ?_⟩
  obtain ⟨ty, q⟩ := isLst_ok s1 rv q
  refine ⟨ty, ρ, S1, m1, r, A.grow g1 s1 c1, (Post.bind (Post.bind q)).imp fun d m2 S2 H2 g2 s2 c2 q u ru => ?_⟩
  have q : PostV X.K XR E ρ.bs r m2 H2 (mPopAt x d S2) Q := Post.here (a := [d]) (S := S2) q s2 c2
  exact (popAt_ok s2 c2 (rel_grow g2 rv) ru q).2
theorem ck_pop (ho : PE X o (tE X.K XR E f)) (hp : plainO o = true) (hl : (apos.endLine == cpos.line) = true) :
    DE X XR E (.Call (.Attribute o "pop" apos) [] [] cpos) (vt (methF f (fun _ => ret []) .pop)) := by
  refine de_vt ((pe_bm0 PySem.F.plainAttrs_list PySem.F.slot_list_pop PySem.F.type_list_pop mt_pop ho (plainO_ok hp _ _ _) hl).imp fun σ H Q q => ?_) rfl
  obtain ⟨ρ, S, m, r, A, q⟩ := q
  refine ⟨ρ, S, m, r, A, (Post.bind q).imp fun x m1 S1 H1 g1 s1 c1 q v rv => ?_⟩
  obtain ⟨ty, q⟩ := isLst_ok s1 rv q
  exact ⟨ty, (pop_ok s1 c1 rv q).2⟩
end

abbrev SF := List Nat → Vs → M (Fl × Vs)
def FlP (K : PySem.W.Frag) (r m' : List Addr) (D : Ends) (σ' : L2.St) (H' : Hp) : Fl → Prop
  | .nx => D.nx σ' H'
  | .brk => D.bk σ' H'
  | .cnt => D.ct σ' H'
  | .ret d => ∀ x, RelD K H' ⟨m', r⟩ d x → D.rt x H'
abbrev okF (K : PySem.W.Frag) (bs : List Nat) (r : List Addr) (D : Ends) : Fl × Vs → List Addr → Sto → Hp → Prop := fun p m' S' H' => ∀ σ', At K ⟨bs, p.2⟩ S' m' r σ' H' → FlP K r m' D σ' H' p.1
def tS (K : PySem.W.Frag) (XR : XRel) (E : XK) (f : SF) : TS := fun D σ H => ∃ bs v S m r, At K ⟨bs, v⟩ S m r σ H ∧ Post K XR E bs r m H (f bs v S) (okF K bs r D)
def tG (K : PySem.W.Frag) (XR : XRel) (E : XK) (f : List Nat → Vs → D → M Vs) : TG := fun x σ H Q => ∃ bs v S m r d, At K ⟨bs, v⟩ S m r σ H ∧ RelD K H ⟨m, r⟩ d x ∧ Post K XR E bs r m H (f bs v d S) fun v' m' S' H' => ∀ σ', At K ⟨bs, v'⟩ S' m' r σ' H' → Q σ' H'
def tGs (K : PySem.W.Frag) (XR : XRel) (E : XK) (f : List Nat → Vs → List D → M Vs) : TGs := fun xs σ H Q => ∃ bs v S m r ds, At K ⟨bs, v⟩ S m r σ H ∧ RelDs K H ⟨m, r⟩ ds xs ∧ Post K XR E bs r m H (f bs v ds S) fun v' m' S' H' => ∀ σ', At K ⟨bs, v'⟩ S' m' r σ' H' → Q σ' H'
theorem _root_.L2.PG.imp {X : Cx} {e : Expr} {t t' : TG} (h : PG X e t) (f : ∀ x σ H Q, t' x σ H Q → t x σ H Q) : PG X e t' := ⟨fun pins s σ H v u Q I r q => h.run pins s σ H v u Q I r (f v σ H Q q)⟩
theorem _root_.L2.PGs.imp {X : Cx} {e : List Expr} {t t' : TGs} (h : PGs X e t) (f : ∀ x σ H Q, t' x σ H Q → t x σ H Q) : PGs X e t' := ⟨fun pins s σ H v u Q I r q => h.run pins s σ H v u Q I r (f v σ H Q q)⟩
section
variable {X : Cx} {XR : XRel} {E : XK} {C : Ctx} {tb : Tab} {N : List Str} {sc : Nms} {o e : Expr} {es : List Expr} {pos : Pos} {f g : Env → M D}
theorem sg_nm (c : Cok X XR E C tb N sc) {i : Nat} {x : Str} (h : okLoc N sc i x = true) : PG X (.Name x pos) (tG X.K XR E fun bs v d => ret (v.set i (some d))) := (pg_nm c h).imp fun x σ H Q q => by
  obtain ⟨bs, v, S, m, r, d, A, rx, q⟩ := q
  exact Post.here q A.sto A.cl _ (At.set (ρ := ⟨bs, v⟩) A rx)
def ixG (f g : Env → M D) : List Nat → Vs → D → M Vs := fun bs v d => bnd (f ⟨bs, v⟩) fun x => bnd (g ⟨bs, v⟩) fun y => bnd (setI bs x y d) fun _ => ret v
theorem sg_ix (ho : PE X o (tE X.K XR E f)) (hi : PE X e (tE X.K XR E g)) (hp : plainIx e = true) : PG X (.Subscript o e pos) (tG X.K XR E (ixG f g)) := by
  refine (pg_sub ho hi set_list (by intro v; cases e <;> first | rfl | (cases hp))).imp fun x σ H Q q => ?_
  obtain ⟨bs, v, S, m, r, d, A, rx, q⟩ := q
  refine ⟨⟨bs, v⟩, S, m, r, A, (Post.bind q).imp fun x m1 S1 H1 g1 s1 c1 q ov ro => ?_⟩
  refine ⟨⟨bs, v⟩, S1, m1, r, A.grow g1 s1 c1, (Post.bind q).imp fun y m2 S2 H2 g2 s2 c2 q iv ri => ?_⟩
  obtain ⟨p, xs, k, j, h1, h2, h3, h4, S3, q, s3, c3, g3⟩ := setI_ok s2 c2 (rel_grow g2 ro) ri (rel_grow g2 (rel_grow g1 rx)) (Post.bind q)
  refine ⟨p, xs, k, j, h1, h2, h3, h4, ?_⟩
  exact Post.here q s3 c3 σ (((A.grow g1 s1 c1).grow g2 s2 c2).grow g3 s3 c3)
theorem sgs_nil : PGs X [] (tGs X.K XR E fun bs v ds => match ds with
    | [] => ret v
    | _ => bad) := pgs_nil.imp fun xs σ H Q q => by
  obtain ⟨bs, v, S, m, r, ds, A, rx, q⟩ := q
  cases ds with
  | nil => exact ⟨rx, Post.here q A.sto A.cl σ A⟩
  | cons d ds => exact q.elim
def consG (f : List Nat → Vs → D → M Vs) (g : List Nat → Vs → List D → M Vs) : List Nat → Vs → List D → M Vs := fun bs v ds => match ds with
    | d :: ds => bnd (f bs v d) fun v => g bs v ds
    | _ => bad
theorem sgs_cons {f : List Nat → Vs → D → M Vs} {g : List Nat → Vs → List D → M Vs} (h1 : PG X e (tG X.K XR E f)) (h2 : PGs X es (tGs X.K XR E g)) (hs : noStar e = true) : PGs X (e :: es) (tGs X.K XR E (consG f g)) := by
  refine (pgs_cons h1 h2 (by cases e <;> first | rfl | (cases hs))).imp fun xs σ H Q q => ?_
  obtain ⟨bs, v, S, m, r, ds, A, rx, q⟩ := q
  cases ds with
  | nil => exact q.elim
  | cons d ds =>
    obtain ⟨x, t, e1, h1, h2⟩ := rx
    refine ⟨x, t, e1, bs, v, S, m, r, d, A, h1, (Post.bind q).imp fun v' m1 S1 H1 g1 s1 c1 q σ' A' => ?_⟩
    exact ⟨bs, v', S1, m1, r, ds, A', rels_grow g1 h2, q⟩
theorem noStars_none {env : PySem.Env} : ∀ {es : List Expr}, (es.all noStar) = true → (assignEach es env).length = es.length ∧ (assignEach es env).findIdx? (·.1) = none
  | [], _ => ⟨rfl, rfl⟩
  | e :: es, h => by
    obtain ⟨h1, h2⟩ := two_and (show (noStar e && es.all noStar) = true from h)
    obtain ⟨i1, i2⟩ := noStars_none (env := env) h2
    have e1 : assignEach (e :: es) env = (false, assign e env) :: assignEach es env := by cases e <;> first | rfl | (cases h1)
    rw [e1]
    refine ⟨by rw [List.length_cons, i1]; rfl, ?_⟩
    rw [List.findIdx?_cons, i2] <;> rfl
def tpG (n : Nat) (g : List Nat → Vs → List D → M Vs) : List Nat → Vs → D → M Vs := fun bs v d => match d with
    | .tup ds => if ds.length == n then g bs v ds else bad
    | _ => bad
theorem sg_tp (hc : X.calm = true) {k : Nat} {g : List Nat → Vs → List D → M Vs} {n : Nat} (h : PGs X es (tGs X.K XR E g)) (hs : (es.all noStar) = true) (hl : n = es.length) : PG X (.Tuple es k pos) (tG X.K XR E (tpG n g)) := by
  obtain ⟨i1, i2⟩ := noStars_none (env := X.env) hs
  refine (pg_tup hc h i1 i2).imp fun x σ H Q q => ?_
  obtain ⟨bs, v, S, m, r, d, A, rx, q⟩ := q
  cases d with
  | tup ds =>
    obtain ⟨a, xs, rfl, ta, rl⟩ := rx
    have q : Post X.K XR E bs r m H ((if (ds.length == n) = true then g bs v ds else bad) S) fun v' m' S' H' => ∀ σ', At X.K ⟨bs, v'⟩ S' m' r σ' H' → Q σ' H' := q
    obtain ⟨h1, q⟩ := okIf q
    have h1 : ds.length = n := eq_of_beq h1
    exact ⟨a, xs, rfl, ta.sq, by rw [← rl.length, h1, hl], bs, v, S, m, r, ds, A, rl, q⟩
  | _ => exact q.elim
end
end Ri
set_option maxHeartbeats 1000000
namespace Ri
open PySem PySem.Spec PyProof.Rows L2

/-- the context of statements -/
structure Sok (X : Cx) (XR : XRel) (E : XK) (C : Ctx) (tb : Tab) (N : List Str) (sc : Nms) : Prop where
  ck : Cok X XR E C tb N sc
  own : PassesOwn (model X.prog X.w) X.A X.env X.xe
  tk : Takes X (fun cls d σ H => E cls d H)
  names : X.env.scope.names = sc
  kind : X.env.scope.kind = .function
  stk : X.stack = X.env :: X.outer
  fr : X.env.frame = some X.env.locals
  nex : X.ex = []
def lclB (sc : Nms) (x : Str) : Bool := match sc.lookup x with
  | some .local => true
  | _ => false
theorem lcl_inv {sc : Nms} {x : Str} (h : lclB sc x = true) : sc.lookup x = some .local := by
  unfold lclB at h
  split at h
  · assumption
  · cases h
theorem lcl_beq (sc : Nms) (x : Str) : (sc.lookup x == some NameKind.local) = lclB sc x := by
  unfold lclB
  cases sc.lookup x with
  | none => rfl
  | some k => cases k <;> rfl
/-- a comprehension stored at once -/
def swB (sc : Nms) (y : Str) (py : Pos) (e : Expr) : Bool := match e with
  | .ListComp _ _ scope pos => lclB sc y && (py.line == pos.line) && !(scope.names.any fun (n, k) => n == y && (k == .local || k == .cell))
  | _ => false
def noSD : Expr → Bool
  | .SetComp _ _ _ _ => false
  | .DictComp _ _ _ _ _ => false
  | _ => true
theorem blk_fn {env : PySem.Env} (h : env.scope.kind = .function) : env.blockKind = .function := by
  unfold Env.blockKind; rw [h] <;> rfl
theorem sw_eq {sc : Nms} {y : Str} {py : Pos} {e : Expr} {l : Nat} {env : PySem.Env} (hn : env.scope.names = sc) (hk : env.scope.kind = .function) (h : noSD e = true) : swapsWith e (some (.Name y py)) l env = pure (swB sc y py e) := by
  cases e with
  | ListComp elt gs scope pos =>
    have ky : env.kindOf y = sc.lookup y := by show env.scope.names.lookup y = _; rw [hn]
    unfold swapsWith
    simp only [blk_fn hk, ky]
    show pure _ = pure _
    congr 1
    unfold swB
    rw [lcl_beq] <;> rfl
  | SetComp _ _ _ _ => cases h
  | DictComp _ _ _ _ _ => cases h
  | _ => rfl
section
variable {X : Cx} {XR : XRel} {E : XK} {C : Ctx} {tb : Tab} {N : List Str} {sc : Nms} {o e tg : Expr} {es : List Expr} {pos : Pos} {f : Env → M D}
def asgF (f : Env → M D) (g : List Nat → Vs → D → M Vs) : SF := fun bs v => bnd (f ⟨bs, v⟩) fun d => bnd (g bs v d) fun v => ret (.nx, v)
theorem asg_ok {K : PySem.W.Frag} {g : List Nat → Vs → D → M Vs} {D : Ends} {σ : L2.St} {H : Hp} (h : tS K XR E (asgF f g) D σ H) : tE K XR E f σ H fun x H1 => tG K XR E g x σ H1 D.nx := by
  obtain ⟨bs, v, S, m, r, A, q⟩ := h
  refine ⟨⟨bs, v⟩, S, m, r, A, (Post.bind q).imp fun d m1 S1 H1 g1 s1 c1 q x rx => ?_⟩
  refine ⟨bs, v, S1, m1, r, d, A.grow g1 s1 c1, rx, (Post.bind q).imp fun v' m2 S2 H2 g2 s2 c2 q σ' A' => ?_⟩
  exact Post.here q s2 c2 σ' A'
def nmG (i : Nat) : List Nat → Vs → D → M Vs := fun _ v d => ret (v.set i (some d))
theorem nmG_ok {K : PySem.W.Frag} {i : Nat} {x : V} {σ : L2.St} {H : Hp} {Q : L2.St → Hp → Prop} (q : tG K XR E (nmG i) x σ H Q) : gName i x σ H Q := by
  obtain ⟨bs, v, S, m, r, d, A, rx, q⟩ := q
  exact Post.here q A.sto A.cl _ (At.set (ρ := ⟨bs, v⟩) A rx)
/-- name = value -/
theorem ds_set (s : Sok X XR E C tb N sc) {i : Nat} {y : Str} {py : Pos} (h : okLoc N sc i y = true) (he : PE X e (tE X.K XR E f)) (hn : noSD e = true) (hw : swB sc y py e = false) : PS X (.Assign [.Name y py] e pos) (tS X.K XR E (asgF f (nmG i))) := by
  obtain ⟨h1, h2⟩ := two_and h
  refine (ps_set s.ck.nd (by rw [s.ck.hN]; exact at_inv h1) (s.ck.loc y h2).1 he (by rw [sw_eq s.names s.kind hn, hw]) (s.ck.loc y h2).2).imp fun D σ H q => ?_
  obtain ⟨ρ, S, m, r, A, q⟩ := asg_ok q
  exact ⟨ρ, S, m, r, A, q.imp fun d m1 S1 H1 g1 s1 c1 q x rx => nmG_ok (q x rx)⟩
/-- what comes, frozen as a value -/
def lstF (fs : Env → M (List D)) : Env → M D := fun ρ => bnd (fs ρ) fun l => ret (.lst l)
def refF (fs : Env → M (List D)) : Env → M D := fun ρ => bnd (fs ρ) alloc
/-- target = value, the target a subscript or a tuple -/
def tgC : Expr → Bool
  | .Subscript _ _ _ => true
  | .Tuple _ _ _ => true
  | _ => false
def isTupE : Expr → Bool
  | .Tuple _ _ _ => true
  | _ => false
theorem soleNo {l : Nat} {env : PySem.Env} (h : tgC tg = true) (hn : noSD e = true) : swapsWithSole [tg] e l env = pure false := by
  cases tg with
  | Subscript _ _ _ => cases e <;> first | rfl | (cases hn)
  | Tuple _ _ _ => cases e <;> first | rfl | (cases hn)
  | _ => cases h
theorem swapNo {env : PySem.Env} (h : isTupE tg = false ∨ isTupE e = false) (ht : tgC tg = true) : swappedStores [tg] e env = pure none := by
  cases tg with
  | Subscript _ _ _ => rfl
  | Tuple _ _ _ =>
    cases e with
    | Tuple _ _ _ => rcases h with h | h <;> cases h
    | _ => rfl
  | _ => cases ht
theorem storeOne {env : PySem.Env} (h : tgC tg = true) : (assignEach [tg] env).map (·.2) = [assign tg env] := by
  cases tg <;> first | rfl | (cases h)
theorem ds_asg {g : List Nat → Vs → D → M Vs} (he : PE X e (tE X.K XR E f)) (hg : PG X tg (tG X.K XR E g)) (ht : tgC tg = true) (hn : noSD e = true) (hw : swappedStores [tg] e X.env = pure none) : PS X (.Assign [tg] e pos) (tS X.K XR E (asgF f g)) :=
  (ps_asg he hg (soleNo ht hn) hw (storeOne ht)).imp fun D σ H q => asg_ok q
/-- how a tuple's stores go: 0 one after another, 1 swapped, 2 it can't be said -/
def swpB (sc : Nms) (ts vs : List Expr) : Nat :=
  if !(ts.length == 2 || ts.length == 3) || vs.length != ts.length then 0 else
  if vs.any fun | .Starred .. => true | _ => false then 0 else
  let line := (ts.head?.map (·.pos.line)).getD 0
  let names := ts.filterMap fun
    | .Name id pos => if lclB sc id && pos.line == line then some id else none
    | _ => none
  if names.length != ts.length || names.eraseDups.length != names.length then 0 else
  if vs.all (foldedForSure 8) then 0 else
  if vs.all (constantsAlone 8) then 2 else 1
theorem swp_eq {sc : Nms} {ts vs : List Expr} {k k' : Nat} {p p' : Pos} {env : PySem.Env} (hn : env.scope.names = sc) (hk : env.scope.kind = .function) (h : swpB sc ts vs = 0) : swappedStores [.Tuple ts k p] (.Tuple vs k' p') env = pure none := by
  have kk : ∀ id, (env.kindOf id == some .local) = lclB sc id := fun id => by
    rw [← lcl_beq]
    show (env.scope.names.lookup id == _) = _
    rw [hn]
  have bf : (env.blockKind != .function) = false := by rw [blk_fn hk] <;> rfl
  unfold swpB at h
  unfold swappedStores
  simp only [bf, Bool.or_false, kk]
  split at h
  · rename_i h1
    exact if_pos h1
  · rename_i h1
    refine (if_neg h1).trans ?_
    split at h
    · rename_i h2
      exact if_pos h2
    · rename_i h2
      refine (if_neg h2).trans ?_
      dsimp only at h
      split at h
      · rename_i h3
        exact if_pos h3
      · rename_i h3
        refine (if_neg h3).trans ?_
        split at h
        · rename_i h4
          exact if_pos h4
        · split at h <;> cases h
/-- .. swapped, with these names -/
theorem swp_one {sc : Nms} {ts vs : List Expr} {k k' : Nat} {p p' : Pos} {env : PySem.Env} (hn : env.scope.names = sc) (hk : env.scope.kind = .function) (h : swpB sc ts vs = 1) : swappedStores [.Tuple ts k p] (.Tuple vs k' p') env = pure (some (ts.filterMap fun
    | .Name id pos => if lclB sc id && pos.line == (ts.head?.map (·.pos.line)).getD 0 then some id else none
    | _ => none)) ∧ (ts.filterMap fun
    | .Name id pos => if lclB sc id && pos.line == (ts.head?.map (·.pos.line)).getD 0 then some id else none
    | _ => none).length = ts.length := by
  have kk : ∀ id, (env.kindOf id == some .local) = lclB sc id := fun id => by
    rw [← lcl_beq]
    show (env.scope.names.lookup id == _) = _
    rw [hn]
  have bf : (env.blockKind != .function) = false := by rw [blk_fn hk] <;> rfl
  unfold swpB at h
  unfold swappedStores
  simp only [bf, Bool.or_false, kk]
  split at h
  · cases h
  · rename_i h1
    split at h
    · cases h
    · rename_i h2
      dsimp only at h
      split at h
      · cases h
      · rename_i h3
        split at h
        · cases h
        · rename_i h4
          split at h
          · cases h
          · rename_i h5
            refine ⟨(if_neg h1).trans ((if_neg h2).trans ((if_neg h3).trans ((if_neg h4).trans (if_neg h5)))), ?_⟩
            rw [Bool.or_eq_true, not_or] at h3
            have h3 := h3.1
            exact Classical.byContradiction fun e => h3 (bne_iff_ne.mpr e)
def nilG : List Nat → Vs → List D → M Vs := fun _ v ds => match ds with
    | [] => ret v
    | _ => bad
def tupF (fs : Env → M (List D)) : Env → M D := fun ρ => bnd (fs ρ) fun l => if limL l then ret (.tup l) else bad
theorem par_inv {K : PySem.W.Frag} {n : Nat} {fs : Env → M (List D)} {g : List Nat → Vs → List D → M Vs} {D : Ends} {σ : L2.St} {H : Hp} (h : tS K XR E (asgF (tupF fs) (tpG n g)) D σ H) : tA K XR E fs σ H fun xs H1 => ∃ bs v S m r ds, At K ⟨bs, v⟩ S m r σ H1 ∧ RelDs K H1 ⟨m, r⟩ ds xs ∧
    ds.length = n ∧ Post K XR E bs r m H1 (bnd (g bs v ds) (fun v => ret (Fl.nx, v)) S) (okF K bs r D) := by
  obtain ⟨bs, v, S, m, r, A, q⟩ := h
  refine ⟨⟨bs, v⟩, S, m, r, A, (Post.bind (Post.bind q)).imp fun ds m1 S1 H1 g1 s1 c1 q xs rx => ?_⟩
  obtain ⟨hl, q⟩ := limIf q
  have q : Post K XR E bs r m1 H1 (bnd (if (ds.length == n) = true then g bs v ds else bad) (fun v => ret (Fl.nx, v)) S1) (okF K bs r D) := Post.here (a := Ri.D.tup ds) (S := S1) q s1 c1
  cases hn : (ds.length == n) with
  | false => rw [hn] at q; exact q.elim
  | true =>
    rw [hn] at q
    exact ⟨bs, v, S1, m1, r, ds, A.grow g1 s1 c1, rx, eq_of_beq hn, q⟩
theorem at_ne {N : List Str} {i j : Nat} {x y : Str} (hi : N[i]? = some x) (hj : N[j]? = some y) (h : x ≠ y) : i ≠ j := fun e => h (by rw [e] at hi; rw [hi] at hj; exact Option.some.inj hj)
theorem fm_two {P : Str → Pos → Bool} {x y : Str} {px py : Pos} (h : ([Expr.Name x px, .Name y py].filterMap fun
    | .Name id pos => if P id pos = true then some id else none
    | _ => none).length = 2) : P x px = true ∧ P y py = true := by
  cases h1 : P x px <;> cases h2 : P y py <;> simp [List.filterMap_cons, h1, h2] at h ⊢
theorem fm_three {P : Str → Pos → Bool} {x y z : Str} {px py pz : Pos} (h : ([Expr.Name x px, .Name y py, .Name z pz].filterMap fun
    | .Name id pos => if P id pos = true then some id else none
    | _ => none).length = 3) : P x px = true ∧ P y py = true ∧ P z pz = true := by
  cases h1 : P x px <;> cases h2 : P y py <;> cases h3 : P z pz <;> simp [List.filterMap_cons, h1, h2, h3] at h ⊢
theorem ds_par2 (s : Sok X XR E C tb N sc) {i j : Nat} {x y : Str} {px py pt pt2 : Pos} {kt k2 : Nat} {a b : Expr} {x1 : Nat} {fs : Env → M (List D)} (hi : okLoc N sc i x = true) (hj : okLoc N sc j y = true) (hij : i ≠ j) (ha : PA X [a, b] (tA X.K XR E fs))
    (hw : swpB sc [.Name x px, .Name y py] [a, b] = 1) : PS X (.Assign [.Tuple [.Name x px, .Name y py] kt pt] (.Tuple [a, b] k2 pt2) pos) (tS X.K XR E (asgF (tupF fs) (tpG 2 (consG (nmG i) (consG (nmG j) nilG))))) := by
  obtain ⟨w1, w2⟩ := swp_one (k := kt) (k' := k2) (p := pt) (p' := pt2) s.names s.kind hw
  obtain ⟨l1, l2⟩ := fm_two w2
  have lx := lcl_inv (two_and l1).1
  have ly := lcl_inv (two_and l2).1
  have e : ([Expr.Name x px, .Name y py].filterMap fun
    | .Name id pos => if (lclB sc id && pos.line == (([Expr.Name x px, .Name y py]).head?.map (·.pos.line)).getD 0) = true then some id else none
    | _ => none) = [x, y] := by simp only [List.filterMap_cons, l1, l2] <;> rfl
  rw [e] at w1
  refine (ps_par s.ck.calm s.ck.nd (by rw [s.ck.hN]; exact at_inv (two_and hi).1) (by rw [s.ck.hN]; exact at_inv (two_and hj).1) hij (by rw [s.names]; exact lx) (by rw [s.names]; exact ly) ha w1).imp fun D σ H q => ?_
  obtain ⟨ρ, S, m, r, A, q⟩ := par_inv q
  refine ⟨ρ, S, m, r, A, q.imp fun ds m1 S1 H1 g1 s1 c1 q xs rx => ?_⟩
  obtain ⟨bs, v, S2, m2, r2, ds2, A2, rx2, _, q⟩ := q xs rx
  match ds2, rx2, q with
  | [d1, d2], rx2, q =>
    obtain ⟨u1, u2, rfl, h1, h2⟩ := two_inv rx2
    exact ⟨u1, u2, rfl, Post.here (S := S2) q A2.sto A2.cl _ (At.set (ρ := ⟨bs, v.set i (some d1)⟩) (At.set (ρ := ⟨bs, v⟩) A2 h1) h2)⟩
  | [], _, q => exact q.elim
  | [_], _, q => exact q.elim
  | _ :: _ :: _ :: _, _, q => exact q.elim
theorem three_inv {K : PySem.W.Frag} {H : Hp} {p : Pl} {d e g : D} {vs : List V} (h : RelDs K H p [d, e, g] vs) : ∃ v u w, vs = [v, u, w] ∧ RelD K H p d v ∧ RelD K H p e u ∧ RelD K H p g w := by
  obtain ⟨v, r, q, h1, h2⟩ := h
  obtain ⟨u, w, q2, h3, h4⟩ := two_inv h2
  exact ⟨v, u, w, by rw [q, q2], h1, h3, h4⟩
theorem ds_par3 (s : Sok X XR E C tb N sc) {i j l : Nat} {x y z : Str} {px py pz pt pt2 : Pos} {kt k2 : Nat} {a b c : Expr} {fs : Env → M (List D)} (hi : okLoc N sc i x = true) (hj : okLoc N sc j y = true) (hl : okLoc N sc l z = true) (hij : i ≠ j) (hil : i ≠ l) (hjl : j ≠ l) (ha : PA X [a, b, c] (tA X.K XR E fs))
    (hw : swpB sc [.Name x px, .Name y py, .Name z pz] [a, b, c] = 1) : PS X (.Assign [.Tuple [.Name x px, .Name y py, .Name z pz] kt pt] (.Tuple [a, b, c] k2 pt2) pos) (tS X.K XR E (asgF (tupF fs) (tpG 3 (consG (nmG i) (consG (nmG j) (consG (nmG l) nilG)))))) := by
  obtain ⟨w1, w2⟩ := swp_one (k := kt) (k' := k2) (p := pt) (p' := pt2) s.names s.kind hw
  obtain ⟨l1, l2, l3⟩ := fm_three w2
  have lx := lcl_inv (two_and l1).1
  have ly := lcl_inv (two_and l2).1
  have lz := lcl_inv (two_and l3).1
  have e : ([Expr.Name x px, .Name y py, .Name z pz].filterMap fun
    | .Name id pos => if (lclB sc id && pos.line == (([Expr.Name x px, .Name y py, .Name z pz]).head?.map (·.pos.line)).getD 0) = true then some id else none
    | _ => none) = [x, y, z] := by simp only [List.filterMap_cons, l1, l2, l3] <;> rfl
  rw [e] at w1
  refine (ps_par3 s.ck.calm s.ck.nd (by rw [s.ck.hN]; exact at_inv (two_and hi).1) (by rw [s.ck.hN]; exact at_inv (two_and hj).1) (by rw [s.ck.hN]; exact at_inv (two_and hl).1) hij hil hjl (by rw [s.names]; exact lx) (by rw [s.names]; exact ly) (by rw [s.names]; exact lz) ha w1).imp fun D σ H q => ?_
  obtain ⟨ρ, S, m, r, A, q⟩ := par_inv q
  refine ⟨ρ, S, m, r, A, q.imp fun ds m1 S1 H1 g1 s1 c1 q xs rx => ?_⟩
  obtain ⟨bs, v, S2, m2, r2, ds2, A2, rx2, _, q⟩ := q xs rx
  match ds2, rx2, q with
  | [d1, d2, d3], rx2, q =>
    obtain ⟨u1, u2, u3, rfl, h1, h2, h3⟩ := three_inv rx2
    exact ⟨u1, u2, u3, rfl, Post.here (S := S2) q A2.sto A2.cl _ (At.set (ρ := ⟨bs, (v.set i (some d1)).set j (some d2)⟩) (At.set (ρ := ⟨bs, v.set i (some d1)⟩) (At.set (ρ := ⟨bs, v⟩) A2 h1) h2) h3)⟩
  | [], _, q => exact q.elim
  | [_], _, q => exact q.elim
  | [_, _], _, q => exact q.elim
  | _ :: _ :: _ :: _ :: _, _, q => exact q.elim

def ipM (op : Operator) : TIp := match op with
  | .Add => ipI fun i j => i + j
  | .Sub => ipI fun i j => i - j
  | .Mult => fun x y H Q => ∃ i j, x = .int i ∧ y = .int j ∧ CMulW i j ∧ Q (.int (i * j)) H
  | _ => fun _ _ _ _ => False
theorem ip_ok : ∀ op, PIp X op (ipM op)
  | .Add => ip_add
  | .Sub => ip_sub
  | .Mult => by
    intro pins s σ H x y v u Q I r1 r2 h
    obtain ⟨i, j, rfl, rfl, hc, q⟩ := h
    obtain ⟨t, rfl⟩ := r1
    obtain ⟨t', rfl⟩ := r2
    exact imul_int ⟨.int _, H, I.tok _, ⟨_, rfl⟩, q⟩ hc.ok
  | .Div => fun _ _ _ _ _ _ _ _ _ _ _ _ h => h.elim
  | .FloorDiv => fun _ _ _ _ _ _ _ _ _ _ _ _ h => h.elim
  | .Mod => fun _ _ _ _ _ _ _ _ _ _ _ _ h => h.elim
  | .Pow => fun _ _ _ _ _ _ _ _ _ _ _ _ h => h.elim
  | .LShift => fun _ _ _ _ _ _ _ _ _ _ _ _ h => h.elim
  | .RShift => fun _ _ _ _ _ _ _ _ _ _ _ _ h => h.elim
  | .BitOr => fun _ _ _ _ _ _ _ _ _ _ _ _ h => h.elim
  | .BitXor => fun _ _ _ _ _ _ _ _ _ _ _ _ h => h.elim
  | .BitAnd => fun _ _ _ _ _ _ _ _ _ _ _ _ h => h.elim
  | .MatMult => fun _ _ _ _ _ _ _ _ _ _ _ _ h => h.elim
theorem aug_ok {K : PySem.W.Frag} {H : Hp} {p : Pl} {o : Op} {x y z : D} {v u : V} {Q : VK} (rx : RelD K H p x v) (ry : RelD K H p y u) (e : augD o x y = some z) (q : ∀ w, RelD K H p z w → Q w H) : ipM (opy o) v u H Q := by
  cases x with
  | int i =>
    cases y with
    | int j =>
      cases o with
      | add => cases e; exact ⟨i, j, rx, ry, q _ rfl⟩
      | sub => cases e; exact ⟨i, j, rx, ry, q _ rfl⟩
      | mul =>
        obtain ⟨h1, h2⟩ := some_if (show (if (sml i && sml j) = true then some (D.int (i * j)) else none) = some z from e)
        subst h2
        exact ⟨i, j, rx, ry, fl_mul (two_and h1).1 (two_and h1).2, q _ rfl⟩
      | _ => cases e
    | _ => cases e
  | _ => cases y <;> cases e
def augF (i : Nat) (o : Op) (f : Env → M D) : SF := fun bs v => match v[i]? with
    | some (some x) => bnd (f ⟨bs, v⟩) fun y => bnd (ofO (augD o x y)) fun z => ret (Fl.nx, v.set i (some z))
    | _ => bad
theorem ds_aug (s : Sok X XR E C tb N sc) {i : Nat} {y : Str} {py : Pos} {op : Op} (h : okLoc N sc i y = true) (he : PE X e (tE X.K XR E f)) : PS X (.AugAssign (.Name y py) (opy op) e pos) (tS X.K XR E (augF i op f)) := by
  obtain ⟨h1, h2⟩ := two_and h
  refine (ps_aug s.ck.nd (by rw [s.ck.hN]; exact at_inv h1) (s.ck.loc y h2).1 he (ip_ok (opy op)) (s.ck.loc y h2).2).imp fun D σ H q => ?_
  obtain ⟨bs, v, S, m, r, A, q⟩ := q
  have q : Post X.K XR E bs r m H ((match v[i]? with
    | some (some x) => bnd (f ⟨bs, v⟩) fun y => bnd (ofO (augD op x y)) fun z => ret (Fl.nx, v.set i (some z))
    | _ => bad) S) (okF X.K bs r D) := q
  cases ev : v[i]? with
  | none => rw [ev] at q; exact q.elim
  | some o =>
    cases o with
    | none => rw [ev] at q; exact q.elim
    | some x =>
      rw [ev] at q
      obtain ⟨w, e1, rw'⟩ := A.var i x ev
      refine ⟨w, e1, ⟨bs, v⟩, S, m, r, A, (Post.bind q).imp fun y m1 S1 H1 g1 s1 c1 q u ru => ?_⟩
      obtain ⟨z, e2, q⟩ := ofO_bnd q
      have A1 := A.grow g1 s1 c1
      exact aug_ok (rel_grow g1 rw') ru e2 fun w' rw2 => Post.here (S := S1) q s1 c1 _ (At.set (ρ := ⟨bs, v⟩) A1 rw2)
/-- xs[i], by values -/
theorem get_list : PGet X (rIxL X.K) := by
  intro pins s σ H o i ov iv Q I ro ri h
  obtain ⟨p, xs, k, z, rfl, rfl, hq, he, q⟩ := h
  cases ro
  obtain ⟨t, rfl⟩ := ri
  obtain ⟨its, r, pl, hz⟩ := I.list hq
  obtain ⟨j, h1, h2, h3, h4, h5⟩ := atI_get he
  obtain ⟨w, ew, rw'⟩ := r.get h2
  have hl := r.length
  have hn := line63
  have fin : EP X pins σ Q w s := ⟨z, H, I, rw', q⟩
  by_cases h0 : 0 ≤ k
  · have hj : k.toNat = j := by
      rw [seqIndex_of h0 h5] at h1
      exact Option.some.inj h1
    exact wpAny_getItem_list pl.isList h0 (by omega) (by rw [hj]; simpa using ew) fin
  · have hj : (k + (its.toArray.size : Int)).toNat = j := by
      rw [seqIndex_neg (by omega) h4] at h1
      rw [List.size_toArray, ← hl]
      exact Option.some.inj h1
    exact wpAny_getItem_list_neg pl.isList (by omega) (by rw [List.size_toArray]; omega) (by omega) (by rw [hj]; simpa using ew) fin
def augIF (f g : Env → M D) (op : Op) (h : Env → M D) : SF := fun bs v => bnd (f ⟨bs, v⟩) fun x => bnd (g ⟨bs, v⟩) fun y => bnd (getR x y) fun z => bnd (h ⟨bs, v⟩) fun w => bnd (ofO (augD op z w)) fun u => bnd (setI bs x y u) fun _ => ret (.nx, v)
theorem ds_augI {i : Expr} {g h : Env → M D} {tp : Pos} {op : Op} (ho : PE X o (tE X.K XR E f)) (hi : PE X i (tE X.K XR E g)) (he : PE X e (tE X.K XR E h)) (hp : plainIx i = true) : PS X (.AugAssign (.Subscript o i tp) (opy op) e pos) (tS X.K XR E (augIF f g op h)) := by
  refine (ps_augS ho hi get_list he (ip_ok (opy op)) set_list (by intro a b c; cases i <;> first | rfl | (cases hp))).imp fun D σ H q => ?_
  obtain ⟨bs, v, S, m, r, A, q⟩ := q
  refine ⟨⟨bs, v⟩, S, m, r, A, (Post.bind q).imp fun x m1 S1 H1 g1 s1 c1 q ov ro => ?_⟩
  have A1 := A.grow g1 s1 c1
  refine ⟨⟨bs, v⟩, S1, m1, r, A1, (Post.bind q).imp fun y m2 S2 H2 g2 s2 c2 q iv ri => ?_⟩
  have A2 := A1.grow g2 s2 c2
  have ro2 := rel_grow g2 ro
  cases x with
  | ref n =>
    cases y with
    | int k =>
      cases e1 : stoL S2 n with
      | none =>
        have : getR (.ref n) (.int k) S2 = .bad := by unfold getR; dsimp only; rw [e1]
        rw [bnd_bad this] at q
        exact q.elim
      | some l =>
        obtain ⟨a, xs, rfl, h1, h2, rl⟩ := ref_inv s2 ro2 e1
        cases e2 : ixA l k with
        | none =>
          have : getR (.ref n) (.int k) S2 = .bad := by unfold getR; dsimp only; rw [e1]; dsimp only; rw [e2] <;> rfl
          rw [bnd_bad this] at q
          exact q.elim
        | some z =>
          have : getR (.ref n) (.int k) S2 = .ok z S2 := by unfold getR; dsimp only; rw [e1]; dsimp only; rw [e2] <;> rfl
          rw [bnd_go this] at q
          obtain ⟨w, e3, rz⟩ := atI_rel rl e2
          refine ⟨a, xs, k, w, rfl, ri, SqL.of h2, e3, ⟨bs, v⟩, S2, m2, r, A2, (Post.bind q).imp fun y' m3 S3 H3 g3 s3 c3 q u ru => ?_⟩
          obtain ⟨z', e4, q⟩ := ofO_bnd q
          refine aug_ok (rel_grow g3 rz) ru e4 fun w' rw2 => ?_
          obtain ⟨p, xs', k', j, h3, h4, h5, h6, S4, q, s4, c4, g4⟩ := setI_ok s3 c3 (rel_grow g3 ro2) (rel_grow g3 ri) rw2 (Post.bind q)
          exact ⟨p, xs', k', j, h3, h4, h5, h6, Post.here q s4 c4 σ ((A2.grow g3 s3 c3).grow g4 s4 c4)⟩
    | _ => exact q.elim
  | _ => cases y <;> exact q.elim
end
end Ri
set_option maxHeartbeats 1000000
namespace Ri
open PySem PySem.Spec PyProof.Rows L2

section
variable {X : Cx} {XR : XRel} {E : XK} {C : Ctx} {tb : Tab} {N : List Str} {sc : Nms} {o e tg : Expr} {es : List Expr} {pos : Pos} {f : Env → M D}
/-- name = a new list: from its reading -/
theorem set_lst {K : PySem.W.Frag} {fs : Env → M (List D)} {i : Nat} {D : Ends} {σ : L2.St} {H : Hp} (h : tS K XR E (asgF (lstF fs) (nmG i)) D σ H) : tN K XR E fs σ H fun x H1 => gName i x σ H1 D.nx := by
  obtain ⟨ρ, S, m, r, A, q⟩ := asg_ok h
  exact tN_lst ⟨ρ, S, m, r, A, q.imp fun d m1 S1 H1 g1 s1 c1 q x rx => nmG_ok (q x rx)⟩
theorem set_ref {K : PySem.W.Frag} {fs : Env → M (List D)} {i : Nat} {D : Ends} {σ : L2.St} {H : Hp} (h : tS K XR E (asgF (refF fs) (nmG i)) D σ H) : tN K XR E fs σ H fun x H1 => gName i x σ H1 D.nx := by
  obtain ⟨ρ, S, m, r, A, q⟩ := asg_ok h
  exact tN_ref ⟨ρ, S, m, r, A, q.imp fun d m1 S1 H1 g1 s1 c1 q x rx => nmG_ok (q x rx)⟩
/-- the reading of what a statement stores, both ways -/
def anyF (b : Bool) (fs : Env → M (List D)) : Env → M D := if b then refF fs else lstF fs
theorem set_any {K : PySem.W.Frag} {b : Bool} {fs : Env → M (List D)} {i : Nat} {D : Ends} {σ : L2.St} {H : Hp} (h : tS K XR E (asgF (anyF b fs) (nmG i)) D σ H) : tN K XR E fs σ H fun x H1 => gName i x σ H1 D.nx := by
  cases b with
  | true => exact set_ref h
  | false => exact set_lst h
theorem sw_hyp (s : Sok X XR E C tb N sc) {y : Str} {py : Pos} {l : Nat} (hn : noSD e = true) (hw : swB sc y py e = true) : swapsWith e (some (.Name y py)) l X.env = pure true := by rw [sw_eq s.names s.kind hn, hw]
theorem ds_c1 (s : Sok X XR E C tb N sc) {b : Bool} {i : Nat} {y : Str} {py : Pos} {elt tg iter : Expr} {ifs : List Expr} {scope : Scope} {own : List (Str × Nat)} {lp : Pos} {fi : Env → M It} {t : T} {fc : Env → M Bool} {fe : Env → M D}
    (hy : okLoc N sc i y = true) (hw : swB sc y py (.ListComp elt [⟨tg, iter, ifs, 0⟩] scope lp) = true)
    (hi : PI X tg iter (tI X.K XR E fi)) (ok : BlkOk X.N X.env.scope scope own) (ho : own.map (·.2) = slots t)
    (hg : ∀ (s : Shared) (H : Hp) (A : Addr) (cl : List (Str × Addr)) (fp : List Addr), PG (X.blk s H scope (compEnvC scope cl A X.env) fp) tg (gT X.K t))
    (ht : ∀ (s : Shared) (H : Hp) (A : Addr) (cl : List (Str × Addr)) (fp : List Addr), PTs (X.blk s H scope (compEnvC scope cl A X.env) fp) ifs (tT X.K XR noX fc))
    (he : ∀ (s : Shared) (H : Hp) (A : Addr) (cl : List (Str × Addr)) (fp : List Addr), PE (X.blk s H scope (compEnvC scope cl A X.env) fp) elt (tE X.K XR noX fe))
    (hs : ∀ x, foldedSetIterable iter X.env x = pure x) : PS X (.Assign [.Name y py] (.ListComp elt [⟨tg, iter, ifs, 0⟩] scope lp) pos) (tS X.K XR E (asgF (anyF b (c1R C fi t fc fe)) (nmG i))) := by
  have lc : lclB sc y = true := (two_and (two_and (show (lclB sc y && (py.line == lp.line) && !(scope.names.any fun (n, k) => n == y && (k == .local || k == .cell))) = true from hw)).1).1
  refine (ps_setLc s.ck.calm s.ck.nd (by rw [s.ck.hN]; exact at_inv (two_and hy).1) (by rw [s.names]; exact lcl_inv lc) (sw_hyp s rfl hw) hi ok hg ht he hs).imp fun D σ H q => ?_
  rw [ho]
  exact c1_lc (set_any q)
theorem ds_c2 (s : Sok X XR E C tb N sc) {b : Bool} {i : Nat} {y : Str} {py : Pos} {elt tg iter tg1 iter1 : Expr} {ifs ifs1 : List Expr} {scope : Scope} {own : List (Str × Nat)} {lp : Pos} {fi fi2 : Env → M It} {t t2 : T} {fc fc2 : Env → M Bool} {fe : Env → M D}
    (hy : okLoc N sc i y = true) (hw : swB sc y py (.ListComp elt [⟨tg, iter, ifs, 0⟩, ⟨tg1, iter1, ifs1, 0⟩] scope lp) = true)
    (hi : PI X tg iter (tI X.K XR E fi)) (ok : BlkOk X.N X.env.scope scope own) (ho : own.map (·.2) = slots t ++ slots t2)
    (hg : ∀ (s : Shared) (H : Hp) (A : Addr) (cl : List (Str × Addr)) (fp : List Addr), PG (X.blk s H scope (compEnvC scope cl A X.env) fp) tg (gT X.K t))
    (ht : ∀ (s : Shared) (H : Hp) (A : Addr) (cl : List (Str × Addr)) (fp : List Addr), PTs (X.blk s H scope (compEnvC scope cl A X.env) fp) ifs (tT X.K XR noX fc))
    (hi1 : ∀ (s : Shared) (H : Hp) (A : Addr) (cl : List (Str × Addr)) (fp : List Addr), PI (X.blk s H scope (compEnvC scope cl A X.env) fp) tg1 iter1 (tI X.K XR noX fi2))
    (hg1 : ∀ (s : Shared) (H : Hp) (A : Addr) (cl : List (Str × Addr)) (fp : List Addr), PG (X.blk s H scope (compEnvC scope cl A X.env) fp) tg1 (gT X.K t2))
    (ht1 : ∀ (s : Shared) (H : Hp) (A : Addr) (cl : List (Str × Addr)) (fp : List Addr), PTs (X.blk s H scope (compEnvC scope cl A X.env) fp) ifs1 (tT X.K XR noX fc2))
    (he : ∀ (s : Shared) (H : Hp) (A : Addr) (cl : List (Str × Addr)) (fp : List Addr), PE (X.blk s H scope (compEnvC scope cl A X.env) fp) elt (tE X.K XR noX fe))
    (hs : ∀ x, foldedSetIterable iter X.env x = pure x) (hs1 : ∀ env x, foldedSetIterable iter1 env x = pure x) :
    PS X (.Assign [.Name y py] (.ListComp elt [⟨tg, iter, ifs, 0⟩, ⟨tg1, iter1, ifs1, 0⟩] scope lp) pos) (tS X.K XR E (asgF (anyF b (c2R C fi t fc fi2 t2 fc2 fe)) (nmG i))) := by
  have lc : lclB sc y = true := (two_and (two_and (show (lclB sc y && (py.line == lp.line) && !(scope.names.any fun (n, k) => n == y && (k == .local || k == .cell))) = true from hw)).1).1
  refine (ps_setLc2 (vs1 := slots t2) s.ck.calm s.ck.nd (by rw [s.ck.hN]; exact at_inv (two_and hy).1) (by rw [s.names]; exact lcl_inv lc) (sw_hyp s rfl hw) hi ok (fun i hi => by rw [ho]; exact List.mem_append_right _ hi) hg ht hi1 hg1 ht1 he hs hs1).imp fun D σ H q => ?_
  rw [ho]
  exact c2_lc (set_any q)
def exF (f : Env → M D) : SF := fun bs v => bnd (f ⟨bs, v⟩) fun _ => ret (Fl.nx, v)
def isLC : Expr → Bool
  | .ListComp _ _ _ _ => true
  | _ => false
theorem ds_ex (he : PE X e (tE X.K XR E f)) (hn : noSD e = true) (hl : isLC e = false) : PS X (.Expr e pos) (tS X.K XR E (exF f)) := by
  refine (ps_expr he (by cases e <;> first | (cases hn; done) | (cases hl; done) | rfl)).imp fun D σ H q => ?_
  obtain ⟨bs, v, S, m, r, A, q⟩ := q
  exact ⟨⟨bs, v⟩, S, m, r, A, (Post.bind q).imp fun d m1 S1 H1 g1 s1 c1 q x rx => Post.here (S := S1) q s1 c1 σ (A.grow g1 s1 c1)⟩
def docF : SF := fun _ v => ret (Fl.nx, v)
theorem ds_doc {x : Str} {j : Nat} {p : Pos} : PS X (.Expr (.Constant (.str x) j p) pos) (tS X.K XR E docF) := ps_doc.imp fun D σ H q => by
  obtain ⟨bs, v, S, m, r, A, q⟩ := q
  exact Post.here (S := S) q A.sto A.cl σ A
def retF (f : Env → M D) : SF := fun bs v => bnd (f ⟨bs, v⟩) fun d => ret (Fl.ret d, v)
theorem ds_ret (he : PE X e (tE X.K XR E f)) : PS X (.Return (some e) pos) (tS X.K XR E (retF f)) := (ps_ret he).imp fun D σ H q => by
  obtain ⟨bs, v, S, m, r, A, q⟩ := q
  exact ⟨⟨bs, v⟩, S, m, r, A, (Post.bind q).imp fun d m1 S1 H1 g1 s1 c1 q x rx => Post.here (S := S1) q s1 c1 σ (A.grow g1 s1 c1) x rx⟩
theorem ds_retN : PS X (.Return none pos) (tS X.K XR E fun _ v => ret (Fl.ret .non, v)) := ps_retN.imp fun D σ H q => by
  obtain ⟨bs, v, S, m, r, A, q⟩ := q
  exact Post.here (S := S) q A.sto A.cl σ A .non rfl
theorem ds_pass : PS X (.Pass pos) (tS X.K XR E docF) := ps_pass.imp fun D σ H q => by
  obtain ⟨bs, v, S, m, r, A, q⟩ := q
  exact Post.here (S := S) q A.sto A.cl σ A
theorem ds_brk : PS X (.Break pos) (tS X.K XR E fun _ v => ret (Fl.brk, v)) := ps_break.imp fun D σ H q => by
  obtain ⟨bs, v, S, m, r, A, q⟩ := q
  exact Post.here (S := S) q A.sto A.cl σ A
theorem ds_cnt : PS X (.Continue pos) (tS X.K XR E fun _ v => ret (Fl.cnt, v)) := ps_continue.imp fun D σ H q => by
  obtain ⟨bs, v, S, m, r, A, q⟩ := q
  exact Post.here (S := S) q A.sto A.cl σ A
theorem ds_nev {st : Stmt} : PS X st (tS X.K XR E fun _ _ => bad) := ps_never.imp fun D σ H q => by
  obtain ⟨bs, v, S, m, r, A, q⟩ := q
  exact q.elim
theorem de_nev {e : Expr} : DE X XR E e (ev2 C .nev) := by
  refine ⟨⟨fun pins s σ H Q I h => ?_⟩, ⟨fun pins s σ H Q I h => ?_⟩⟩
  · obtain ⟨ρ, S, m, r, A, q⟩ := h
    exact q.elim
  · obtain ⟨ρ, S, m, r, A, q⟩ := h
    exact q.elim
theorem dss_nil : PSs X [] (tS X.K XR E docF) := pss_nil.imp fun D σ H q => by
  obtain ⟨bs, v, S, m, r, A, q⟩ := q
  exact Post.here (S := S) q A.sto A.cl σ A
def seqS (f g : SF) : SF := fun bs v => bnd (f bs v) fun p => match p.1 with
    | .nx => g bs p.2
    | x => ret (x, p.2)
theorem dss_cons {st : Stmt} {rest : List Stmt} {f g : SF} (h1 : PS X st (tS X.K XR E f)) (h2 : PSs X rest (tS X.K XR E g)) : PSs X (st :: rest) (tS X.K XR E (seqS f g)) := (pss_cons h1 h2).imp fun D σ H q => by
  obtain ⟨bs, v, S, m, r, A, q⟩ := q
  refine ⟨bs, v, S, m, r, A, (Post.bind q).imp fun p m1 S1 H1 g1 s1 c1 q σ' A' => ?_⟩
  obtain ⟨fl, v1⟩ := p
  cases fl with
  | nx => exact ⟨bs, v1, S1, m1, r, A', q⟩
  | brk => exact Post.here (S := S1) q s1 c1 σ' A'
  | cnt => exact Post.here (S := S1) q s1 c1 σ' A'
  | ret d => exact Post.here (S := S1) q s1 c1 σ' A'
def ifS (t : Env → M Bool) (f g : SF) : SF := fun bs v => bnd (t ⟨bs, v⟩) fun r => match r with
    | true => f bs v
    | false => g bs v
theorem ds_if {c : Expr} {a b : List Stmt} {t : Env → M Bool} {f g : SF} (hc : PT X c (tT X.K XR E t)) (ha : PSs X a (tS X.K XR E f)) (hb : PSs X b (tS X.K XR E g)) : PS X (.If c a b pos) (tS X.K XR E (ifS t f g)) := (ps_if hc ha hb).imp fun D σ H q => by
  obtain ⟨bs, v, S, m, r, A, q⟩ := q
  refine ⟨⟨bs, v⟩, S, m, r, A, (Post.bind q).imp fun b m1 S1 H1 g1 s1 c1 q => ?_⟩
  cases b with
  | true => exact ite_tt ⟨bs, v, S1, m1, r, A.grow g1 s1 c1, q⟩
  | false => exact ite_ff ⟨bs, v, S1, m1, r, A.grow g1 s1 c1, q⟩
def whS (C : Ctx) (t : Env → M Bool) (f : SF) : SF := fun bs v => whGo (fun v => t ⟨bs, v⟩) (fun v => f bs v) C.fu v
theorem ds_wh (s : Sok X XR E C tb N sc) {c : Expr} {b : List Stmt} {t : Env → M Bool} {f : SF} (hc : PT X c (tT X.K XR E t)) (hb : PSs X b (tS X.K XR E f)) : PS X (.While c b [] pos) (tS X.K XR E (whS C t f)) := (ps_while s.own hc hb).imp fun D σ H q => by
  obtain ⟨bs, v, S, m, r, A, q⟩ := q
  refine ⟨fun n σ H => ∃ v S m, At X.K ⟨bs, v⟩ S m r σ H ∧ Post X.K XR E bs r m H (whGo (fun v => t ⟨bs, v⟩) (fun v => f bs v) n v S) (okF X.K bs r D), ⟨C.fu, v, S, m, A, q⟩, ?_⟩
  rintro n σ1 H1 ⟨v1, S1, m1, A1, q⟩
  cases n with
  | zero => exact q.elim
  | succ n =>
    refine ⟨⟨bs, v1⟩, S1, m1, r, A1, (Post.bind q).imp fun b m2 S2 H2 g2 s2 c2 q => ?_⟩
    have A2 := A1.grow g2 s2 c2
    cases b with
    | false => exact ite_ff (Post.here (S := S2) q s2 c2 σ1 A2)
    | true =>
      refine ite_tt ⟨fun σ H => ∃ v S m, At X.K ⟨bs, v⟩ S m r σ H ∧ Post X.K XR E bs r m H (whGo (fun v => t ⟨bs, v⟩) (fun v => f bs v) n v S) (okF X.K bs r D), fun σ' H' w => ⟨n, Nat.lt_succ_self n, w⟩, ?_⟩
      refine ⟨bs, v1, S2, m2, r, A2, (Post.bind q).imp fun p m3 S3 H3 g3 s3 c3 q σ' A' => ?_⟩
      obtain ⟨fl, v3⟩ := p
      cases fl with
      | nx => exact ⟨v3, S3, m3, A', q⟩
      | cnt => exact ⟨v3, S3, m3, A', q⟩
      | brk => exact Post.here (S := S3) q s3 c3 σ' A'
      | ret d => exact Post.here (S := S3) q s3 c3 σ' A'
theorem go_dyn {f : D → Vs → M (Fl × Vs)} {L : List D} : ∀ (rest : List D) (i : Nat) (v : Vs), L.drop i = rest → ∀ S, forGo f rest v S = forDyn f (.snap L) (rest.length + 1) i v S
  | [], i, v, h, S => by
    have e : (It.snap L).at S i = some none := by
      show some L[i]? = some none
      rw [List.getElem?_eq_none (List.drop_eq_nil_iff.mp h)]
    show ret (Fl.nx, v) S = (match (It.snap L).at S i with
      | some (some x) => _
      | some none => .ok (Fl.nx, v) S
      | none => .bad)
    rw [e] <;> rfl
  | x :: rest, i, v, h, S => by
    have hi : i < L.length := by
      refine Nat.lt_of_not_le fun hle => ?_
      rw [List.drop_eq_nil_of_le hle] at h
      cases h
    have e0 := List.drop_eq_getElem_cons hi
    rw [h] at e0
    injection e0 with e1 e2
    have e : (It.snap L).at S i = some (some x) := by
      show some L[i]? = some (some x)
      rw [List.getElem?_eq_getElem hi, e1]
    have ih : ∀ v S, forGo f rest v S = forDyn f (.snap L) (rest.length + 1) (i + 1) v S := fun v => go_dyn rest (i + 1) v e2.symm
    show bnd (f x v) (fun p => match p.1 with
      | .nx => forGo f rest p.2
      | .cnt => forGo f rest p.2
      | .brk => ret (.nx, p.2)
      | .ret d => ret (.ret d, p.2)) S = (match (It.snap L).at S i with
      | some (some x) => bnd (f x v) (fun p => match p.1 with
        | .nx => forDyn f (.snap L) (rest.length + 1) (i + 1) p.2
        | .cnt => forDyn f (.snap L) (rest.length + 1) (i + 1) p.2
        | .brk => ret (.nx, p.2)
        | .ret d => ret (.ret d, p.2)) S
      | some none => .ok (Fl.nx, v) S
      | none => .bad)
    rw [e]
    dsimp only
    unfold bnd
    cases f x v S with
    | ok p S1 =>
      obtain ⟨fl, v1⟩ := p
      cases fl with
      | nx => exact ih v1 S1
      | cnt => exact ih v1 S1
      | brk => rfl
      | ret d => rfl
    | ex c d S1 => rfl
    | bad => rfl
theorem run_dyn {f : D → Vs → M (Fl × Vs)} (it : It) (v : Vs) : ∃ n, ∀ S, forRun C f it v S = forDyn f it n 0 v S := by
  cases it with
  | snap L => exact ⟨L.length + 1, fun S => go_dyn L 0 v rfl S⟩
  | _ => exact ⟨C.fu, fun S => rfl⟩
def frF (t : T) (g : SF) (bs : List Nat) : D → Vs → M (Fl × Vs) := fun x v => match bindT v t x with
    | some v => g bs v
    | none => bad
def frS (C : Ctx) (fi : Env → M It) (t : T) (g : SF) : SF := fun bs v => bnd (fi ⟨bs, v⟩) fun i => forRun C (frF t g bs) i v
theorem ds_for (s : Sok X XR E C tb N sc) {iter : Expr} {b : List Stmt} {fi : Env → M It} {t : T} {g : SF} (hi : PI X tg iter (tI X.K XR E fi)) (hg : PG X tg (gT X.K t)) (hb : PSs X b (tS X.K XR E g))
    (hs : ∀ x, foldedSetIterable iter X.env x = pure x) : PS X (.For tg iter b [] pos) (tS X.K XR E (frS C fi t g)) := (ps_for s.own s.ck.calm hi hg hb hs).imp fun D σ H q => by
  obtain ⟨bs, v, S, m, r, A, q⟩ := q
  refine ⟨⟨bs, v⟩, S, m, r, A, (Post.bind q).imp fun it m1 S1 H1 g1 s1 c1 q J hJ => ?_⟩
  obtain ⟨n0, e0⟩ := run_dyn (C := C) (f := frF t g bs) it v
  rw [e0] at q
  refine ⟨fun i n σ H => ∃ v S m', At X.K ⟨bs, v⟩ S m' r σ H ∧ Grow m1 H1 m' H ∧ Post X.K XR E bs r m' H (forDyn (frF t g bs) it n i v S) (okF X.K bs r D), ⟨n0, v, S1, m1, A.grow g1 s1 c1, Grow.refl _ _, q⟩, ?_⟩
  rintro i n σ2 H2 ⟨v2, S2, m2, A2, gw, q⟩
  have hit := hJ m2 r H2 (Gr.of gw) S2 A2.sto i
  cases n with
  | zero => exact q.elim
  | succ n =>
    have q : Post X.K XR E bs r m2 H2 (match it.at S2 i with
      | some (some x) => bnd (frF t g bs x v2) (fun p => match p.1 with
        | .nx => forDyn (frF t g bs) it n (i + 1) p.2
        | .cnt => forDyn (frF t g bs) it n (i + 1) p.2
        | .brk => ret (.nx, p.2)
        | .ret d => ret (.ret d, p.2)) S2
      | some none => .ok (Fl.nx, v2) S2
      | none => .bad) (okF X.K bs r D) := q
    cases e : it.at S2 i with
    | none => rw [e] at q; exact q.elim
    | some o =>
      rw [e] at q hit
      cases o with
      | none => exact .inl ⟨hit, Post.here (S := S2) q A2.sto A2.cl σ2 A2⟩
      | some x =>
        obtain ⟨go, yl⟩ := hit
        refine .inr ⟨go, fun σ H => ∃ v S m', At X.K ⟨bs, v⟩ S m' r σ H ∧ Grow m1 H1 m' H ∧ Post X.K XR E bs r m' H (forDyn (frF t g bs) it n (i + 1) v S) (okF X.K bs r D), fun σ' H' w => ⟨n, Nat.lt_succ_self n, w⟩, fun x' H3 y => ?_⟩
        obtain ⟨gy, sy, ry⟩ := yl x' H3 y
        dsimp only at q
        have q := Post.from q gy
        have A3 := A2.grow gy sy A2.cl
        cases eb : bindT v2 t x with
        | none =>
          have : frF t g bs x v2 S2 = .bad := by unfold frF; rw [eb] <;> rfl
          rw [bnd_bad this] at q
          exact q.elim
        | some v3 =>
          have ef : frF t g bs x v2 = g bs v3 := by unfold frF; rw [eb]
          rw [ef] at q
          refine gT_ok A3 ry eb fun σ' A4 _ => ?_
          refine ⟨bs, v3, S2, m2, r, A4, (Post.bind q).imp fun p m5 S5 H5 g5 s5 c5 q σ'' A' => ?_⟩
          obtain ⟨fl, v5⟩ := p
          have gw5 := (gw.trans gy).trans g5
          cases fl with
          | nx => exact ⟨v5, S5, m5, A', gw5, q⟩
          | cnt => exact ⟨v5, S5, m5, A', gw5, q⟩
          | brk => exact Post.here (S := S5) q s5 c5 σ'' A'
          | ret d => exact Post.here (S := S5) q s5 c5 σ'' A'
end
end Ri
set_option maxHeartbeats 2000000
namespace Ri
open PySem PySem.Spec PyProof.Rows L2

abbrev HdL := List (Value × Option Nat × (Addr → Value → Option Addr → TS))
def outS (D : Ends) : Option Nat → Ends
  | none => D
  | some i => { nx := fun σ' H' => D.nx (σ'.set i none) H', rt := D.rt, bk := fun σ' H' => D.bk (σ'.set i none) H', ct := fun σ' H' => D.ct (σ'.set i none) H' }
def inS (σ : L2.St) (a : Addr) : Option Nat → L2.St
  | none => σ
  | some i => σ.set i (some (.ref a))
def wAsM (K : PySem.W.Frag) (Wout : WX) (D : Ends) : HdL → WX
  | [] => Wout
  | (c, n, ts) :: r => fun cls d σ H => ∃ b, PySem.W.exmOne K cls c = some b ∧ (b = true → ∀ a, H a = none → ts a cls d (outS D n) (inS σ a n) H) ∧ (b = false → wAsM K Wout D r cls d σ H)
/-- the name of a clause -/
def AsOk (X : Cx) : Option Str → Option Nat → Prop
  | none, none => True
  | some n, some i => X.N[i]? = some n ∧ X.env.kindOf n = some .local
  | _, _ => False
inductive HdsA (X : Cx) : List ExceptHandler → HdL → Prop
  | nil : HdsA X [] []
  | cons {x : Str} {c : Value} {n : Option Str} {i : Option Nat} {ts : Addr → Value → Option Addr → TS} {b0 : Stmt} {suite : List Stmt} {np pos' : Pos} {hds : List ExceptHandler} {l : HdL} (hc : Names X x c) (hn : AsOk X n i)
      (hsu : ∀ (a : Addr) (oe : Obj) (cls : Value) (d : Option Addr) (pn : List (Addr × Obj)), Zc cls d oe → (∃ vs, oe.data = .fields vs) → PSs (X.suite a ((a, oe) :: pn)) (b0 :: suite) (ts a cls d)) (r : HdsA X hds l) :
      HdsA X (.ExceptHandler (some (.Name x np)) n (b0 :: suite) pos' :: hds) ((c, i, ts) :: l)
section
variable {X : Cx} {body : List Stmt} {h0 : ExceptHandler} {hds : List ExceptHandler} {l : HdL} {pos : Pos} {tb : WX → TS} {Wout : WX}
theorem ps_try_asM (hs : X.stack = X.env :: X.outer) (hf : X.env.frame = some X.env.locals) (hN : X.N.Nodup) (tk : Takes X Wout)
    (hb : ∀ (W : WX) (pn : List (Addr × Obj)) (xe : Value → Shared → Prop), Takes (X.tr pn xe) W → PassesOwn (model X.prog X.w) X.A X.env xe → PSs (X.tr pn xe) body (tb W))
    (hh : HdsA X (h0 :: hds) l) : PS X (.Try body (h0 :: hds) [] [] pos) (fun D σ H => tb (wAsM X.K Wout D l) D σ H) := by
  refine ⟨fun pins s σ H D I h => ?_⟩
  have ok := I.ok
  have hfr : X.A.frames = some (X.env :: X.outer) := by rw [ok.frames, hs]
  refine wpAny_Try_except ?_
  refine wpAny_mono ((hb (wAsM X.K Wout D l) (X.pn ++ pins) (fun e s1 => wpAny (model X.prog X.w) X.A (noteFrame e X.env) (fun _ s2 => wpAny (model X.prog X.w) X.A (setFlight e none) (fun _ s3 =>
    wpAny (model X.prog X.w) X.A (handleBy e X.env (h0 :: hds)) (SP X pins D) X.xe s3) X.xe s2) X.xe s1) (fun u s' xx => ?_) PassesOwn.looking).run [] s σ H D (I.toTry _) h) (fun f s1 hsp => ?_) (fun e s1 he => he)
  · obtain ⟨a, B, sI, pins', σ', H', cls, d, rfl, J', nb, up, sky, na, os, ag, w⟩ := xx
    have J : Inv X pins σ' H' sI := J'.ofTry ok
    have sky' : Sky B (X.env :: X.outer) a (Zc cls d) X.env.locals s'.heap := by rw [← hs]; exact sky
    show wpAny (model X.prog X.w) X.A (noteFrame (.ref a) X.env) _ _ _
    refine Sky.land Zc.steady hfr hf sky' fun h3 fl3 up3 => ?_
    have J3 : Inv X pins σ' H' { s' with heap := h3 } := J.landed nb fl3.1 (up.trans up3) os ag
    obtain ⟨oe3, vs3, he3, hz3, hd3⟩ := fl3.there
    have notFr : ∀ {h : Heap} {o : Obj} {vs : Array Value}, h.FunFrames B (X.env :: X.outer) → h.get? a = some o → o.data = .fields vs → a ∉ frs (X.env :: X.outer) := fun {h o vs} ff e dd hm => by
      obtain ⟨_, o', e', hnf⟩ := ff.mem hm
      rw [e] at e'; cases e'
      exact hnf _ dd
    have nfr := notFr fl3.2.2.1 he3 hd3
    have nL : a ≠ X.env.locals := fun z => nfr (List.mem_filterMap.mpr ⟨X.env, List.mem_cons_self, by rw [hf, z]⟩)
    have nF : a ∉ X.fs := fun hm => by
      obtain ⟨e, he, q⟩ := List.mem_filterMap.mp hm
      exact nfr (List.mem_filterMap.mpr ⟨e, List.mem_cons_of_mem _ he, q⟩)
    have S3 := J3.suite he3 hd3 na nL nF
    have go : ∀ {hds' : List ExceptHandler} {l' : HdL}, HdsA X hds' l' → wAsM X.K Wout D l' cls d σ' H' →
        wpAny (model X.prog X.w) X.A (handleBy (.ref a) X.env hds') (SP X pins D) X.xe { s' with heap := h3 } := by
      intro hds' l' hk
      induction hk with
      | nil =>
        intro w
        refine wpAny_handleBy_nil ?_
        obtain ⟨k1, k2, k3, oe, vs, T, oT, ts', he, hz, hd, h1, hr⟩ := id fl3
        unfold PySem.passOn
        refine wpAny_bind (wpAny_field he hd h1 ?_)
        rw [if_neg (show ¬ ((Value.ref T == Value.none) = true) from by simp)]
        have fin : wpAny (model X.prog X.w) X.A (setFlight (.ref a) X.env.frame) (fun _ s4 => wpAny (model X.prog X.w) X.A (throw (.ref a) : Sem Flow) (SP X pins D) X.xe s4) X.xe { s' with heap := h3 } := by
          rw [hf]
          refine HandSPX.setFlight_upZ fl3 fun h4 hh4 up4 => wpAny_throw (tk _ _ ?_)
          exact ⟨a, B, sI, pins, σ', H', cls, d, rfl, J, nb, (up.trans up3).trans up4, .inr (.inr (by rw [hs]; exact hh4)), na, os, ag, w⟩
        first
          | exact wpAny_bind (wpAny_pure (wpAny_bind fin))
          | exact wpAny_bind fin
      | @cons x c n i ts b0 suite np pos' hds2 l2 hc hn hsu r ih =>
        intro w
        obtain ⟨b, hb1, hyes, hno⟩ := w
        refine wpAny_handleBy_cons (codeAny_handlers_test ?_) (by intro q; cases q)
        have LT : PySem.W.Looks (model X.prog X.w) h3 (typeOf (.ref a)) cls := fun A Q E s k q => wpAny_typeOf_ref (k _ _ he3) (by rw [hz3.1]; exact q)
        have LM := PySem.W.exm_one (M := model X.prog X.w) (J3.kIn) LT hb1
        have test : ∀ {Q : Value → Shared → Prop} {E : Value → Shared → Prop}, Q c { s' with heap := h3 } → wpAny (model X.prog X.w) (X.A.mark (some (.ref a))) (eval (.Name x np) X.env) Q E { s' with heap := h3 } := fun {Q E} q => by
          obtain ⟨hg, hdbg, hm | ⟨hm, hv, hnn⟩⟩ := hc
          · exact ld_glob (X := X.suite a ((a, oe3) :: (X.pn ++ pins))) S3 hg hm q hdbg
          · exact ld_blt (X := X.suite a ((a, oe3) :: (X.pn ++ pins))) S3 hg hm hv q hnn hdbg
        refine test (LM.here ?_)
        cases b with
        | true =>
          match n, i, hn, hyes with
          | none, none, _, hyes =>
            refine codeAny_handlers_suite ?_
            refine HandSPX.lands_againZ fl3 fun h4 fl4 up4 => ?_
            obtain ⟨oe4, vs4, he4, hz4, hd4⟩ := fl4.there
            have J4 : Inv X pins σ' H' { s' with heap := h4 } := J.landed nb fl4.1 ((up.trans up3).trans up4) os ag
            have S4 := J4.suite he4 hd4 na nL nF
            refine wpAny_mono ((hsu a oe4 cls d (X.pn ++ pins) hz4 ⟨_, hd4⟩).run [] _ _ H' _ S4 (hyes rfl a na)) (fun f s6 hsp => ?_) (fun _ _ z => False.elim z)
            cases f with
            | next =>
              obtain ⟨σ6, H6, S6, q6⟩ := hsp
              exact ⟨_, _, S6.unsuite ok, q6⟩
            | brk =>
              obtain ⟨σ6, H6, S6, q6⟩ := hsp
              exact ⟨_, _, S6.unsuite ok, q6⟩
            | cont =>
              obtain ⟨σ6, H6, S6, q6⟩ := hsp
              exact ⟨_, _, S6.unsuite ok, q6⟩
            | ret u =>
              obtain ⟨v6, σ6, H6, S6, r6, q6⟩ := hsp
              exact ⟨_, _, _, S6.unsuite ok, r6, q6⟩
          | some n, some i, hn, hyes =>
            obtain ⟨hi, hln⟩ := hn
            have hloc : Loc X.env.scope n := .inl hln
            refine codeAny_handlers_suite_as ?_
            refine HandSPX.lands_againZ fl3 fun h4 fl4 up4 => ?_
            have J4 : Inv X pins σ' H' { s' with heap := h4 } := J.landed nb fl4.1 ((up.trans up3).trans up4) os ag
            obtain ⟨oe4, vs4, he4, hz4, hd4⟩ := fl4.there
            have S4 := J4.suite he4 hd4 na nL nF
            refine store_ok (X := X.suite a ((a, oe4) :: (X.pn ++ pins))) (v := .ref a) S4 hN hi hloc rfl (fun s5 S5 => ?_) (.inr hln)
            refine wpAny_mono ((hsu a oe4 cls d (X.pn ++ pins) hz4 ⟨_, hd4⟩).run [] s5 _ H' _ S5 (hyes rfl a na)) (fun f s6 hsp => ?_) (fun _ _ z => False.elim z)
            have end_ : ∀ {σ6 : L2.St} {H6 : Hp} {Q : Shared → Prop}, Inv (X.suite a ((a, oe4) :: (X.pn ++ pins))) [] σ6 H6 s6 → (∀ s7, Inv X pins (σ6.set i none) H6 s7 → Q s7) →
                wpAny (model X.prog X.w) X.A (do bindName X.env n .none; unbindBehindTheSuite X.env n pos') (fun _ s7 => Q s7) X.xe s6 := fun {σ6 H6 Q} S6 hq => gone_ok (S6.unsuite ok) hN hi hln hq
            cases f with
            | next =>
              obtain ⟨σ6, H6, S6, q6⟩ := hsp
              exact end_ S6 fun s7 J7 => ⟨_, _, J7, q6⟩
            | brk =>
              obtain ⟨σ6, H6, S6, q6⟩ := hsp
              exact end_ S6 fun s7 J7 => ⟨_, _, J7, q6⟩
            | cont =>
              obtain ⟨σ6, H6, S6, q6⟩ := hsp
              exact end_ S6 fun s7 J7 => ⟨_, _, J7, q6⟩
            | ret u =>
              obtain ⟨v6, σ6, H6, S6, r6, q6⟩ := hsp
              exact end_ S6 fun s7 J7 => ⟨_, _, _, J7, r6, q6⟩
          | none, some _, hn, _ => exact hn.elim
          | some _, none, hn, _ => exact hn.elim
        | false =>
          show wpAny _ X.A (handleBy (.ref a) X.env hds2) _ _ _
          exact ih (hno rfl)
    exact go hh w
  · cases f with
    | next =>
      obtain ⟨σ', H', J', q⟩ := hsp
      exact wpAny_execs_nil ⟨σ', H', J'.ofTry ok, q⟩
    | brk =>
      obtain ⟨σ', H', J', q⟩ := hsp
      exact ⟨σ', H', J'.ofTry ok, q⟩
    | cont =>
      obtain ⟨σ', H', J', q⟩ := hsp
      exact ⟨σ', H', J'.ofTry ok, q⟩
    | ret u =>
      obtain ⟨v, σ', H', J', r, q⟩ := hsp
      exact ⟨v, σ', H', J'.ofTry ok, r, q⟩
end
end Ri
set_option maxHeartbeats 2000000
namespace Ri
open PySem PySem.Spec PyProof.Rows L2

/-- how an exception is known: its class, no dict -/
def xrel (cl : List Addr) : XRel := fun c d cv dd _ => ∃ A, cl[c]? = some A ∧ cv = .ref A ∧ dd = none ∧ d = .non
/-- the classes -/
structure ClsOk (X : Cx) (tb : Tab) (cl : List Addr) (sub : Nat → Nat → Option Bool) : Prop where
  nm : ∀ (c : Nat) (x : Str), tb.cnm[c]? = some x → ∃ A, cl[c]? = some A ∧ X.mg x = some (.ref A)
  make : ∀ (c : Nat) (A : Addr), tb.rz.contains c = true → cl[c]? = some A → ∃ (B newId initId : String) (bmB : List Value), ExcBaseFacts B newId initId bmB ∧ PySem.W.excIn X.K A bmB newId = true ∧ PySem.W.keepIn X.K (.ref A) = true ∧ Raises X (.ref A) ∧ ExcC X.K A
  sub : ∀ (c h : Nat) (b : Bool) (A B : Addr), sub c h = some b → cl[c]? = some A → cl[h]? = some B → tb.rz.contains c = true ∧ PySem.W.exmOne X.K (.ref A) (.ref B) = some b ∧ PySem.W.kitOne X.K (.ref A) (.ref B) = some b
section
variable {X : Cx} {cl : List Addr} {E : XK} {C : Ctx} {tb : Tab} {N : List Str} {sc : Nms} {pos : Pos}
theorem ds_rai (s : Sok X (xrel cl) E C tb N sc) (o : ClsOk X tb cl C.sub) {c : Nat} {x m : Str} {j : Nat} {p p2 p3 : Pos} (h : (match tb.cnm[c]? with
  | some y => y == x
  | none => false) = true) (hz : tb.rz.contains c = true) (hg : glB sc x = true) (hd : (!oddName x) = true) : PS X (.Raise (some (.Call (.Name x p) [.Constant (.str m) j p2] [] p3)) none pos) (tS X.K (xrel cl) E fun _ _ => fun S => .ex c .non S) := by
  obtain ⟨A, h1, h2⟩ := o.nm c x (at_inv h)
  obtain ⟨B, nI, iI, bm, F, q, kC, r, _⟩ := o.make c A hz h1
  refine (ps_raise s.ck.calm s.tk (pmk_own F q h2 kC r (s.ck.gl x hg) (odd_inv hd).1)).imp fun D σ H q => ?_
  obtain ⟨bs, v, S, m, r, At', q⟩ := q
  exact q m H (.ref A) none (Grow.refl _ _) At'.sto At'.cl ⟨A, h1, rfl, rfl, rfl⟩
def cV : D → V
  | .bl b => .bl b
  | .int i => .int i
  | .str x => .str x
  | _ => .non
theorem pe_cst {Y : Cx} {d : D} {e : Expr} (h : cstB d e = true) : PE Y e (tC (cV d)) := by
  unfold cstB at h
  split at h
  · exact pe_non
  · cases eq_of_beq h
    exact pe_bl
  · rw [eq_of_beq h]
    exact pe_int
  · rw [eq_of_beq h]
    exact pe_str
  · cases h
theorem cV_rel {K : PySem.W.Frag} {H : Hp} {p : Pl} {d : D} {e : Expr} (h : cstB d e = true) : RelD K H p d (cV d) := by
  unfold cstB at h
  split at h
  · exact rfl
  · exact rfl
  · exact rfl
  · exact rfl
  · cases h
/-- a handler's text -/
def asB (N : List Str) (sc : Nms) : Option Nat → Option Str → Bool
  | none, none => true
  | some i, some x => (match N[i]? with
    | some y => y == x
    | none => false) && lclB sc x
  | _, _ => false
def cnB (tb : Tab) (sc : Nms) (c : Nat) (x : Str) : Bool := (match tb.cnm[c]? with
  | some y => y == x
  | none => false) && glB sc x && !oddName x
def hbS (d : D) (suite : List Stmt) : Bool := match suite with
  | [.Return (some e) _] => cstB d e
  | _ => false
def hbI (tb : Tab) (N : List Str) (sc : Nms) (slot : Option Nat) (yes no : D) (k : Nat) (suite : List Stmt) : Bool := match suite with
  | [.Return (some (.IfExp (.Call (.Name f _) [.Name x _, .Name y _] [] _) a b _)) _] => (f == ("isinstance" : Str)) && glB sc "isinstance" && (match slot with
      | some i => okVar N sc i x
      | none => false) && cnB tb sc k y && cstB yes a && cstB no b
  | _ => false
def hbB (tb : Tab) (N : List Str) (sc : Nms) (slot : Option Nat) (b : HB) (suite : List Stmt) : Bool := match b with
  | .retS d => hbS d suite
  | .retIs yes no k => hbI tb N sc slot yes no k suite
  | _ => true
def hdB (tb : Tab) (N : List Str) (sc : Nms) : Hd → ExceptHandler → Bool
  | h, .ExceptHandler (some (.Name x _)) n (b0 :: suite) _ => cnB tb sc h.cls x && asB N sc h.slot n && hbB tb N sc h.slot h.body (b0 :: suite)
  | _, _ => false
def hdsB (tb : Tab) (N : List Str) (sc : Nms) : List Hd → List ExceptHandler → Bool
  | [], [] => true
  | h :: r, e :: t => hdB tb N sc h e && hdsB tb N sc r t
  | _, _ => false
/-- what a handler wishes -/
def hTs (K : PySem.W.Frag) (cl : List Addr) (h : Hd) : Addr → Value → Option Addr → TS := match h.body with
  | .retS d => fun _ _ _ => fun D _ H => D.rt (cV d) H
  | .retIs yes no k => fun a cls d => fun D σ H => ∃ i A B b, h.slot = some i ∧ σ[i]? = some (some (.ref a)) ∧ cls = .ref A ∧ d = none ∧ ExcC K A ∧ cl[k]? = some B ∧ PySem.W.kitOne K (.ref A) (.ref B) = some b ∧ D.rt (if b = true then cV yes else cV no) H
  | _ => fun _ _ _ => tNever
theorem suite_ok (s : Sok X (xrel cl) E C tb N sc) (o : ClsOk X tb cl C.sub) {h : Hd} {suite : List Stmt} (hb : hbB tb N sc h.slot h.body suite = true) (a : Addr) (oe : Obj) (cls : Value) (d : Option Addr) (pn : List (Addr × Obj)) (hz : Zc cls d oe) (hf : ∃ vs, oe.data = .fields vs) :
    PSs (X.suite a ((a, oe) :: pn)) suite (hTs X.K cl h a cls d) := by
  obtain ⟨hc, slot, body⟩ := h
  cases body with
  | retS r =>
    have hb : hbS r suite = true := hb
    unfold hbS at hb
    split at hb
    · exact pss_one (ps_ret (pe_cst hb))
    · cases hb
  | retIs yes no k =>
    have hb : hbI tb N sc slot yes no k suite = true := hb
    unfold hbI at hb
    split at hb
    · rename_i f p1 x p2 y p3 p4 ea eb p5 p6 zz
      obtain ⟨hb, h6⟩ := two_and hb
      obtain ⟨hb, h5⟩ := two_and hb
      obtain ⟨hb, h4⟩ := two_and hb
      obtain ⟨hb, h3⟩ := two_and hb
      obtain ⟨h1, h2⟩ := two_and hb
      have h1 := eq_of_beq h1
      subst h1
      refine ⟨fun pins s0 σ H D I q => ?_⟩
      obtain ⟨i, A, B, b, hs, hσ, hcl, hd, EC, hB, hk, q⟩ := q
      have hs : slot = some i := hs
      subst hs hcl hd
      obtain ⟨h3, h3o⟩ := two_and h3
      obtain ⟨h3a, h3v⟩ := two_and h3
      obtain ⟨h4, h4o⟩ := two_and h4
      obtain ⟨h4a, h4g⟩ := two_and h4
      obtain ⟨B', e1, e2⟩ := o.nm k y (at_inv h4a)
      rw [hB] at e1
      cases e1
      have pa : PA (X.suite a ((a, oe) :: pn)) [.Name x p2, .Name y p3] (tCons (tVar i) (tCons (tC (.ref B)) tNil)) :=
        pa_cons (pe_var (X := X.suite a ((a, oe) :: pn)) (by show X.N[i]? = _; rw [s.ck.hN]; exact at_inv h3a) (s.ck.vis x h3v) (odd_inv h3o).1 (odd_inv h3o).2)
          (pa_cons (pe_glob (X := X.suite a ((a, oe) :: pn)) (s.ck.gl y h4g) e2 rfl (odd_inv h4o).1) pa_nil rfl) rfl
      have pc := pe_callB (X := X.suite a ((a, oe) :: pn)) (pos := p4) (p := p1) (call_isE EC hz hf) (s.ck.gl _ h2) (s.ck.blt _ (by decide)) (by decide +kernel) pa (by decide) (by decide) rfl rfl
      refine (pss_one (ps_ret (pe_ifExp (pt_val pc (fun _ => rfl)) (pe_cst h5) (pe_cst h6)))).run pins s0 σ H D I ?_
      refine ⟨.ref a, hσ, .ref B, .ref B, b, rfl, fun u r => r, hk, b, rfl, ?_⟩
      cases b with
      | true => exact q
      | false => exact q
    · cases hb
  | _ =>
    refine ⟨fun pins s0 σ H D I q => ?_⟩
    exact q.elim
def hdL (K : PySem.W.Frag) (cl : List Addr) : List Hd → HdL
  | [] => []
  | h :: r => (.ref (cl.getD h.cls 0), h.slot, hTs K cl h) :: hdL K cl r
theorem asOk_of (s : Sok X (xrel cl) E C tb N sc) {i : Option Nat} {n : Option Str} (h : asB N sc i n = true) : AsOk X n i := by
  cases i with
  | none =>
    cases n with
    | none => exact trivial
    | some x => cases h
  | some i =>
    cases n with
    | none => cases h
    | some x =>
      obtain ⟨h6, h7⟩ := two_and h
      exact ⟨by rw [s.ck.hN]; exact at_inv h6, by show X.env.scope.names.lookup x = _; rw [s.names]; exact lcl_inv h7⟩
theorem hds_ok (s : Sok X (xrel cl) E C tb N sc) (o : ClsOk X tb cl C.sub) : ∀ {hs : List Hd} {hds : List ExceptHandler}, hdsB tb N sc hs hds = true → HdsA X hds (hdL X.K cl hs)
  | [], [], _ => .nil
  | h :: r, e :: t, hb => by
    obtain ⟨h1, h2⟩ := two_and (show (hdB tb N sc h e && hdsB tb N sc r t) = true from hb)
    unfold hdB at h1
    split at h1
    · rename_i x np n b0 suite p'
      obtain ⟨h1, h5⟩ := two_and h1
      obtain ⟨h3, h4⟩ := two_and h1
      obtain ⟨h3, h3o⟩ := two_and h3
      obtain ⟨h3a, h3g⟩ := two_and h3
      obtain ⟨A, e1, e2⟩ := o.nm h.cls x (at_inv h3a)
      have ec : cl.getD h.cls 0 = A := by rw [List.getD_eq_getElem?_getD, e1] <;> rfl
      refine .cons ⟨s.ck.gl x h3g, (odd_inv h3o).1, .inl (by rw [ec]; exact e2)⟩ ?_ (fun a oe cls d pn hz hf => suite_ok s o h5 a oe cls d pn hz hf) (hds_ok s o h2)
      exact asOk_of s h4
    · cases h1
  | [], _ :: _, h => by cases h
  | _ :: _, [], h => by cases h
theorem Sok.tr (s : Sok X (xrel cl) E C tb N sc) {pn : List (Addr × Obj)} {xe : Value → Shared → Prop} {E' : XK} (tk : Takes (X.tr pn xe) (fun cls d σ H => E' cls d H)) (own : PassesOwn (model X.prog X.w) X.A X.env xe) : Sok (X.tr pn xe) (xrel cl) E' C tb N sc :=
  ⟨⟨s.ck.calm, s.ck.hN, s.ck.nd, s.ck.un, s.ck.vis, s.ck.gl, s.ck.loc, s.ck.cf, s.ck.blt, s.ck.glo, s.ck.fns, passes_call tk fun _ _ _ _ h => h⟩, own, tk, s.names, s.kind, s.stk, s.fr, s.nex⟩
def triS (C : Ctx) (f : SF) (hs : List Hd) : SF := fun bs v => fun S => match f bs v S with
    | .ok p S' => .ok p S'
    | .ex c d S' => hsRun C c d v hs S'
    | .bad => .bad
/-- the wish about a body's exceptions, by the handlers' run -/
theorem hs_ok (o : ClsOk X tb cl C.sub) {bs : List Nat} {v : Vs} {S S' : Sto} {m r m' : List Addr} {σ : L2.St} {H H' : Hp} {D : Ends} {c : Nat} {d : Ri.D} {cv : Value} {dd : Option Addr} (A : At X.K ⟨bs, v⟩ S m r σ H) (g : Grow m H m' H') (sm : SimS X.K H' ⟨m', r⟩ S') (cs : Cls bs S') (xr : xrel cl c d cv dd H') :
    ∀ {hs : List Hd} {hds : List ExceptHandler}, hdsB tb N sc hs hds = true → Post X.K (xrel cl) E bs r m H (hsRun C c d v hs S') (okF X.K bs r D) → ∀ σ' : L2.St, σ'.length = N.length → wAsM X.K (fun cls d σ H => E cls d H) D (hdL X.K cl hs) cv dd σ' H'
  | [], [], _, q, σ', _ => q m' H' cv dd g sm cs xr
  | h :: r', e :: t, hb, q, σ', hl => by
    obtain ⟨h1, h2⟩ := two_and (show (hdB tb N sc h e && hdsB tb N sc r' t) = true from hb)
    obtain ⟨A0, x1, x2, x3, x4⟩ := xr
    subst x2 x3 x4
    have q : Post X.K (xrel cl) E bs r m H ((match C.sub c h.cls with
      | some true => bnd (hbRun C c .non h.body) fun x => ret (Fl.ret x, v)
      | some false => hsRun C c .non v r'
      | none => bad) S') (okF X.K bs r D) := q
    unfold hdB at h1
    split at h1
    · rename_i x np n b0 suite p'
      obtain ⟨h1, h5⟩ := two_and h1
      obtain ⟨h3, h4⟩ := two_and h1
      obtain ⟨h3, h3o⟩ := two_and h3
      obtain ⟨h3a, h3g⟩ := two_and h3
      obtain ⟨B0, e1, e2⟩ := o.nm h.cls x (at_inv h3a)
      have ec : cl.getD h.cls 0 = B0 := by rw [List.getD_eq_getElem?_getD, e1] <;> rfl
      cases hsub : C.sub c h.cls with
      | none => rw [hsub] at q; exact q.elim
      | some b =>
        rw [hsub] at q
        obtain ⟨rz, k1, k2⟩ := o.sub c h.cls b A0 B0 hsub x1 e1
        refine ⟨b, by rw [ec]; exact k1, fun hbt a ha => ?_, fun hbf => ?_⟩
        · subst hbt
          have Ag := A.grow g sm cs
          obtain ⟨hc, slot, body⟩ := h
          have fin : ∀ x, Post X.K (xrel cl) E bs r m H (.ok (Fl.ret x, v) S') (okF X.K bs r D) → ∀ y, RelD X.K H' ⟨m', r⟩ x y → D.rt y H' := fun x q y ry => q m' H' g sm cs σ Ag y ry
          have ort : ∀ D' : Ends, (∀ y H, D'.rt y H = D.rt y H) → True := fun _ _ => trivial
          cases body with
          | retS rr =>
            have q : Post X.K (xrel cl) E bs r m H (.ok (Fl.ret rr, v) S') (okF X.K bs r D) := q
            have hb5 : hbS rr (b0 :: suite) = true := h5
            have hr : RelD X.K H' ⟨m', r⟩ rr (cV rr) := by
              unfold hbS at hb5
              split at hb5
              · exact cV_rel hb5
              · cases hb5
            have w := fin rr q _ hr
            cases slot with
            | none => exact w
            | some i => exact w
          | retIs yes no k =>
            have hb5 : hbI tb N sc slot yes no k (b0 :: suite) = true := h5
            unfold hbI at hb5
            split at hb5
            · rename_i f p1 x p2 y p3 p4 ea eb p5 p6 heq
              cases heq
              obtain ⟨hb5, z6⟩ := two_and hb5
              obtain ⟨hb5, z5⟩ := two_and hb5
              obtain ⟨hb5, z4⟩ := two_and hb5
              obtain ⟨hb5, z3⟩ := two_and hb5
              obtain ⟨z4, _⟩ := two_and z4
              obtain ⟨z4a, _⟩ := two_and z4
              obtain ⟨B1, f1, f2⟩ := o.nm k y (at_inv z4a)
              obtain ⟨_, _, _, _, _, _, _, _, EC⟩ := o.make c A0 rz x1
              cases slot with
              | none => cases z3
              | some i =>
                obtain ⟨z3, _⟩ := two_and z3
                obtain ⟨z3a, _⟩ := two_and z3
                have hi : i < σ'.length := by
                  rw [hl]
                  exact (List.getElem?_eq_some_iff.mp (at_inv z3a)).1
                have q2 : Post X.K (xrel cl) E bs r m H (bnd (match C.sub c k, Ri.D.non with
                  | some true, .non => ret yes
                  | some false, .non => ret no
                  | _, _ => bad) (fun x => ret (Fl.ret x, v)) S') (okF X.K bs r D) := q
                cases hk : C.sub c k with
                | none => rw [hk] at q2; exact q2.elim
                | some bk =>
                  rw [hk] at q2
                  obtain ⟨_, _, k3⟩ := o.sub c k bk A0 B1 hk x1 f1
                  refine ⟨i, A0, B1, bk, rfl, by show (σ'.set i _)[i]? = _; rw [List.getElem?_set_self hi], rfl, rfl, EC, f1, k3, ?_⟩
                  cases bk with
                  | true => exact fin yes q2 _ (cV_rel z5)
                  | false => exact fin no q2 _ (cV_rel z6)
            · cases hb5
          | _ => exact q.elim
        · subst hbf
          exact hs_ok o A g sm cs ⟨A0, x1, rfl, rfl, rfl⟩ h2 q σ' hl
    · cases h1
  | [], _ :: _, h, _, _, _ => by cases h
  | _ :: _, [], h, _, _, _ => by cases h
theorem ds_tri (s : Sok X (xrel cl) E C tb N sc) (o : ClsOk X tb cl C.sub) {body : List Stmt} {hs : List Hd} {h0 : ExceptHandler} {hds : List ExceptHandler} {f : SF}
    (hb : ∀ (pn : List (Addr × Obj)) (xe : Value → Shared → Prop) (E' : XK), Sok (X.tr pn xe) (xrel cl) E' C tb N sc → PSs (X.tr pn xe) body (tS X.K (xrel cl) E' f)) (hh : hdsB tb N sc hs (h0 :: hds) = true) : PS X (.Try body (h0 :: hds) [] [] pos) (tS X.K (xrel cl) E (triS C f hs)) := by
  refine (ps_try_asM (tb := fun W => tS X.K (xrel cl) (fun cls dd H => ∀ σ : L2.St, σ.length = N.length → W cls dd σ H) f) s.stk s.fr s.ck.nd s.tk (fun W pn xe tk own => ?_) (hds_ok s o hh)).imp fun D σ H q => ?_
  · refine hb pn xe _ (s.tr ?_ own)
    rintro u s' ⟨a, B, sI, pins, σ, H, cls, d, e, I, nb, up, sky, na, os, ag, w⟩
    refine tk u s' ⟨a, B, sI, pins, σ, H, cls, d, e, I, nb, up, sky, na, os, ag, w σ ?_⟩
    have := I.len
    rw [this]
    show X.N.length = N.length
    rw [s.ck.hN]
  · obtain ⟨bs, v, S, m, r, A, q⟩ := q
    refine ⟨bs, v, S, m, r, A, ?_⟩
    unfold triS at q
    cases e : f bs v S with
    | ok p S' => rw [e] at q; exact q
    | bad => rw [e] at q; exact q
    | ex c d S' =>
      rw [e] at q
      intro m' H' cv dd g sm cs xr σ' hl
      exact hs_ok o A g sm cs xr hh q σ' hl
end
end Ri
set_option maxHeartbeats 2000000
namespace Ri
open PySem PySem.Spec PyProof.Rows L2

def ownT : T → Expr → List (Str × Nat)
  | .nm i, .Name x _ => [(x, i)]
  | .tp is, .Tuple es _ _ => ownTs is es
  | _, _ => []
where ownTs : List Nat → List Expr → List (Str × Nat)
  | i :: is, .Name x _ :: es => (x, i) :: ownTs is es
  | _, _ => []
def blkB (N : List Str) (sc : Nms) (scope : Scope) (own : List (Str × Nat)) : Bool :=
  (match scope.kind with
    | .function => true
    | _ => false) && (scope.names.all fun y => decide (scope.names.lookup y.1 = some y.2)) && (own.all fun p => match N[p.2]? with
    | some y => y == p.1
    | none => false) &&
    (scope.names.all fun y => match y.2 with
      | .free => cfB sc y.1
      | .local => (own.map (·.1)).contains y.1 || !N.contains y.1
      | .cell => (own.map (·.1)).contains y.1 || !N.contains y.1
      | _ => true)
theorem own_or {N own : List Str} {x : Str} (h : (own.contains x || !N.contains x) = true) : x ∈ own ∨ x ∉ N := by
  rcases Bool.or_eq_true_iff.mp h with h | h
  · exact .inl (List.contains_iff_mem.mp h)
  · refine .inr fun z => ?_
    rw [List.contains_iff_mem.mpr z] at h
    cases h
section
variable {X : Cx} {XR : XRel} {E : XK} {C : Ctx} {tb : Tab} {N : List Str} {sc : Nms}
theorem blk_ok (c : Cok X XR E C tb N sc) {scope : Scope} {own : List (Str × Nat)} (h : blkB N sc scope own = true) : BlkOk X.N X.env.scope scope own := by
  obtain ⟨h, h4⟩ := two_and h
  obtain ⟨h, h3⟩ := two_and h
  obtain ⟨h1, h2⟩ := two_and h
  refine ⟨?_, fun y hy => of_decide_eq_true (List.all_eq_true.mp h2 y hy), fun p hp => ?_, fun y hy e => ?_, fun y hy e => ?_⟩
  · split at h1
    · assumption
    · cases h1
  · rw [c.hN]
    exact at_inv (List.all_eq_true.mp h3 p hp)
  · have q := List.all_eq_true.mp h4 y hy
    rw [e] at q
    exact c.cf y.1 q
  · have q := List.all_eq_true.mp h4 y hy
    rw [c.hN]
    rcases e with e | e
    · rw [e] at q; exact own_or q
    · rw [e] at q; exact own_or q
theorem relS_free {sc : Scope} : ∀ {names : List (Str × NameKind)} {x : Str}, names.lookup x = some .free →
    (names.map fun (n, k) => if (k == NameKind.free && sc.kind == .function && sc.names.lookup n == some .cell) then (n, NameKind.cell) else (n, k)).lookup x = some .free ∨
    (names.map fun (n, k) => if (k == NameKind.free && sc.kind == .function && sc.names.lookup n == some .cell) then (n, NameKind.cell) else (n, k)).lookup x = some .cell
  | [], _, h => by cases h
  | (n, k) :: r, x, h => by
    have ih := @relS_free sc r x
    rw [List.map_cons]
    cases hx : x == n with
    | true =>
      rw [List.lookup_cons, hx] at h
      cases h
      by_cases hc : (NameKind.free == NameKind.free && sc.kind == .function && sc.names.lookup n == some .cell) = true
      · right
        simp only [hc, if_true, List.lookup_cons, hx]
      · left
        simp only [hc, Bool.false_eq_true, if_false, List.lookup_cons, hx]
    | false =>
      rw [List.lookup_cons, hx] at h
      by_cases hc : (k == NameKind.free && sc.kind == .function && sc.names.lookup n == some .cell) = true
      · simp only [hc, if_true, List.lookup_cons, hx]
        exact ih h
      · simp only [hc, Bool.false_eq_true, if_false, List.lookup_cons, hx]
        exact ih h
/-- a comprehension's block -/
theorem Cok.blk (c : Cok X XR E C tb N sc) (s : Shared) (H : Hp) (A : Addr) (cl : List (Str × Addr)) (fp : List Addr) (scope : Scope) : Cok (X.blk s H scope (compEnvC scope cl A X.env) fp) XR noX C tb N scope.names := by
  have keep : ∀ {x k}, k ≠ NameKind.free → scope.names.lookup x = some k → (compEnvC scope cl A X.env).scope.names.lookup x = some k := fun {x k} hk h => lookup_relS_keep (sc := X.env.scope) hk h
  have free : ∀ {x}, scope.names.lookup x = some NameKind.free → (compEnvC scope cl A X.env).scope.names.lookup x = some .free ∨ (compEnvC scope cl A X.env).scope.names.lookup x = some .cell := fun {x} h => relS_free (sc := X.env.scope) h
  refine ⟨c.calm, c.hN, c.nd, c.un, fun x h => ?_, fun x h => ?_, fun x h => ?_, fun x h => ?_, c.blt, c.glo, c.fns, ?_⟩
  · unfold visB at h
    split at h
    · rename_i e; exact .inl (keep (by decide) e)
    · rename_i e; exact .inr (.inl (keep (by decide) e))
    · rename_i e
      rcases free e with z | z
      · exact .inr (.inr z)
      · exact .inr (.inl z)
    · cases h
  · unfold glB at h
    split at h
    · rename_i e; exact keep (by decide) e
    · cases h
  · unfold locB at h
    split at h
    · rename_i e; exact ⟨.inl (keep (by decide) e), .inr (keep (by decide) e)⟩
    · rename_i e
      refine ⟨.inr (keep (by decide) e), .inl ?_⟩
      show (scope.names.lookup x == some .cell) = true
      rw [e] <;> rfl
    · cases h
  · unfold cfB at h
    split at h
    · rename_i e; exact .inl (keep (by decide) e)
    · rename_i e
      rcases free e with z | z
      · exact .inr z
      · exact .inl z
    · cases h
  · rintro pins σ H s e s' I ⟨a, B, H', cls, d, _, _, _, _, _, _, _, w⟩
    exact w.elim
end

def opB : Op → Operator → Bool
  | .add, .Add => true
  | .sub, .Sub => true
  | .mul, .Mult => true
  | .fdiv, .FloorDiv => true
  | .mod, .Mod => true
  | .pow, .Pow => true
  | _, _ => false
theorem opB_ok {o : Op} {p : Operator} (h : opB o p = true) : p = opy o := by
  cases o <;> cases p <;> first | rfl | (cases h)
def cmB : Cm → CmpOp → Bool
  | .eq, .Eq => true
  | .ne, .NotEq => true
  | .is, .Is => true
  | .isn, .IsNot => true
  | .lt, .Lt => true
  | .le, .LtE => true
  | .gt, .Gt => true
  | .ge, .GtE => true
  | .isin, .In => true
  | .nin, .NotIn => true
  | _, _ => false
theorem cmB_ok {o : Cm} {p : CmpOp} (h : cmB o p = true) : p = cpy o := by
  cases o <;> cases p <;> first | rfl | (cases h)
def nmB (l : List Str) (i : Nat) (x : Str) : Bool := match l[i]? with
  | some y => y == x
  | none => false
def isSet : Expr → Bool
  | .Set _ _ _ => true
  | _ => false
theorem noSet_ok {e : Expr} (h : isSet e = false) (env : PySem.Env) (x : Value) : foldedSetIterable e env x = pure x := by
  cases e <;> first | rfl | (cases h)
section
variable (tb : Tab) (N : List Str)
mutual
def ckE : E → Nms → Expr → Bool
  | .var i => fun sc x => match x with
    | .Name y _ => okVar N sc i y
    | _ => false
  | .cst d => fun _ x => cstB d x
  | .glo i => fun sc x => match x with
    | .Name y _ => nmB tb.gnm i y && glB sc y && !oddName y
    | _ => false
  | .bin o a b => fun sc x => match x with
    | .BinOp l op r _ => opB o op && ckE a sc l && ckE b sc r
    | _ => false
  | .neg a => fun sc x => match x with
    | .UnaryOp .USub l _ => ckE a sc l
    | _ => false
  | .cmp o a b => fun sc x => match x with
    | .Compare l [op] [r] _ => cmB o op && ckE a sc l && ckE b sc r && !behindInMarks (cpy o) r
    | _ => false
  | .chn o p a b c => fun sc x => match x with
    | .Compare l [op, op2] [r, r2] _ => cmB o op && cmB p op2 && ckE a sc l && ckE b sc r && ckE c sc r2 && !lastMarks [cpy o, cpy p] [r, r2]
    | _ => false
  | .chn3 o p q a b c d => fun sc x => match x with
    | .Compare l [op, op2, op3] [r, r2, r3] _ => cmB o op && cmB p op2 && cmB q op3 && ckE a sc l && ckE b sc r && ckE c sc r2 && ckE d sc r3 && !lastMarks [cpy o, cpy p, cpy q] [r, r2, r3]
    | _ => false
  | .andN es => fun sc x => match x with
    | .BoolOp .And (y :: ys) _ => ckEs es sc (y :: ys)
    | _ => false
  | .orN es => fun sc x => match x with
    | .BoolOp .Or (y :: ys) _ => ckEs es sc (y :: ys)
    | _ => false
  | .not a => fun sc x => match x with
    | .UnaryOp .Not l _ => ckE a sc l
    | _ => false
  | .ite c a b => fun sc x => match x with
    | .IfExp t l r _ => ckE c sc t && ckE a sc l && ckE b sc r
    | _ => false
  | .tup es => fun sc x => match x with
    | .Tuple xs _ _ => ckEs es sc xs && xs.all noStar
    | _ => false
  | .ls es => fun sc x => match x with
    | .List xs _ => ckEs es sc xs && xs.all noStar
    | _ => false
  | .mk e => fun sc x => ckL e sc x
  | .call f es => fun sc x => match x with
    | .Call (.Name y _) xs [] _ => nmB tb.fnm f y && glB sc y && !oddName y && ckEs es sc xs && xs.all noStar
    | _ => false
  | .pri p es => fun sc x => match x with
    | .Call (.Name y _) (z :: zs) [] _ => (match p with
      | .isi t => (match zs with
        | [.Name w _] => y == ("isinstance" : Str) && w == tyP t && glB sc "isinstance" && glB sc (tyP t) && ckEs es sc [z] && noStar z
        | _ => false)
      | p => priOk p && y == priN p && glB sc (priN p) && ckEs es sc (z :: zs) && (z :: zs).all noStar)
    | _ => false
  | .meth m o es => fun sc x => match x with
    | .Call (.Attribute y a ap) xs [] cp => ckE o sc y && plainO y && (ap.endLine == cp.line) && (match m with
      | .append => a == ("append" : Str) && (match xs with
        | [z] => ckEs es sc [z] && noStar z
        | _ => false)
      | .popAt => a == ("pop" : Str) && (match xs with
        | [z] => ckEs es sc [z] && noStar z
        | _ => false)
      | .pop => a == ("pop" : Str) && (match xs with
        | [] => ckEs es sc []
        | _ => false)
      | _ => false)
    | _ => false
  | .idx a b => fun sc x => match x with
    | .Subscript l r _ => plainIx r && ckE a sc l && ckE b sc r
    | _ => false
  | .sli a lo hi => fun sc x => match x with
    | .Subscript l (.Slice u v none _) _ => ckE a sc l && ckO lo sc u && ckO hi sc v
    | _ => false
  | .rev a => fun sc x => match x with
    | .Subscript l (.Slice none none (some (.UnaryOp .USub (.Constant (.int 1) _ _) _)) _) _ => ckE a sc l
    | _ => false
  | .revT a => fun sc x => match x with
    | .Subscript l (.Slice none none (some (.UnaryOp .USub (.Constant (.int 1) _ _) _)) _) _ => ckE a sc l
    | _ => false
  | .rng1 a => fun sc x => match x with
    | .Call (.Name y _) [z] [] _ => y == ("range" : Str) && glB sc "range" && ckE a sc z && noStar z
    | _ => false
  | .lc c => fun sc x => ckC c sc x
  | .dic0 => fun _ _ => false
  | .nev => fun _ _ => true
  termination_by structural e => e
def ckEs : Es → Nms → List Expr → Bool
  | .nil => fun _ xs => match xs with
    | [] => true
    | _ => false
  | .cons e r => fun sc xs => match xs with
    | x :: xs => ckE e sc x && ckEs r sc xs
    | _ => false
  termination_by structural e => e
def ckO : Eo → Nms → Option Expr → Bool
  | .none => fun _ x => match x with
    | none => true
    | _ => false
  | .some e => fun sc x => match x with
    | some x => ckE e sc x
    | _ => false
  termination_by structural e => e
def ckL : EL → Nms → Expr → Bool
  | .ls es => fun sc x => match x with
    | .List xs _ => ckEs es sc xs && xs.all noStar
    | _ => false
  | .cat a b => fun sc x => match x with
    | .BinOp l .Add r _ => ckE a sc l && ckE b sc r
    | _ => false
  | .rep a b => fun sc x => match x with
    | .BinOp l .Mult r _ => ckE a sc l && ckE b sc r
    | _ => false
  | .lc c => fun sc x => ckC c sc x
  | .listOf e => fun sc x => match x with
    | .Call (.Name y _) [z] [] _ => y == ("list" : Str) && glB sc "list" && ckE e sc z && noStar z
    | _ => false
  termination_by structural e => e
def ckC : EC → Nms → Expr → Bool
  | .c1 elt t it c => fun sc x => match x with
    | .ListComp el [⟨tg, iter, ifs, 0⟩] scope _ => tgB N scope.names t tg && ckI it sc tg iter && ckCond c scope.names ifs && ckE elt scope.names el && blkB N sc scope (ownT t tg) && !isSet iter
    | _ => false
  | .c2 elt t it c t2 it2 c2 => fun sc x => match x with
    | .ListComp el [⟨tg, iter, ifs, 0⟩, ⟨tg2, iter2, ifs2, 0⟩] scope _ => tgB N scope.names t tg && ckI it sc tg iter && ckCond c scope.names ifs && ckE elt scope.names el && blkB N sc scope (ownT t tg ++ ownT t2 tg2) && !isSet iter
      && tgB N scope.names t2 tg2 && ckI it2 scope.names tg2 iter2 && ckCond c2 scope.names ifs2 && !isSet iter2
    | _ => false
  termination_by structural e => e
def ckCond : Eo → Nms → List Expr → Bool
  | .none => fun _ xs => match xs with
    | [] => true
    | _ => false
  | .some e => fun sc xs => match xs with
    | [x] => ckE e sc x
    | _ => false
  termination_by structural e => e
def ckI : I → Nms → Expr → Expr → Bool
  | .seq e => fun sc _ x => ckE e sc x
  | .rv e => fun sc _ x => ckE e sc x
  | .rg1 a => fun sc _ x => match x with
    | .Call (.Name y _) [z] [] _ => y == ("range" : Str) && glB sc "range" && ckE a sc z && noStar z
    | _ => false
  | .rg2 a b => fun sc _ x => match x with
    | .Call (.Name y _) [z, w] [] _ => y == ("range" : Str) && glB sc "range" && ckE a sc z && ckE b sc w && noStar z && noStar w
    | _ => false
  | .rg3 a b _ => fun sc _ x => match x with
    | .Call (.Name y _) [z, w, v] [] _ => y == ("range" : Str) && glB sc "range" && ckE a sc z && ckE b sc w && noStar z && noStar w && isM1 v
    | _ => false
  | .enum e => fun sc tg x => match x with
    | .Call (.Name y _) [z] [] _ => isTupE tg && y == ("enumerate" : Str) && glB sc "enumerate" && ckE e sc z && noStar z
    | _ => false
  | .zip a b => fun sc tg x => match x with
    | .Call (.Name y _) [z, w] [] _ => isTupE tg && y == ("zip" : Str) && glB sc "zip" && ckE a sc z && ckE b sc w && noStar z && noStar w
    | _ => false
  termination_by structural e => e
end
end
end Ri
set_option maxHeartbeats 4000000
namespace Ri
open PySem PySem.Spec PyProof.Rows L2

theorem ownTs_slots {N : List Str} {sc : Nms} : ∀ {is : List Nat} {es : List Expr}, tgNms N sc is es = true → (ownT.ownTs is es).map (·.2) = is := by
  intro is
  induction is with
  | nil =>
    intro es h
    cases es with
    | nil => rfl
    | cons e es => cases h
  | cons i is ih =>
    intro es h
    cases es with
    | nil => cases h
    | cons e es =>
      cases e with
      | Name x p =>
        obtain ⟨_, h2⟩ := two_and (show (okLoc N sc i x && tgNms N sc is es) = true from h)
        show i :: (ownT.ownTs is es).map (·.2) = i :: is
        rw [ih h2]
      | _ => cases h
theorem ownT_slots {N : List Str} {sc : Nms} {t : T} {e : Expr} (h : tgB N sc t e = true) : (ownT t e).map (·.2) = slots t := by
  cases t with
  | nm i =>
    cases e with
    | Name x p => rfl
    | _ => cases h
  | tp is =>
    cases e with
    | Tuple es k p => exact ownTs_slots h
    | _ => cases h
theorem dn_listOf {X : Cx} {XR : XRel} {E : XK} {C : Ctx} {tb : Tab} {N : List Str} {sc : Nms} {a : Expr} {f : Env → M D} {p pos : Pos} (c : Cok X XR E C tb N sc) (hg : glB sc "list" = true) (ha : PE X a (tE X.K XR E f)) (hs : noStar a = true) :
    PE X (.Call (.Name "list" p) [a] [] pos) (tN X.K XR E fun ρ => bnd (f ρ) fun x => fun S => ofO (seqOf S x) S) := (pe_callTy call_list_of (c.gl _ hg) (c.blt _ (by decide)) (by decide +kernel) (one_arg ha hs) (by decide) (by decide) (noStar_ok hs _ _) rfl).imp fun σ H Q h => by
  obtain ⟨ρ, S, m, r, A, h⟩ := tN_of h
  refine ⟨ρ, S, m, r, A, (Post.bind h).imp fun x m1 S1 H1 g1 s1 c1 q v rv => ?_⟩
  obtain ⟨l, e, q⟩ := Post.ofO q
  obtain ⟨a, xs, rfl, rl, sq⟩ := seq_inv s1 rv e
  exact ⟨a, xs, rfl, sq_or sq, Post.here (S := S1) q s1 c1 xs rl⟩
theorem de_neg {X : Cx} {XR : XRel} {E : XK} {a : Expr} {f : Env → M D} {pos : Pos} (ha : PE X a (tE X.K XR E f)) : DE X XR E (.UnaryOp .USub a pos) (vt (negF f)) := by
  refine de_vt ((pe_un un_neg ha).imp fun σ H Q h => ?_) rfl
  obtain ⟨ρ, S, m, r, A, h⟩ := h
  refine ⟨ρ, S, m, r, A, (Post.bind h).imp fun x m1 S1 H1 g1 s1 c1 q v rv => ?_⟩
  cases x with
  | int i => exact ⟨i, rv, PostV.val (S := S1) q s1 c1 rfl⟩
  | _ => exact q.elim
def revF (f : Env → M D) : Env → M D := fun ρ => bnd (f ρ) fun x => fun S => ofO (revD S x) S
theorem de_rev {X : Cx} {XR : XRel} {E : XK} {a : Expr} {f : Env → M D} {k : Nat} {p1 p2 p3 pos : Pos} (ha : PE X a (tE X.K XR E f)) : DE X XR E (.Subscript a (.Slice none none (some (.UnaryOp .USub (.Constant (.int 1) k p1) p2)) p3) pos) (vt (revF f)) := by
  refine de_vt ((pe_revL ha).imp fun σ H Q h => ?_) rfl
  obtain ⟨ρ, S, m, r, A, h⟩ := h
  refine ⟨ρ, S, m, r, A, (Post.bind h).imp fun x m1 S1 H1 g1 s1 c1 q v rv => ?_⟩
  obtain ⟨d, e, q⟩ := Post.ofO q
  unfold revD at e
  cases e1 : lstOf S1 x with
  | none => rw [e1] at e; cases e
  | some l =>
    rw [e1] at e
    cases e
    obtain ⟨a, xs, rfl, hx, rl⟩ := lstOf_inv s1 rv e1
    exact ⟨a, xs, rfl, SqL.of hx, PostV.lst q s1 c1 rl.reverse⟩
def revTF (f : Env → M D) : Env → M D := fun ρ => bnd (f ρ) fun x => match x with
    | .tup l => ret (.tup l.reverse)
    | _ => bad
theorem de_revT {X : Cx} {XR : XRel} {E : XK} {a : Expr} {f : Env → M D} {k : Nat} {p1 p2 p3 pos : Pos} (ha : PE X a (tE X.K XR E f)) : DE X XR E (.Subscript a (.Slice none none (some (.UnaryOp .USub (.Constant (.int 1) k p1) p2)) p3) pos) (vt (revTF f)) := by
  refine de_vt ((pe_revT ha).imp fun σ H Q h => ?_) rfl
  obtain ⟨ρ, S, m, r, A, h⟩ := h
  refine ⟨ρ, S, m, r, A, (Post.bind h).imp fun x m1 S1 H1 g1 s1 c1 q v rv => ?_⟩
  cases x with
  | tup l =>
    obtain ⟨a, xs, rfl, t, rl⟩ := rv
    exact ⟨a, xs, rfl, t.sq, PostV.tup (S := S1) q s1 c1 rl.reverse⟩
  | _ => exact q.elim
def rng1F (f : Env → M D) : Env → M D := fun ρ => bnd (f ρ) fun x => match x with
    | .int i => if okR i then ret (.rng 0 i) else bad
    | _ => bad
theorem de_rng1 {X : Cx} {XR : XRel} {E : XK} {C : Ctx} {tb : Tab} {N : List Str} {sc : Nms} {a : Expr} {f : Env → M D} {p1 pos : Pos} (c : Cok X XR E C tb N sc) (hg : glB sc "range" = true) (ha : PE X a (tE X.K XR E f)) (hs : noStar a = true) : DE X XR E (.Call (.Name "range" p1) [a] [] pos) (vt (rng1F f)) := by
  refine de_vt ((pe_callTy cr_rangeV (c.gl _ hg) (c.blt _ (by decide)) (by decide +kernel) (one_arg ha hs) (by decide) (by decide) (noStar_ok hs _ _) rfl).imp fun σ H Q h => ?_) rfl
  obtain ⟨ρ, S, m, r, A, h⟩ := h
  refine ⟨ρ, S, m, r, A, (Post.bind h).imp fun x m1 S1 H1 g1 s1 c1 q v rv => ?_⟩
  cases x with
  | int i =>
    obtain ⟨h1, q⟩ := okIf q
    refine ⟨i, by rw [show v = V.int i from rv], fun p hp => ?_⟩
    have g : Grow m1 H1 m1 (upd H1 p (.rng 0 i)) := Grow.new1 hp
    have nm : p ∉ m1 := fun z => s1.m_some z hp
    exact q m1 _ g (s1.new1 hp) c1 (.ref p) ⟨p, rfl, upd_same, nm⟩
  | _ => exact q.elim
def rvF (f : Env → M D) : Env → M It := fun ρ => bnd (f ρ) fun x => match x with
    | .rng lo hi => if okR lo && okR hi then ret (.snap (rngL lo (hi - lo).toNat)) else bad
    | _ => bad
theorem di_rv {X : Cx} {XR : XRel} {E : XK} {a tg : Expr} {f : Env → M D} (ha : PE X a (tE X.K XR E f)) : PI X tg a (tI X.K XR E (rvF f)) := (pi_rngV ha).imp fun σ H R h => by
  obtain ⟨ρ, S, m, r, A, h⟩ := h
  refine ⟨ρ, S, m, r, A, (Post.bind h).imp fun x m1 S1 H1 g1 s1 c1 q v rv => ?_⟩
  cases x with
  | rng lo hi =>
    obtain ⟨h1, q⟩ := okIf q
    obtain ⟨h1, h1'⟩ := two_and h1
    obtain ⟨h2, h3⟩ := okR_lt h1
    obtain ⟨h4, h5⟩ := okR_lt h1'
    obtain ⟨a, rfl, ha, _⟩ := rv
    exact ⟨a, lo, hi, rfl, ha, ⟨h2, h3, h4, h5⟩, Post.here (S := S1) q s1 c1 _ (snap_r lo _)⟩
  | _ => exact q.elim
theorem evs_nil_of {C : Ctx} {tb : Tab} {N : List Str} {sc : Nms} {es : Es} (h : ckEs tb N es sc [] = true) : es = .nil := by
  cases es with
  | nil => rfl
  | cons e r => cases h
theorem evs_one_of {C : Ctx} {tb : Tab} {N : List Str} {sc : Nms} {es : Es} {z : Expr} (h : ckEs tb N es sc [z] = true) : ∃ e, es = .cons e .nil ∧ ckE tb N e sc z = true := by
  cases es with
  | nil => cases h
  | cons e r =>
    obtain ⟨h1, h2⟩ := two_and (show (ckE tb N e sc z && ckEs tb N r sc []) = true from h)
    rw [evs_nil_of (C := C) h2]
    exact ⟨e, rfl, h1⟩
/-- the first of a list of expressions -/
def hdV (C : Ctx) : Es → VT
  | .nil => ⟨fun _ => bad, fun _ => bad⟩
  | .cons e _ => ev2 C e
section
variable {XR : XRel} {C : Ctx} {tb : Tab} {N : List Str}
mutual
theorem okE : ∀ (e : E) {X : Cx} {E : XK} {sc : Nms}, Cok X XR E C tb N sc → ∀ x : Expr, ckE tb N e sc x = true → DE X XR E x (ev2 C e)
  | .var i, X, E, sc, c, x, h => by
    cases x with
    | Name y p => exact ck_var c h
    | _ => cases h
  | .cst d, X, E, sc, c, x, h => ck_cst h
  | .glo i, X, E, sc, c, x, h => by
    cases x with
    | Name y p =>
      obtain ⟨h, h3⟩ := two_and (show (nmB tb.gnm i y && glB sc y && !oddName y) = true from h)
      obtain ⟨h1, h2⟩ := two_and h
      exact ck_glo c h1 h2 h3
    | _ => cases h
  | .bin o a b, X, E, sc, c, x, h => by
    cases x with
    | BinOp l op r p =>
      obtain ⟨h, h3⟩ := two_and (show (opB o op && ckE tb N a sc l && ckE tb N b sc r) = true from h)
      obtain ⟨h1, h2⟩ := two_and h
      rw [opB_ok h1]
      exact de_vt (de_arith o (okE a c l h2).v (okE b c r h3).v) rfl
    | _ => cases h
  | .neg a, X, E, sc, c, x, h => by
    have h : (match (generalizing := false) x with
      | .UnaryOp .USub l _ => ckE tb N a sc l
      | _ => false) = true := h
    split at h
    · exact de_neg (okE a c _ h).v
    · cases h
  | .cmp o a b, X, E, sc, c, x, h => by
    have h : (match (generalizing := false) x with
      | .Compare l [op] [r] _ => cmB o op && ckE tb N a sc l && ckE tb N b sc r && !behindInMarks (cpy o) r
      | _ => false) = true := h
    split at h
    · obtain ⟨h, h4⟩ := two_and h
      obtain ⟨h, h3⟩ := two_and h
      obtain ⟨h1, h2⟩ := two_and h
      rw [cmB_ok h1]
      exact de_cmp o c.un (okE a c _ h2).v (okE b c _ h3).v (by simpa using h4)
    · cases h
  | .chn o p a b d, X, E, sc, c, x, h => by
    have h : (match (generalizing := false) x with
      | .Compare l [op, op2] [r, r2] _ => cmB o op && cmB p op2 && ckE tb N a sc l && ckE tb N b sc r && ckE tb N d sc r2 && !lastMarks [cpy o, cpy p] [r, r2]
      | _ => false) = true := h
    split at h
    · obtain ⟨h, h6⟩ := two_and h
      obtain ⟨h, h5⟩ := two_and h
      obtain ⟨h, h4⟩ := two_and h
      obtain ⟨h, h3⟩ := two_and h
      obtain ⟨h1, h2⟩ := two_and h
      rw [cmB_ok h1, cmB_ok h2]
      exact de_chn o p c.un (okE a c _ h3).v (okE b c _ h4).v (okE d c _ h5).v (by simpa using h6)
    · cases h
  | .chn3 o p q a b d f, X, E, sc, c, x, h => by
    have h : (match (generalizing := false) x with
      | .Compare l [op, op2, op3] [r, r2, r3] _ => cmB o op && cmB p op2 && cmB q op3 && ckE tb N a sc l && ckE tb N b sc r && ckE tb N d sc r2 && ckE tb N f sc r3 && !lastMarks [cpy o, cpy p, cpy q] [r, r2, r3]
      | _ => false) = true := h
    split at h
    · obtain ⟨h, h8⟩ := two_and h
      obtain ⟨h, h7⟩ := two_and h
      obtain ⟨h, h6⟩ := two_and h
      obtain ⟨h, h5⟩ := two_and h
      obtain ⟨h, h4⟩ := two_and h
      obtain ⟨h, h3⟩ := two_and h
      obtain ⟨h1, h2⟩ := two_and h
      rw [cmB_ok h1, cmB_ok h2, cmB_ok h3]
      exact de_chn3 o p q c.un (okE a c _ h4).v (okE b c _ h5).v (okE d c _ h6).v (okE f c _ h7).v (by simpa using h8)
    · cases h
  | .andN es, X, E, sc, c, x, h => by
    have h : (match (generalizing := false) x with
      | .BoolOp .And (y :: ys) _ => ckEs tb N es sc (y :: ys)
      | _ => false) = true := h
    split at h
    · exact ⟨(okAnd es c _ _ h).1 (by simp), (okAnd es c _ _ h).2.pt⟩
    · cases h
  | .orN es, X, E, sc, c, x, h => by
    have h : (match (generalizing := false) x with
      | .BoolOp .Or (y :: ys) _ => ckEs tb N es sc (y :: ys)
      | _ => false) = true := h
    split at h
    · exact ⟨(okOr es c _ _ h).1 (by simp), (okOr es c _ _ h).2.pt⟩
    · cases h
  | .not a, X, E, sc, c, x, h => by
    have h : (match (generalizing := false) x with
      | .UnaryOp .Not l _ => ckE tb N a sc l
      | _ => false) = true := h
    split at h
    · exact de_not (okE a c _ h)
    · cases h
  | .ite t a b, X, E, sc, c, x, h => by
    cases x with
    | IfExp y l r p =>
      obtain ⟨h, h3⟩ := two_and (show (ckE tb N t sc y && ckE tb N a sc l && ckE tb N b sc r) = true from h)
      obtain ⟨h1, h2⟩ := two_and h
      exact de_ite (okE t c y h1) (okE a c l h2) (okE b c r h3)
    | _ => cases h
  | .tup es, X, E, sc, c, x, h => by
    cases x with
    | Tuple xs k p =>
      obtain ⟨h1, h2⟩ := two_and (show (ckEs tb N es sc xs && xs.all noStar) = true from h)
      exact de_vt (de_tup (okEs es c xs h1 h2)) rfl
    | _ => cases h
  | .ls es, X, E, sc, c, x, h => by
    cases x with
    | List xs p =>
      obtain ⟨h1, h2⟩ := two_and (show (ckEs tb N es sc xs && xs.all noStar) = true from h)
      exact de_vt ((dn_ls (okEs es c xs h1 h2)).imp fun σ H Q q => tN_lst q) rfl
    | _ => cases h
  | .mk e, X, E, sc, c, x, h => by
    have hp : plainT x = true := by
      cases e with
      | ls es => cases x <;> first | rfl | (cases h)
      | cat a b => cases x <;> first | rfl | (cases h)
      | rep a b => cases x <;> first | rfl | (cases h)
      | lc k => cases k <;> (cases x <;> first | rfl | (cases h))
      | listOf a => cases x <;> first | rfl | (cases h)
    exact de_vt ((okL e c x h).imp fun σ H Q q => tN_ref q) hp
  | .call f es, X, E, sc, c, x, h => by
    have h : (match (generalizing := false) x with
      | .Call (.Name y _) xs [] _ => nmB tb.fnm f y && glB sc y && !oddName y && ckEs tb N es sc xs && xs.all noStar
      | _ => false) = true := h
    split at h
    · rename_i y p xs q zz
      obtain ⟨h, h5⟩ := two_and h
      obtain ⟨h, h4⟩ := two_and h
      obtain ⟨h, h3⟩ := two_and h
      obtain ⟨h1, h2⟩ := two_and h
      cases xs with
      | nil =>
        rw [evs_nil_of (C := C) h4]
        exact ck_call0 c h1 h2 h3
      | cons z zs => exact ck_call c h1 h2 h3 (okEs es c _ h4 h5) h5
    · cases h
  | .pri p es, X, E, sc, c, x, h => by
    have h : (match (generalizing := false) x with
      | .Call (.Name y _) (z :: zs) [] _ => (match (generalizing := false) p with
        | .isi t => (match (generalizing := false) zs with
          | [.Name w _] => y == ("isinstance" : Str) && w == tyP t && glB sc "isinstance" && glB sc (tyP t) && ckEs tb N es sc [z] && noStar z
          | _ => false)
        | p => priOk p && y == priN p && glB sc (priN p) && ckEs tb N es sc (z :: zs) && (z :: zs).all noStar)
      | _ => false) = true := h
    split at h
    · rename_i y p1 z zs p2 zz
      have gen : (priOk p && y == priN p && glB sc (priN p) && ckEs tb N es sc (z :: zs) && (z :: zs).all noStar) = true → DE X XR E (.Call (.Name y p1) (z :: zs) [] p2) (ev2 C (.pri p es)) := fun h => by
        obtain ⟨h, h5⟩ := two_and h
        obtain ⟨h, h4⟩ := two_and h
        obtain ⟨h, h3⟩ := two_and h
        obtain ⟨h1, h2⟩ := two_and h
        rw [eq_of_beq h2]
        exact ck_pri c h1 h3 (okEs es c _ h4 h5) h5
      cases p with
      | isi t =>
        have h : (match (generalizing := false) zs with
          | [.Name w _] => y == ("isinstance" : Str) && w == tyP t && glB sc "isinstance" && glB sc (tyP t) && ckEs tb N es sc [z] && noStar z
          | _ => false) = true := h
        split at h
        · obtain ⟨h, h6⟩ := two_and h
          obtain ⟨h, h5⟩ := two_and h
          obtain ⟨h, h4⟩ := two_and h
          obtain ⟨h, h3⟩ := two_and h
          obtain ⟨h1, h2⟩ := two_and h
          rw [eq_of_beq h1, eq_of_beq h2]
          obtain ⟨e, he, hz⟩ := evs_one_of (C := C) h5
          have de := okHd es c z h5
          subst he
          exact ck_isi c h3 h4 de h6
        · cases h
      | _ => exact gen h
    · cases h
  | .meth m o es, X, E, sc, c, x, h => by
    have h : (match (generalizing := false) x with
      | .Call (.Attribute y a ap) xs [] cp => ckE tb N o sc y && plainO y && (ap.endLine == cp.line) && (match (generalizing := false) m with
        | .append => a == ("append" : Str) && (match (generalizing := false) xs with
          | [z] => ckEs tb N es sc [z] && noStar z
          | _ => false)
        | .popAt => a == ("pop" : Str) && (match (generalizing := false) xs with
          | [z] => ckEs tb N es sc [z] && noStar z
          | _ => false)
        | .pop => a == ("pop" : Str) && (match (generalizing := false) xs with
          | [] => ckEs tb N es sc []
          | _ => false)
        | _ => false)
      | _ => false) = true := h
    split at h
    · rename_i y a ap xs cp zz
      obtain ⟨h, h4⟩ := two_and h
      obtain ⟨h, h3⟩ := two_and h
      obtain ⟨h1, h2⟩ := two_and h
      cases m with
      | append =>
        obtain ⟨h5, h6⟩ := two_and h4
        split at h6
        · rename_i z
          obtain ⟨h6, h7⟩ := two_and h6
          have hv := okHd es c z h6
          obtain ⟨e, rfl, hz⟩ := evs_one_of (C := C) h6
          rw [eq_of_beq h5]
          exact ck_append (okE o c y h1).v hv h2 h7 h3
        · cases h6
      | popAt =>
        obtain ⟨h5, h6⟩ := two_and h4
        split at h6
        · rename_i z
          obtain ⟨h6, h7⟩ := two_and h6
          have hv := okHd es c z h6
          obtain ⟨e, rfl, hz⟩ := evs_one_of (C := C) h6
          rw [eq_of_beq h5]
          exact ck_popAt (okE o c y h1).v hv h2 h7 h3
        · cases h6
      | pop =>
        obtain ⟨h5, h6⟩ := two_and h4
        split at h6
        · rw [eq_of_beq h5, evs_nil_of (C := C) h6]
          exact ck_pop (okE o c y h1).v h2 h3
        · cases h6
      | _ => cases h4
    · cases h
  | .idx a b, X, E, sc, c, x, h => by
    cases x with
    | Subscript l r p =>
      obtain ⟨h, h3⟩ := two_and (show (plainIx r && ckE tb N a sc l && ckE tb N b sc r) = true from h)
      obtain ⟨h1, h2⟩ := two_and h
      exact ck_idx (okE a c l h2).v (okE b c r h3).v h1
    | _ => cases h
  | .sli a lo hi, X, E, sc, c, x, h => by
    have h : (match (generalizing := false) x with
      | .Subscript l (.Slice u v none _) _ => ckE tb N a sc l && ckO tb N lo sc u && ckO tb N hi sc v
      | _ => false) = true := h
    split at h
    · obtain ⟨h, h3⟩ := two_and h
      obtain ⟨h1, h2⟩ := two_and h
      exact ck_sli (okE a c _ h1).v (okO lo c _ h2) (okO hi c _ h3)
    · cases h
  | .rev a, X, E, sc, c, x, h => by
    have h : (match (generalizing := false) x with
      | .Subscript l (.Slice none none (some (.UnaryOp .USub (.Constant (.int 1) _ _) _)) _) _ => ckE tb N a sc l
      | _ => false) = true := h
    split at h
    · exact de_rev (okE a c _ h).v
    · cases h
  | .revT a, X, E, sc, c, x, h => by
    have h : (match (generalizing := false) x with
      | .Subscript l (.Slice none none (some (.UnaryOp .USub (.Constant (.int 1) _ _) _)) _) _ => ckE tb N a sc l
      | _ => false) = true := h
    split at h
    · exact de_revT (okE a c _ h).v
    · cases h
  | .rng1 a, X, E, sc, c, x, h => by
    have h : (match (generalizing := false) x with
      | .Call (.Name y _) [z] [] _ => y == ("range" : Str) && glB sc "range" && ckE tb N a sc z && noStar z
      | _ => false) = true := h
    split at h
    · obtain ⟨h, h4⟩ := two_and h
      obtain ⟨h, h3⟩ := two_and h
      obtain ⟨h1, h2⟩ := two_and h
      rw [eq_of_beq h1]
      exact de_rng1 c h2 (okE a c _ h3).v h4
    · cases h
  | .lc k, X, E, sc, c, x, h => by
    have hp : plainT x = true := by
      cases k <;> (cases x <;> first | rfl | (cases h))
    exact de_vt ((okC k c x h).imp fun σ H Q q => tN_lst q) hp
  | .dic0, X, E, sc, c, x, h => by cases h
  | .nev, X, E, sc, c, x, h => de_nev
  termination_by structural e => e
theorem okHd : ∀ (es : Es) {X : Cx} {E : XK} {sc : Nms}, Cok X XR E C tb N sc → ∀ z : Expr, ckEs tb N es sc [z] = true → PE X z (tE X.K XR E (hdV C es).v)
  | .nil, X, E, sc, c, z, h => by cases h
  | .cons e r, X, E, sc, c, z, h => (okE e c z (two_and (show (ckE tb N e sc z && ckEs tb N r sc []) = true from h)).1).v
  termination_by structural es => es
theorem okEs : ∀ (es : Es) {X : Cx} {E : XK} {sc : Nms}, Cok X XR E C tb N sc → ∀ xs : List Expr, ckEs tb N es sc xs = true → (xs.all noStar) = true → PA X xs (tA X.K XR E (evs C es))
  | .nil, X, E, sc, c, xs, h, hs => by
    cases xs with
    | nil => exact da_nil
    | cons x xs => cases h
  | .cons e r, X, E, sc, c, xs, h, hs => by
    cases xs with
    | nil => cases h
    | cons x xs =>
      obtain ⟨h1, h2⟩ := two_and (show (ckE tb N e sc x && ckEs tb N r sc xs) = true from h)
      obtain ⟨s1, s2⟩ := two_and (show (noStar x && xs.all noStar) = true from hs)
      exact da_cons (okE e c x h1).v (okEs r c xs h2 s2) s1
  termination_by structural es => es
theorem okAnd : ∀ (es : Es) {X : Cx} {E : XK} {sc : Nms}, Cok X XR E C tb N sc → ∀ (xs : List Expr) (p : Pos), ckEs tb N es sc xs = true → (xs ≠ [] → PE X (.BoolOp .And xs p) (tE X.K XR E (evAnd C es))) ∧ PW X (.BoolOp .And xs p) (tT X.K XR E (tsAnd C es))
  | .nil, X, E, sc, c, xs, p, h => by
    cases xs with
    | nil => exact ⟨fun z => absurd rfl z, pw_nilA⟩
    | cons x xs => cases h
  | .cons e r, X, E, sc, c, xs, p, h => by
    cases xs with
    | nil => cases h
    | cons x xs =>
      obtain ⟨h1, h2⟩ := two_and (show (ckE tb N e sc x && ckEs tb N r sc xs) = true from h)
      have de := okE e c x h1
      obtain ⟨i1, i2⟩ := okAnd r c xs p h2
      refine ⟨fun _ => ?_, pw_consA de.t i2⟩
      cases xs with
      | nil =>
        have er : r = .nil := evs_nil_of (C := C) h2
        subst er
        exact pe_oneA de.v
      | cons y ys => exact pe_consA de.v (i1 (by simp))
  termination_by structural es => es
theorem okOr : ∀ (es : Es) {X : Cx} {E : XK} {sc : Nms}, Cok X XR E C tb N sc → ∀ (xs : List Expr) (p : Pos), ckEs tb N es sc xs = true → (xs ≠ [] → PE X (.BoolOp .Or xs p) (tE X.K XR E (evOr C es))) ∧ PW X (.BoolOp .Or xs p) (tT X.K XR E (tsOr C es))
  | .nil, X, E, sc, c, xs, p, h => by
    cases xs with
    | nil => exact ⟨fun z => absurd rfl z, pw_nilO⟩
    | cons x xs => cases h
  | .cons e r, X, E, sc, c, xs, p, h => by
    cases xs with
    | nil => cases h
    | cons x xs =>
      obtain ⟨h1, h2⟩ := two_and (show (ckE tb N e sc x && ckEs tb N r sc xs) = true from h)
      have de := okE e c x h1
      obtain ⟨i1, i2⟩ := okOr r c xs p h2
      refine ⟨fun _ => ?_, pw_consO de.t i2⟩
      cases xs with
      | nil =>
        have er : r = .nil := evs_nil_of (C := C) h2
        subst er
        exact pe_oneO de.v
      | cons y ys => exact pe_consO de.v (i1 (by simp))
  termination_by structural es => es
theorem okO : ∀ (o : Eo) {X : Cx} {E : XK} {sc : Nms}, Cok X XR E C tb N sc → ∀ x : Option Expr, ckO tb N o sc x = true → PoOk X XR E x (evO C o)
  | .none, X, E, sc, c, x, h => by
    cases x with
    | none => exact po_no
    | some x => cases h
  | .some e, X, E, sc, c, x, h => by
    cases x with
    | none => cases h
    | some x => exact po_yes (okE e c x h).v
  termination_by structural o => o
theorem okL : ∀ (l : EL) {X : Cx} {E : XK} {sc : Nms}, Cok X XR E C tb N sc → ∀ x : Expr, ckL tb N l sc x = true → PE X x (tN X.K XR E (evL C l))
  | .ls es, X, E, sc, c, x, h => by
    cases x with
    | List xs p =>
      obtain ⟨h1, h2⟩ := two_and (show (ckEs tb N es sc xs && xs.all noStar) = true from h)
      exact dn_ls (okEs es c xs h1 h2)
    | _ => cases h
  | .cat a b, X, E, sc, c, x, h => by
    have h : (match (generalizing := false) x with
      | .BinOp l .Add r _ => ckE tb N a sc l && ckE tb N b sc r
      | _ => false) = true := h
    split at h
    · obtain ⟨h1, h2⟩ := two_and h
      exact dn_cat (okE a c _ h1).v (okE b c _ h2).v
    · cases h
  | .rep a b, X, E, sc, c, x, h => by
    have h : (match (generalizing := false) x with
      | .BinOp l .Mult r _ => ckE tb N a sc l && ckE tb N b sc r
      | _ => false) = true := h
    split at h
    · obtain ⟨h1, h2⟩ := two_and h
      exact dn_rep (okE a c _ h1).v (okE b c _ h2).v
    · cases h
  | .lc k, X, E, sc, c, x, h => okC k c x h
  | .listOf a, X, E, sc, c, x, h => by
    have h : (match (generalizing := false) x with
      | .Call (.Name y _) [z] [] _ => y == ("list" : Str) && glB sc "list" && ckE tb N a sc z && noStar z
      | _ => false) = true := h
    split at h
    · obtain ⟨h, h4⟩ := two_and h
      obtain ⟨h, h3⟩ := two_and h
      obtain ⟨h1, h2⟩ := two_and h
      rw [eq_of_beq h1]
      exact dn_listOf c h2 (okE a c _ h3).v h4
    · cases h
  termination_by structural l => l
theorem okC : ∀ (k : EC) {X : Cx} {E : XK} {sc : Nms}, Cok X XR E C tb N sc → ∀ x : Expr, ckC tb N k sc x = true → PE X x (tN X.K XR E (evC C k))
  | .c1 elt t it co, X, E, sc, c, x, h => by
    have h : (match (generalizing := false) x with
      | .ListComp el [⟨tg, iter, ifs, 0⟩] scope _ => tgB N scope.names t tg && ckI tb N it sc tg iter && ckCond tb N co scope.names ifs && ckE tb N elt scope.names el && blkB N sc scope (ownT t tg) && !isSet iter
      | _ => false) = true := h
    split at h
    · rename_i el tg iter ifs scope p zz
      obtain ⟨h, h6⟩ := two_and h
      obtain ⟨h, h5⟩ := two_and h
      obtain ⟨h, h4⟩ := two_and h
      obtain ⟨h, h3⟩ := two_and h
      obtain ⟨h1, h2⟩ := two_and h
      exact dn_c1 c (okI it c tg iter h2) (blk_ok c h5) (ownT_slots h1) (fun s H A cl fp => ck_tg (c.blk s H A cl fp scope) h1) (fun s H A cl fp => okCond co (c.blk s H A cl fp scope) ifs h3) (fun s H A cl fp => (okE elt (c.blk s H A cl fp scope) el h4).v) (noSet_ok (by simpa using h6) _)
    · cases h
  | .c2 elt t it co t2 it2 co2, X, E, sc, c, x, h => by
    have h : (match (generalizing := false) x with
      | .ListComp el [⟨tg, iter, ifs, 0⟩, ⟨tg2, iter2, ifs2, 0⟩] scope _ => tgB N scope.names t tg && ckI tb N it sc tg iter && ckCond tb N co scope.names ifs && ckE tb N elt scope.names el && blkB N sc scope (ownT t tg ++ ownT t2 tg2) && !isSet iter
        && tgB N scope.names t2 tg2 && ckI tb N it2 scope.names tg2 iter2 && ckCond tb N co2 scope.names ifs2 && !isSet iter2
      | _ => false) = true := h
    split at h
    · rename_i el tg iter ifs tg2 iter2 ifs2 scope p zz
      obtain ⟨h, h10⟩ := two_and h
      obtain ⟨h, h9⟩ := two_and h
      obtain ⟨h, h8⟩ := two_and h
      obtain ⟨h, h7⟩ := two_and h
      obtain ⟨h, h6⟩ := two_and h
      obtain ⟨h, h5⟩ := two_and h
      obtain ⟨h, h4⟩ := two_and h
      obtain ⟨h, h3⟩ := two_and h
      obtain ⟨h1, h2⟩ := two_and h
      exact dn_c2 c (okI it c tg iter h2) (blk_ok c h5) (by rw [List.map_append, ownT_slots h1, ownT_slots h7]) (fun s H A cl fp => ck_tg (c.blk s H A cl fp scope) h1) (fun s H A cl fp => okCond co (c.blk s H A cl fp scope) ifs h3)
        (fun s H A cl fp => okI it2 (c.blk s H A cl fp scope) tg2 iter2 h8) (fun s H A cl fp => ck_tg (c.blk s H A cl fp scope) h7) (fun s H A cl fp => okCond co2 (c.blk s H A cl fp scope) ifs2 h9)
        (fun s H A cl fp => (okE elt (c.blk s H A cl fp scope) el h4).v) (noSet_ok (by simpa using h6) _) (noSet_ok (by simpa using h10))
    · cases h
  termination_by structural k => k
theorem okCond : ∀ (o : Eo) {X : Cx} {E : XK} {sc : Nms}, Cok X XR E C tb N sc → ∀ xs : List Expr, ckCond tb N o sc xs = true → PTs X xs (tT X.K XR E (evCond C o))
  | .none, X, E, sc, c, xs, h => by
    cases xs with
    | nil => exact ⟨fun pins s σ H Q I q => pts_nil.run pins s σ H Q I q.ret⟩
    | cons x xs => cases h
  | .some e, X, E, sc, c, xs, h => by
    have h : (match (generalizing := false) xs with
      | [x] => ckE tb N e sc x
      | _ => false) = true := h
    split at h
    · exact pts_one (okE e c _ h).t
    · cases h
  termination_by structural o => o
theorem okI : ∀ (i : I) {X : Cx} {E : XK} {sc : Nms}, Cok X XR E C tb N sc → ∀ tg x : Expr, ckI tb N i sc tg x = true → PI X tg x (tI X.K XR E (evI C i))
  | .seq e, X, E, sc, c, tg, x, h => di_seq (okE e c x h).v
  | .rv a, X, E, sc, c, tg, x, h => di_rv (okE a c _ h).v
  | .rg1 a, X, E, sc, c, tg, x, h => by
    have h : (match (generalizing := false) x with
      | .Call (.Name y _) [z] [] _ => y == ("range" : Str) && glB sc "range" && ckE tb N a sc z && noStar z
      | _ => false) = true := h
    split at h
    · obtain ⟨h, h4⟩ := two_and h
      obtain ⟨h, h3⟩ := two_and h
      obtain ⟨h1, h2⟩ := two_and h
      rw [eq_of_beq h1]
      exact di_rg1 c h2 (okE a c _ h3).v h4
    · cases h
  | .rg2 a b, X, E, sc, c, tg, x, h => by
    have h : (match (generalizing := false) x with
      | .Call (.Name y _) [z, w] [] _ => y == ("range" : Str) && glB sc "range" && ckE tb N a sc z && ckE tb N b sc w && noStar z && noStar w
      | _ => false) = true := h
    split at h
    · obtain ⟨h, h6⟩ := two_and h
      obtain ⟨h, h5⟩ := two_and h
      obtain ⟨h, h4⟩ := two_and h
      obtain ⟨h, h3⟩ := two_and h
      obtain ⟨h1, h2⟩ := two_and h
      rw [eq_of_beq h1]
      exact di_rg2 c h2 (okE a c _ h3).v (okE b c _ h4).v h5 h6
    · cases h
  | .rg3 a b k, X, E, sc, c, tg, x, h => by
    have h : (match (generalizing := false) x with
      | .Call (.Name y _) [z, w, v] [] _ => y == ("range" : Str) && glB sc "range" && ckE tb N a sc z && ckE tb N b sc w && noStar z && noStar w && isM1 v
      | _ => false) = true := h
    split at h
    · obtain ⟨h, h7⟩ := two_and h
      obtain ⟨h, h6⟩ := two_and h
      obtain ⟨h, h5⟩ := two_and h
      obtain ⟨h, h4⟩ := two_and h
      obtain ⟨h, h3⟩ := two_and h
      obtain ⟨h1, h2⟩ := two_and h
      rw [eq_of_beq h1]
      exact di_rg3 c h2 (okE a c _ h3).v (okE b c _ h4).v h5 h6 h7 k
    · cases h
  | .enum e, X, E, sc, c, tg, x, h => by
    have h : (match (generalizing := false) x with
      | .Call (.Name y _) [z] [] _ => isTupE tg && y == ("enumerate" : Str) && glB sc "enumerate" && ckE tb N e sc z && noStar z
      | _ => false) = true := h
    split at h
    · obtain ⟨h, h5⟩ := two_and h
      obtain ⟨h, h4⟩ := two_and h
      obtain ⟨h, h3⟩ := two_and h
      obtain ⟨h1, h2⟩ := two_and h
      rw [eq_of_beq h2]
      cases tg with
      | Tuple es k p => exact di_enum c h3 (okE e c _ h4).v h5
      | _ => cases h1
    · cases h
  | .zip a b, X, E, sc, c, tg, x, h => by
    have h : (match (generalizing := false) x with
      | .Call (.Name y _) [z, w] [] _ => isTupE tg && y == ("zip" : Str) && glB sc "zip" && ckE tb N a sc z && ckE tb N b sc w && noStar z && noStar w
      | _ => false) = true := h
    split at h
    · obtain ⟨h, h7⟩ := two_and h
      obtain ⟨h, h6⟩ := two_and h
      obtain ⟨h, h5⟩ := two_and h
      obtain ⟨h, h4⟩ := two_and h
      obtain ⟨h, h3⟩ := two_and h
      obtain ⟨h1, h2⟩ := two_and h
      rw [eq_of_beq h2]
      cases tg with
      | Tuple es k p => exact di_zip c h3 (okE a c _ h4).v (okE b c _ h5).v h6 h7
      | _ => cases h1
    · cases h
  termination_by structural i => i
end
end
end Ri
set_option maxHeartbeats 4000000
namespace Ri
open PySem PySem.Spec PyProof.Rows L2

section
variable (tb : Tab) (N : List Str) (sc : Nms)
mutual
def ckTg : Tg → Expr → Bool
  | .nm i => fun x => match x with
    | .Name y _ => okLoc N sc i y
    | _ => false
  | .ix o i => fun x => match x with
    | .Subscript l r _ => ckE tb N o sc l && ckE tb N i sc r && plainIx r
    | _ => false
  | .tp ts => fun x => match x with
    | .Tuple es _ _ => ckTgs ts es && es.all noStar
    | _ => false
  termination_by structural t => t
def ckTgs : Tgs → List Expr → Bool
  | .nil => fun xs => match xs with
    | [] => true
    | _ => false
  | .cons t r => fun xs => match xs with
    | x :: xs => ckTg t x && ckTgs r xs
    | _ => false
  termination_by structural t => t
end
def parB (ts : Tgs) (es : List Expr) : Bool := match ts, es with
  | .cons (.nm i) (.cons (.nm j) .nil), [.Name x _, .Name y _] => okLoc N sc i x && okLoc N sc j y && !(i == j)
  | .cons (.nm i) (.cons (.nm j) (.cons (.nm k) .nil)), [.Name x _, .Name y _, .Name z _] => okLoc N sc i x && okLoc N sc j y && okLoc N sc k z && !(i == j) && !(i == k) && !(j == k)
  | _, _ => false
def ckAsg (t : Tg) (e : E) (tg x : Expr) : Bool := match t with
  | .nm i => (match tg with
    | .Name y py => okLoc N sc i y && noSD x && (match swB sc y py x with
      | true => (match e with
        | .lc c => ckC tb N c sc x
        | .mk (.lc c) => ckC tb N c sc x
        | _ => false)
      | false => ckE tb N e sc x)
    | _ => false)
  | .ix o k => (match tg with
    | .Subscript l r p => ckTg tb N sc (.ix o k) (.Subscript l r p) && ckE tb N e sc x && noSD x
    | _ => false)
  | .tp ts => (match tg with
    | .Tuple es k p => ckTg tb N sc (.tp ts) (.Tuple es k p) && ckE tb N e sc x && noSD x && (match x with
      | .Tuple vs _ _ => (match swpB sc es vs with
        | 0 => true
        | 1 => parB N sc ts es && (match e with
          | .tup _ => true
          | _ => false)
        | _ => false)
      | _ => true)
    | _ => false)
mutual
def ckS : S → Stmt → Bool
  | .asg t e => fun st => match st with
    | .Assign [tg] x _ => ckAsg tb N sc t e tg x
    | _ => false
  | .aug i o e => fun st => match st with
    | .AugAssign (.Name y _) op x _ => okLoc N sc i y && opB o op && ckE tb N e sc x
    | _ => false
  | .augI o i p e => fun st => match st with
    | .AugAssign (.Subscript a b _) op x _ => opB p op && ckE tb N o sc a && ckE tb N i sc b && ckE tb N e sc x && plainIx b
    | _ => false
  | .ex e => fun st => match st with
    | .Expr x _ => ckE tb N e sc x && noSD x && !isLC x
    | _ => false
  | .ret e => fun st => match st with
    | .Return (some x) _ => ckE tb N e sc x
    | _ => false
  | .retN => fun st => match st with
    | .Return none _ => true
    | _ => false
  | .iff c a b => fun st => match st with
    | .If x p q _ => ckE tb N c sc x && ckSs a p && ckSs b q
    | _ => false
  | .fr t it b => fun st => match st with
    | .For tg iter body [] _ => tgB N sc t tg && ckI tb N it sc tg iter && !isSet iter && ckSs b body
    | _ => false
  | .wh c b => fun st => match st with
    | .While x body [] _ => ckE tb N c sc x && ckSs b body
    | _ => false
  | .brk => fun st => match st with
    | .Break _ => true
    | _ => false
  | .cnt => fun st => match st with
    | .Continue _ => true
    | _ => false
  | .pas => fun st => match st with
    | .Pass _ => true
    | .Expr (.Constant (.str _) _ _) _ => true
    | _ => false
  | .rai c d => fun st => match st with
    | .Raise (some (.Call (.Name x _) [.Constant (.str _) _ _] [] _)) none _ => (match d with
      | .non => true
      | _ => false) && cnB tb sc c x && tb.rz.contains c
    | _ => false
  | .tri b hs => fun st => match st with
    | .Try body (h0 :: hds) [] [] _ => ckSs b body && hdsB tb N sc hs (h0 :: hds)
    | _ => false
  | .nev => fun _ => true
  termination_by structural s => s
def ckSs : Ss → List Stmt → Bool
  | .nil => fun sts => match sts with
    | [] => true
    | _ => false
  | .cons s r => fun sts => match sts with
    | st :: sts => ckS s st && ckSs r sts
    | _ => false
  termination_by structural s => s
end
end
section
variable {cl : List Addr} {C : Ctx} {tb : Tab} {N : List Str} {sc : Nms}
mutual
theorem okTg : ∀ (t : Tg) {X : Cx} {XR : XRel} {E : XK}, Cok X XR E C tb N sc → ∀ x : Expr, ckTg tb N sc t x = true → PG X x (tG X.K XR E fun bs => asg C bs t)
  | .nm i, X, XR, E, c, x, h => by
    cases x with
    | Name y p => exact sg_nm c h
    | _ => cases h
  | .ix o i, X, XR, E, c, x, h => by
    cases x with
    | Subscript l r p =>
      obtain ⟨h, h3⟩ := two_and (show (ckE tb N o sc l && ckE tb N i sc r && plainIx r) = true from h)
      obtain ⟨h1, h2⟩ := two_and h
      exact sg_ix (okE o c l h1).v (okE i c r h2).v h3
    | _ => cases h
  | .tp ts, X, XR, E, c, x, h => by
    cases x with
    | Tuple es k p =>
      obtain ⟨h1, h2⟩ := two_and (show (ckTgs tb N sc ts es && es.all noStar) = true from h)
      obtain ⟨i1, i2⟩ := okTgs ts c es h1 h2
      exact sg_tp c.calm i1 h2 i2
    | _ => cases h
  termination_by structural t => t
theorem okTgs : ∀ (ts : Tgs) {X : Cx} {XR : XRel} {E : XK}, Cok X XR E C tb N sc → ∀ xs : List Expr, ckTgs tb N sc ts xs = true → (xs.all noStar) = true → PGs X xs (tGs X.K XR E fun bs => asgs C bs ts) ∧ lenT ts = xs.length
  | .nil, X, XR, E, c, xs, h, hs => by
    cases xs with
    | nil => exact ⟨sgs_nil, rfl⟩
    | cons x xs => cases h
  | .cons t r, X, XR, E, c, xs, h, hs => by
    cases xs with
    | nil => cases h
    | cons x xs =>
      obtain ⟨h1, h2⟩ := two_and (show (ckTg tb N sc t x && ckTgs tb N sc r xs) = true from h)
      obtain ⟨s1, s2⟩ := two_and (show (noStar x && xs.all noStar) = true from hs)
      obtain ⟨i1, i2⟩ := okTgs r c xs h2 s2
      refine ⟨sgs_cons (okTg t c x h1) i1 s1, ?_⟩
      show lenT r + 1 = xs.length + 1
      rw [i2]
  termination_by structural ts => ts
end
variable {X : Cx} {E : XK}
theorem okSetC (s : Sok X (xrel cl) E C tb N sc) (b : Bool) {i : Nat} {y : Str} {py pos : Pos} (hy : okLoc N sc i y = true) : ∀ (k : EC) (x : Expr), swB sc y py x = true → ckC tb N k sc x = true → PS X (.Assign [.Name y py] x pos) (tS X.K (xrel cl) E (asgF (anyF b (evC C k)) (nmG i)))
  | .c1 elt t it co, x, hw, h => by
    have c := s.ck
    have h : (match (generalizing := false) x with
      | .ListComp el [⟨tg, iter, ifs, 0⟩] scope _ => tgB N scope.names t tg && ckI tb N it sc tg iter && ckCond tb N co scope.names ifs && ckE tb N elt scope.names el && blkB N sc scope (ownT t tg) && !isSet iter
      | _ => false) = true := h
    split at h
    · rename_i el tg iter ifs scope p zz
      obtain ⟨h, h6⟩ := two_and h
      obtain ⟨h, h5⟩ := two_and h
      obtain ⟨h, h4⟩ := two_and h
      obtain ⟨h, h3⟩ := two_and h
      obtain ⟨h1, h2⟩ := two_and h
      exact ds_c1 s hy hw (okI it c tg iter h2) (blk_ok c h5) (ownT_slots h1) (fun s H A cl fp => ck_tg (c.blk s H A cl fp scope) h1) (fun s H A cl fp => okCond co (c.blk s H A cl fp scope) ifs h3) (fun s H A cl fp => (okE elt (c.blk s H A cl fp scope) el h4).v) (noSet_ok (by simpa using h6) _)
    · cases h
  | .c2 elt t it co t2 it2 co2, x, hw, h => by
    have c := s.ck
    have h : (match (generalizing := false) x with
      | .ListComp el [⟨tg, iter, ifs, 0⟩, ⟨tg2, iter2, ifs2, 0⟩] scope _ => tgB N scope.names t tg && ckI tb N it sc tg iter && ckCond tb N co scope.names ifs && ckE tb N elt scope.names el && blkB N sc scope (ownT t tg ++ ownT t2 tg2) && !isSet iter
        && tgB N scope.names t2 tg2 && ckI tb N it2 scope.names tg2 iter2 && ckCond tb N co2 scope.names ifs2 && !isSet iter2
      | _ => false) = true := h
    split at h
    · rename_i el tg iter ifs tg2 iter2 ifs2 scope p zz
      obtain ⟨h, h10⟩ := two_and h
      obtain ⟨h, h9⟩ := two_and h
      obtain ⟨h, h8⟩ := two_and h
      obtain ⟨h, h7⟩ := two_and h
      obtain ⟨h, h6⟩ := two_and h
      obtain ⟨h, h5⟩ := two_and h
      obtain ⟨h, h4⟩ := two_and h
      obtain ⟨h, h3⟩ := two_and h
      obtain ⟨h1, h2⟩ := two_and h
      exact ds_c2 s hy hw (okI it c tg iter h2) (blk_ok c h5) (by rw [List.map_append, ownT_slots h1, ownT_slots h7]) (fun s H A cl fp => ck_tg (c.blk s H A cl fp scope) h1) (fun s H A cl fp => okCond co (c.blk s H A cl fp scope) ifs h3)
        (fun s H A cl fp => okI it2 (c.blk s H A cl fp scope) tg2 iter2 h8) (fun s H A cl fp => ck_tg (c.blk s H A cl fp scope) h7) (fun s H A cl fp => okCond co2 (c.blk s H A cl fp scope) ifs2 h9)
        (fun s H A cl fp => (okE elt (c.blk s H A cl fp scope) el h4).v) (noSet_ok (by simpa using h6) _) (noSet_ok (by simpa using h10))
    · cases h
theorem bne_nat {i j : Nat} (h : (!(i == j)) = true) : i ≠ j := by
  intro e
  subst e
  simp at h
theorem okAsg (s : Sok X (xrel cl) E C tb N sc) {pos : Pos} (t : Tg) (e : Ri.E) (tg x : Expr) (h : ckAsg tb N sc t e tg x = true) : PS X (.Assign [tg] x pos) (tS X.K (xrel cl) E fun bs => xs C bs (.asg t e)) := by
  cases t with
  | nm i =>
    cases tg with
    | Name y py =>
      obtain ⟨h, h3⟩ := two_and (show (okLoc N sc i y && noSD x && (match (generalizing := false) swB sc y py x with
        | true => (match (generalizing := false) e with
          | .lc c => ckC tb N c sc x
          | .mk (.lc c) => ckC tb N c sc x
          | _ => false)
        | false => ckE tb N e sc x)) = true from h)
      obtain ⟨h1, h2⟩ := two_and h
      cases hw : swB sc y py x with
      | false =>
        rw [hw] at h3
        exact ds_set s h1 (okE e s.ck x h3).v h2 hw
      | true =>
        rw [hw] at h3
        cases e with
        | lc k => exact okSetC s false h1 k x hw h3
        | mk l =>
          cases l with
          | lc k => exact okSetC s true h1 k x hw h3
          | _ => cases h3
        | _ => cases h3
    | _ => cases h
  | ix o k =>
    cases tg with
    | Subscript l r p =>
      obtain ⟨h, h3⟩ := two_and (show (ckTg tb N sc (.ix o k) (.Subscript l r p) && ckE tb N e sc x && noSD x) = true from h)
      obtain ⟨h1, h2⟩ := two_and h
      exact ds_asg (okE e s.ck x h2).v (okTg (.ix o k) s.ck _ h1) rfl h3 (swapNo (.inl rfl) rfl)
    | _ => cases h
  | tp ts =>
    cases tg with
    | Tuple es k p =>
      obtain ⟨h, h4⟩ := two_and (show (ckTg tb N sc (.tp ts) (.Tuple es k p) && ckE tb N e sc x && noSD x && (match (generalizing := false) x with
        | .Tuple vs _ _ => (match (generalizing := false) swpB sc es vs with
          | 0 => true
          | 1 => parB N sc ts es && (match (generalizing := false) e with
            | .tup _ => true
            | _ => false)
          | _ => false)
        | _ => true)) = true from h)
      obtain ⟨h, h3⟩ := two_and h
      obtain ⟨h1, h2⟩ := two_and h
      cases hx : isTupE x with
      | false => exact ds_asg (okE e s.ck x h2).v (okTg (.tp ts) s.ck _ h1) rfl h3 (swapNo (.inr hx) rfl)
      | true =>
        cases x with
        | Tuple vs k' p' =>
          have h4 : (match (generalizing := false) swpB sc es vs with
            | 0 => true
            | 1 => parB N sc ts es && (match (generalizing := false) e with
              | .tup _ => true
              | _ => false)
            | _ => false) = true := h4
          split at h4
          · rename_i hz
            exact ds_asg (okE e s.ck _ h2).v (okTg (.tp ts) s.ck _ h1) rfl h3 (swp_eq s.names s.kind hz)
          · rename_i hz
            obtain ⟨h5, h6⟩ := two_and h4
            cases e with
            | tup el =>
              obtain ⟨h7, h8⟩ := two_and (show (ckEs tb N el sc vs && vs.all noStar) = true from h2)
              unfold parB at h5
              split at h5
              · obtain ⟨h5, h10⟩ := two_and h5
                obtain ⟨h5, h9⟩ := two_and h5
                have hl : vs.length = 2 := by
                  unfold swpB at hz
                  split at hz
                  · cases hz
                  · rename_i hq
                    rw [Bool.or_eq_true, not_or] at hq
                    have := hq.2
                    simpa using this
                match vs, hl, hz, h7, h8 with
                | [a, b], _, hz, h7, h8 => exact ds_par2 (x1 := 0) s h5 h9 (bne_nat h10) (okEs el s.ck _ h7 h8) hz
              · obtain ⟨h5, h14⟩ := two_and h5
                obtain ⟨h5, h13⟩ := two_and h5
                obtain ⟨h5, h12⟩ := two_and h5
                obtain ⟨h5, h11⟩ := two_and h5
                obtain ⟨h5, h10⟩ := two_and h5
                have hl : vs.length = 3 := by
                  unfold swpB at hz
                  split at hz
                  · cases hz
                  · rename_i hq
                    rw [Bool.or_eq_true, not_or] at hq
                    have := hq.2
                    simpa using this
                match vs, hl, hz, h7, h8 with
                | [a, b, d], _, hz, h7, h8 => exact ds_par3 s h5 h10 h11 (bne_nat h12) (bne_nat h13) (bne_nat h14) (okEs el s.ck _ h7 h8) hz
              · cases h5
            | _ => cases h6
          · cases h4
        | _ => cases hx
    | _ => cases h
end
section
variable {cl : List Addr} {C : Ctx} {tb : Tab} {N : List Str} {sc : Nms}
mutual
theorem okSt : ∀ (s : S) {X : Cx} {E : XK}, Sok X (xrel cl) E C tb N sc → ClsOk X tb cl C.sub → ∀ st : Stmt, ckS tb N sc s st = true → PS X st (tS X.K (xrel cl) E fun bs => xs C bs s)
  | .asg t e, X, E, k, o, st, h => by
    have h : (match (generalizing := false) st with
      | .Assign [tg] x _ => ckAsg tb N sc t e tg x
      | _ => false) = true := h
    split at h
    · exact okAsg k t e _ _ h
    · cases h
  | .aug i op e, X, E, k, o, st, h => by
    have h : (match (generalizing := false) st with
      | .AugAssign (.Name y _) p x _ => okLoc N sc i y && opB op p && ckE tb N e sc x
      | _ => false) = true := h
    split at h
    · obtain ⟨h, h3⟩ := two_and h
      obtain ⟨h1, h2⟩ := two_and h
      rw [opB_ok h2]
      exact ds_aug k h1 (okE e k.ck _ h3).v
    · cases h
  | .augI a i p e, X, E, k, o, st, h => by
    have h : (match (generalizing := false) st with
      | .AugAssign (.Subscript l r _) op x _ => opB p op && ckE tb N a sc l && ckE tb N i sc r && ckE tb N e sc x && plainIx r
      | _ => false) = true := h
    split at h
    · obtain ⟨h, h5⟩ := two_and h
      obtain ⟨h, h4⟩ := two_and h
      obtain ⟨h, h3⟩ := two_and h
      obtain ⟨h1, h2⟩ := two_and h
      rw [opB_ok h1]
      exact ds_augI (okE a k.ck _ h2).v (okE i k.ck _ h3).v (okE e k.ck _ h4).v h5
    · cases h
  | .ex e, X, E, k, o, st, h => by
    have h : (match (generalizing := false) st with
      | .Expr x _ => ckE tb N e sc x && noSD x && !isLC x
      | _ => false) = true := h
    split at h
    · obtain ⟨h, h3⟩ := two_and h
      obtain ⟨h1, h2⟩ := two_and h
      exact ds_ex (okE e k.ck _ h1).v h2 (by simpa using h3)
    · cases h
  | .ret e, X, E, k, o, st, h => by
    have h : (match (generalizing := false) st with
      | .Return (some x) _ => ckE tb N e sc x
      | _ => false) = true := h
    split at h
    · exact ds_ret (okE e k.ck _ h).v
    · cases h
  | .retN, X, E, k, o, st, h => by
    have h : (match (generalizing := false) st with
      | .Return none _ => true
      | _ => false) = true := h
    split at h
    · exact ds_retN
    · cases h
  | .iff c a b, X, E, k, o, st, h => by
    have h : (match (generalizing := false) st with
      | .If x p q _ => ckE tb N c sc x && ckSs tb N sc a p && ckSs tb N sc b q
      | _ => false) = true := h
    split at h
    · obtain ⟨h, h3⟩ := two_and h
      obtain ⟨h1, h2⟩ := two_and h
      exact ds_if (okE c k.ck _ h1).t (okSs a k o _ h2) (okSs b k o _ h3)
    · cases h
  | .fr t it b, X, E, k, o, st, h => by
    have h : (match (generalizing := false) st with
      | .For tg iter body [] _ => tgB N sc t tg && ckI tb N it sc tg iter && !isSet iter && ckSs tb N sc b body
      | _ => false) = true := h
    split at h
    · obtain ⟨h, h4⟩ := two_and h
      obtain ⟨h, h3⟩ := two_and h
      obtain ⟨h1, h2⟩ := two_and h
      exact ds_for k (okI it k.ck _ _ h2) (ck_tg k.ck h1) (okSs b k o _ h4) (noSet_ok (by simpa using h3) _)
    · cases h
  | .wh c b, X, E, k, o, st, h => by
    have h : (match (generalizing := false) st with
      | .While x body [] _ => ckE tb N c sc x && ckSs tb N sc b body
      | _ => false) = true := h
    split at h
    · obtain ⟨h1, h2⟩ := two_and h
      exact ds_wh k (okE c k.ck _ h1).t (okSs b k o _ h2)
    · cases h
  | .brk, X, E, k, o, st, h => by
    have h : (match (generalizing := false) st with
      | .Break _ => true
      | _ => false) = true := h
    split at h
    · exact ds_brk
    · cases h
  | .cnt, X, E, k, o, st, h => by
    have h : (match (generalizing := false) st with
      | .Continue _ => true
      | _ => false) = true := h
    split at h
    · exact ds_cnt
    · cases h
  | .pas, X, E, k, o, st, h => by
    have h : (match (generalizing := false) st with
      | .Pass _ => true
      | .Expr (.Constant (.str _) _ _) _ => true
      | _ => false) = true := h
    split at h
    · exact ds_pass
    · exact ds_doc
    · cases h
  | .rai c d, X, E, k, o, st, h => by
    have h : (match (generalizing := false) st with
      | .Raise (some (.Call (.Name x _) [.Constant (.str _) _ _] [] _)) none _ => (match (generalizing := false) d with
        | .non => true
        | _ => false) && cnB tb sc c x && tb.rz.contains c
      | _ => false) = true := h
    split at h
    · obtain ⟨h, h3⟩ := two_and h
      obtain ⟨h1, h2⟩ := two_and h
      obtain ⟨h2, h5⟩ := two_and h2
      obtain ⟨h2, h4⟩ := two_and h2
      cases d with
      | non => exact ds_rai k o h2 h3 h4 h5
      | _ => cases h1
    · cases h
  | .tri b hs, X, E, k, o, st, h => by
    have h : (match (generalizing := false) st with
      | .Try body (h0 :: hds) [] [] _ => ckSs tb N sc b body && hdsB tb N sc hs (h0 :: hds)
      | _ => false) = true := h
    split at h
    · obtain ⟨h1, h2⟩ := two_and h
      exact ds_tri k o (fun pn xe E' k' => okSs b k' ⟨o.nm, o.make, o.sub⟩ _ h1) h2
    · cases h
  | .nev, X, E, k, o, st, h => ds_nev
  termination_by structural s => s
theorem okSs : ∀ (s : Ss) {X : Cx} {E : XK}, Sok X (xrel cl) E C tb N sc → ClsOk X tb cl C.sub → ∀ sts : List Stmt, ckSs tb N sc s sts = true → PSs X sts (tS X.K (xrel cl) E fun bs => xss C bs s)
  | .nil, X, E, k, o, sts, h => by
    cases sts with
    | nil => exact dss_nil
    | cons st sts => cases h
  | .cons s r, X, E, k, o, sts, h => by
    cases sts with
    | nil => cases h
    | cons st sts =>
      obtain ⟨h1, h2⟩ := two_and (show (ckS tb N sc s st && ckSs tb N sc r sts) = true from h)
      exact dss_cons (okSt s k o st h1) (okSs r k o sts h2)
  termination_by structural s => s
end
end
end Ri
set_option maxHeartbeats 2000000
namespace Ri
open PySem PySem.Spec PyProof.Rows L2

section
variable {K : PySem.W.Frag} {H : Hp} {m r : List Addr} {b : Nat} {g : Nat → Option D} {S : Sto}
def FrzOk (K : PySem.W.Frag) (H : Hp) (m r : List Addr) (b : Nat) (g : Nat → Option D) : Prop := ∀ (n : Nat) (d' : D) (a : Addr), g n = some d' → m[n]? = some a → RelD K H ⟨m.take b, r⟩ d' (.ref a)
theorem map_invZ {α β : Type} {o : Option α} {f : α → β} {y : β} (h : o.map f = some y) : ∃ x, o = some x ∧ y = f x := by
  cases o with
  | none => cases h
  | some x => exact ⟨x, rfl, (Option.some.inj h).symm⟩
mutual
theorem RelD.frz (hg : FrzOk K H m r b g) : ∀ (d d' : D) (v : V), frzD g d = some d' → RelD K H ⟨m, r⟩ d v → RelD K H ⟨m.take b, r⟩ d' v
  | .non, d', v, e, h => by cases e; exact h
  | .bl _, d', v, e, h => by cases e; exact h
  | .int _, d', v, e, h => by cases e; exact h
  | .str _, d', v, e, h => by cases e; exact h
  | .tup l, d', v, e, q => by
    obtain ⟨t, e1, rfl⟩ := map_invZ (show (frzs g l).map D.tup = some d' from e)
    obtain ⟨a, xs, ev, ht, q⟩ := q
    refine ⟨a, xs, ev, ?_, RelDs.frz hg l t xs e1 q⟩
    rcases ht with ⟨ht, n⟩ | ht
    · exact .inl ⟨ht, fun z => n (List.mem_of_mem_take z)⟩
    · exact .inr ht
  | .lst l, d', v, e, q => by
    obtain ⟨t, e1, rfl⟩ := map_invZ (show (frzs g l).map D.lst = some d' from e)
    obtain ⟨a, xs, ev, ht, n, nr, q⟩ := q
    exact ⟨a, xs, ev, ht, fun z => n (List.mem_of_mem_take z), nr, RelDs.frz hg l t xs e1 q⟩
  | .scr l, d', v, e, q => by
    cases e
    obtain ⟨a, e, t⟩ := q
    refine ⟨a, e, ?_⟩
    rcases t with ⟨t, n⟩ | t
    · exact .inl ⟨t, fun z => n (List.mem_of_mem_take z)⟩
    · exact .inr t
  | .ref n, d', v, e, q => by
    obtain ⟨a, e1, e2⟩ := q
    rw [e2]
    exact hg n d' a e e1
  | .rng lo hi, d', v, e, q => by
    cases e
    obtain ⟨a, e, t, n⟩ := q
    exact ⟨a, e, t, fun z => n (List.mem_of_mem_take z)⟩
theorem RelDs.frz (hg : FrzOk K H m r b g) : ∀ (ds ts : List D) (vs : List V), frzs g ds = some ts → RelDs K H ⟨m, r⟩ ds vs → RelDs K H ⟨m.take b, r⟩ ts vs
  | [], ts, vs, e, h => by cases e; exact h
  | d :: ds, ts, vs, e, q => by
    obtain ⟨v, t, ev, h1, h2⟩ := q
    have e : (match frzD g d with
      | some y => (match frzs g ds with
        | some t => some (y :: t)
        | none => none)
      | none => none) = some ts := e
    cases e1 : frzD g d with
    | none => rw [e1] at e; cases e
    | some y =>
      rw [e1] at e
      cases e2 : frzs g ds with
      | none => rw [e2] at e; cases e
      | some u =>
        rw [e2] at e
        cases e
        exact ⟨v, t, ev, RelD.frz hg d y v e1 h1, RelDs.frz hg ds u t e2 h2⟩
end
theorem lt_of_blt {n b : Nat} (h : Nat.blt n b = true) : n < b := Nat.le_of_ble_eq_true (show Nat.ble (n + 1) b = true from h)
theorem nlt_of_blt {n b : Nat} (h : Nat.blt n b = false) : ¬ n < b := fun z => by
  have : Nat.blt n b = true := Nat.ble_eq_true_of_le z
  rw [this] at h; cases h
theorem frzN_ok (s : SimS K H ⟨m, r⟩ S) : ∀ k : Nat, FrzOk K H m r b (frzN S b k)
  | 0, n, d', a, e, h => by
    unfold frzN at e
    cases hb : Nat.blt n b with
    | false => rw [hb] at e; cases e
    | true =>
      rw [hb] at e
      cases e
      exact ⟨a, by show (m.take b)[n]? = some a; rw [List.getElem?_take_of_lt (lt_of_blt hb)]; exact h, rfl⟩
  | k + 1, n, d', a, e, h => by
    unfold frzN at e
    cases hb : Nat.blt n b with
    | true =>
      rw [hb] at e
      cases e
      exact ⟨a, by show (m.take b)[n]? = some a; rw [List.getElem?_take_of_lt (lt_of_blt hb)]; exact h, rfl⟩
    | false =>
      rw [hb] at e
      cases q : S[n]? with
      | none => unfold stoL at e; rw [q] at e; cases e
      | some so =>
        cases so with
        | dic l => unfold stoL at e; rw [q] at e; cases e
        | lst l =>
          have e' : (frzs (frzN S b k) l).map D.lst = some d' := by unfold stoL at e; rw [q] at e; exact e
          obtain ⟨t, e1, rfl⟩ := map_invZ e'
          obtain ⟨xs, h1, h2⟩ := s.at_ n a _ h q
          refine ⟨a, xs, rfl, h1, fun z => ?_, fun z => (s.res a z).2 (List.mem_of_getElem? h), RelDs.frz (frzN_ok s k) l t xs e1 h2⟩
          obtain ⟨i, hi, ei⟩ := List.getElem_of_mem z
          have hi' : i < b := by have := hi; rw [List.length_take] at this; omega
          have e3 : m[i]? = some a := by rw [← List.getElem?_take_of_lt hi', List.getElem?_eq_getElem hi]; exact congrArg some ei
          have := nodup_at s.nd e3 h
          exact nlt_of_blt hb (this ▸ hi')
end

section
variable {K : PySem.W.Frag} {H : Hp} {m r : List Addr} {S : Sto} {C : Ctx} {f : Df} {bs : List Nat} {ds : List D} {vs : List V} {N : List Str} {Q : VK} {E : XK} {cl : List Addr}
theorem start_at (s : SimS K H ⟨m, r⟩ S) (c : Cls bs S) (rd : RelDs K H ⟨m, r⟩ ds vs) (hN : f.vs = N.length) : At K ⟨bs, startV f.vs ds⟩ S m r (start N vs) H := by
  have hl := rd.length
  refine ⟨s, c, ?_, fun i d e => ?_⟩
  · show (ds.map some ++ List.replicate (f.vs - ds.length) none).length = (start N vs).length
    unfold L2.start
    simp only [List.length_append, List.length_map, List.length_replicate, hl, hN]
  · have e : (ds.map some ++ List.replicate (f.vs - ds.length) none)[i]? = some (some d) := e
    by_cases hi : i < ds.length
    · rw [List.getElem?_append_left (by simpa using hi), List.getElem?_map] at e
      cases q : ds[i]? with
      | none => rw [q] at e; cases e
      | some y =>
        rw [q] at e
        cases e
        obtain ⟨v, e1, e2⟩ := rd.get q
        refine ⟨v, ?_, e2⟩
        unfold L2.start
        rw [List.getElem?_append_left (by rw [List.length_map]; omega), List.getElem?_map, e1] <;> rfl
    · rw [List.getElem?_append_right (by simpa using hi), List.getElem?_replicate] at e
      split at e <;> cases e
theorem Cls.take {S' : Sto} (c : Cls bs S) (c' : Cls bs S') (h : S.length ≤ S'.length) : Cls bs (S'.take S.length) := fun b hb => by
  have h1 := (c b hb).1
  refine ⟨by rw [List.length_take]; omega, fun n so hn e => ?_⟩
  rw [List.getElem?_take_of_lt (by omega)] at e
  exact (c' b hb).2 n so hn e
theorem runDf_ok (s : SimS K H ⟨m, r⟩ S) (c : Cls bs S) (rd : RelDs K H ⟨m, r⟩ ds vs) (hN : f.vs = N.length) (q : PostV K (xrel cl) E bs r m H (runDf C f bs ds S) Q) :
    tS K (xrel cl) E (fun bs => xss C bs f.body) { nx := fun _ H' => Q .non H', rt := Q } (start N vs) H := by
  unfold runDf at q
  cases hl : ds.length == f.ps with
  | false => rw [hl] at q; exact q.elim
  | true =>
    rw [hl] at q
    cases hk : f.keep with
    | true =>
      rw [hk] at q
      have q : Post K (xrel cl) E bs r m H (bnd (xss C bs f.body (startV f.vs ds)) (fun p => ofO (outD p)) S) fun d m' _ H' => ∀ v, RelD K H' ⟨m', r⟩ d v → Q v H' := q
      refine ⟨bs, startV f.vs ds, S, m, r, start_at s c rd hN, (Post.bind q).imp fun p m1 S1 H1 g1 s1 c1 q σ' A' => ?_⟩
      obtain ⟨d, e, q⟩ := q.ofO
      have qq := Post.here q s1 c1
      cases hp : p.1 with
      | nx => unfold outD at e; rw [hp] at e; cases e; exact qq .non rfl
      | ret y => unfold outD at e; rw [hp] at e; cases e; exact fun x rx => qq x rx
      | brk => unfold outD at e; rw [hp] at e; cases e
      | cnt => unfold outD at e; rw [hp] at e; cases e
    | false =>
      rw [hk] at q
      have q : Post K (xrel cl) E bs r m H (match xss C (S.length :: bs) f.body (startV f.vs ds) S with
        | .ok p S' => (match (outD p).bind (frz S' S.length) with
          | some d => .ok d (S'.take S.length)
          | none => .bad)
        | .ex c d S' => (match d with
          | .str _ => .ex c d (S'.take S.length)
          | .non => .ex c d (S'.take S.length)
          | _ => .bad)
        | .bad => .bad) fun d m' _ H' => ∀ v, RelD K H' ⟨m', r⟩ d v → Q v H' := q
      have c2 : Cls (S.length :: bs) S := fun b hb => by
        rcases List.mem_cons.mp hb with rfl | hb
        · exact s.cl
        · exact c b hb
      have hml : m.length = S.length := s.len
      refine ⟨S.length :: bs, startV f.vs ds, S, m, r, start_at s c2 rd hN, ?_⟩
      have shr : ∀ {m' : List Addr} {H' : Hp} {S' : Sto}, Grow m H m' H' → SimS K H' ⟨m', r⟩ S' → Cls (S.length :: bs) S' → m'.take S.length = m ∧ Grow m H m H' ∧ SimS K H' ⟨m, r⟩ (S'.take S.length) ∧ Cls bs (S'.take S.length) := fun {m' H' S'} g1 s1 c1 => by
        obtain ⟨n, e, _⟩ := g1.new
        have e1 : m'.take S.length = m := by rw [e, ← hml]; simp
        have cS := c1 S.length List.mem_cons_self
        have s2 := s1.cut cS
        rw [e1] at s2
        exact ⟨e1, ⟨g1.keep, g1.hold, [], by simp, by simp⟩, s2, Cls.take c (fun b hb => c1 b (List.mem_cons_of_mem _ hb)) cS.1⟩
      show Post K (xrel cl) E (S.length :: bs) r m H (xss C (S.length :: bs) f.body (startV f.vs ds) S) (okF K (S.length :: bs) r { nx := fun _ H' => Q .non H', rt := Q })
      cases hx : xss C (S.length :: bs) f.body (startV f.vs ds) S with
      | bad => rw [hx] at q; exact q.elim
      | ex cc d S' =>
        rw [hx] at q
        refine fun m' H' cv dd g1 s1 c1 x => ?_
        obtain ⟨e1, g2, s2, c3⟩ := shr g1 s1 c1
        obtain ⟨A, x1, x2, x3, x4⟩ := x
        subst x4
        exact q m H' cv dd g2 s2 c3 ⟨A, x1, x2, x3, rfl⟩
      | ok p S' =>
        rw [hx] at q
        refine fun m' H' g1 s1 c1 σ' A' => ?_
        obtain ⟨e1, g2, s2, c3⟩ := shr g1 s1 c1
        cases hf : (outD p).bind (frz S' S.length) with
        | none =>
          have q : Post K (xrel cl) E bs r m H (match (outD p).bind (frz S' S.length) with
            | some d => R.ok d (S'.take S.length)
            | none => .bad) fun d m' _ H' => ∀ v, RelD K H' ⟨m', r⟩ d v → Q v H' := q
          rw [hf] at q; exact q.elim
        | some d' =>
          have q : Post K (xrel cl) E bs r m H (match (outD p).bind (frz S' S.length) with
            | some d => R.ok d (S'.take S.length)
            | none => .bad) fun d m' _ H' => ∀ v, RelD K H' ⟨m', r⟩ d v → Q v H' := q
          rw [hf] at q
          have qq := q m H' g2 s2 c3
          cases hp : p.1 with
          | nx =>
            unfold outD at hf; rw [hp] at hf
            have e : D.non = d' := Option.some.inj hf
            subst e
            exact qq .non rfl
          | ret y =>
            unfold outD at hf; rw [hp] at hf
            have e : frzD (frzN S' S.length 3) y = some d' := hf
            intro x rx
            have z := RelD.frz (b := S.length) (frzN_ok s1 3) y d' x e rx
            rw [e1] at z
            exact qq x z
          | brk => unfold outD at hf; rw [hp] at hf; cases hf
          | cnt => unfold outD at hf; rw [hp] at hf; cases hf
end

structure Dd where
  x : Str
  params : Arguments
  body : List Stmt
  scope : Scope
  N : List Str
  ps : List Str
  df : Df
def isFn : ScopeKind → Bool
  | .function => true
  | _ => false
def nodupB : List Str → Bool
  | [] => true
  | x :: r => !(r.any (· == x)) && nodupB r
theorem nodupB_ok : ∀ {l : List Str}, nodupB l = true → l.Nodup
  | [], _ => List.nodup_nil
  | x :: r, h => by
    obtain ⟨h1, h2⟩ := two_and (show (!(r.any (· == x)) && nodupB r) = true from h)
    rw [List.nodup_cons]
    refine ⟨fun z => ?_, nodupB_ok h2⟩
    have : (r.any (· == x)) = true := List.any_eq_true.mpr ⟨x, z, beq_self_eq_true x⟩
    rw [this] at h1; cases h1
def ckSc (d : Dd) : Bool := isFn d.scope.kind && !d.scope.isCoroutine && !d.scope.isGenerator && nodupB d.N && (d.N.take d.ps.length == d.ps) && (d.ps.all fun x => locB d.scope.names x) && (d.scope.names.all fun y => match y.2 with
  | .free => false
  | _ => true) && (d.df.ps == d.ps.length) && (d.df.vs == d.N.length)
def ckDd (tb : Tab) (d : Dd) : Bool := ckSc d && ckSs tb d.N d.scope.names d.df.body d.body
theorem loc_inv {sc : Nms} {x : Str} (h : locB sc x = true) : sc.lookup x = some .local ∨ sc.lookup x = some .cell := by
  unfold locB at h
  split at h
  · exact .inl (by assumption)
  · exact .inr (by assumption)
  · cases h
theorem ckSc_ok {d : Dd} (h : ckSc d = true) : FnScope d.N d.ps d.scope ∧ d.df.ps = d.ps.length ∧ d.df.vs = d.N.length := by
  unfold ckSc at h
  obtain ⟨h, h9⟩ := two_and h
  obtain ⟨h, h8⟩ := two_and h
  obtain ⟨h, h7⟩ := two_and h
  obtain ⟨h, h6⟩ := two_and h
  obtain ⟨h, h5⟩ := two_and h
  obtain ⟨h, h4⟩ := two_and h
  obtain ⟨h, h3⟩ := two_and h
  obtain ⟨h1, h2⟩ := two_and h
  refine ⟨⟨?_, ?_, ?_, nodupB_ok h4, eq_of_beq h5, fun x hx => loc_inv (List.all_eq_true.mp h6 x hx), fun y hy e => ?_⟩, eq_of_beq h8, eq_of_beq h9⟩
  · cases k : d.scope.kind <;> rw [k] at h1 <;> first | rfl | (cases h1)
  · simpa using h2
  · simpa using h3
  · have z := List.all_eq_true.mp h7 y hy
    rw [e] at z; cases z
section
variable {P : Program} {w : World} {K : PySem.W.Frag} {mg : Str → Option Value} {base : Heap} {cl : List Addr} {tb : Tab} {pg : Prog} {fu : Nat}
abbrev cN (pg : Prog) (fu n : Nat) : Ctx := ⟨callF pg fu n, pg.glo, pg.sub, fu⟩
/-- what the head tells of the whole text -/
structure Facts (K : PySem.W.Frag) (mg : Str → Option Value) (tb : Tab) (cl : List Addr) (pg : Prog) (dds : List Dd) : Prop where
  df : pg.df = dds.map (·.df)
  fnm : tb.fnm = dds.map (·.x)
  ck : ∀ (i : Nat) (d : Dd), dds[i]? = some d → ckDd tb d = true
  fs : ∀ (i : Nat) (d : Dd), dds[i]? = some d → ∃ f fd, mg d.x = some (.ref f) ∧ FunD K d.x d.x d.params d.body d.scope [] [] f fd ∧ Binds K fd d.ps []
  blt : ∀ x ∈ blts, mg x = none
  glo : ∀ (i : Nat) (x : Str), tb.gnm[i]? = some x → ∃ (u : Value) (v : V) (d : D), mg x = some u ∧ RelV v u ∧ pg.glo[i]? = some d ∧ ∀ H p, RelD K H p d v
  cls : ∀ X : Cx, X.K = K → X.mg = mg → ClsOk X tb cl pg.sub
theorem defs_ok {dds : List Dd} (F : Facts K mg tb cl pg dds) : ∀ (n i : Nat) (d : Dd) (f : Addr) (fd : FuncData), dds[i]? = some d → FunD K d.x d.x d.params d.body d.scope [] [] f fd →
    FnOk P w K mg base (L2.CX P w) n f fd d.ps (spF K (xrel cl) (cN pg fu n) i)
  | 0, i, d, f, fd, hi, hf => by
    refine ⟨fun vs H Q E h => ?_, fun A outer s H args us vs Q E _ _ _ _ h => ?_⟩
    · obtain ⟨bs, S, m, r, ds, _, _, _, q⟩ := h
      exact q.elim
    · obtain ⟨bs, S, m, r, ds, _, _, _, q⟩ := h
      exact q.elim
  | n + 1, i, d, f, fd, hi, hf => by
    obtain ⟨hsc, hss⟩ := two_and (F.ck i d hi)
    obtain ⟨Sc, e1, e2⟩ := ckSc_ok hsc
    have hd : pg.df[i]? = some d.df := by rw [F.df, List.getElem?_map, hi] <;> rfl
    have ecall : ∀ bs ds S, (cN pg fu (n + 1)).fn i bs ds S = runDf (cN pg fu n) d.df bs ds S := fun bs ds S => by
      show callF pg fu (n + 1) i bs ds S = _
      unfold callF
      rw [hd]
    refine hf.ok Sc (fun vs H Q E h => ?_) (fun cdv A outer s H vs Q E hr h => ?_)
    · obtain ⟨bs, S, m, r, ds, _, _, rd, q⟩ := h
      rw [ecall] at q
      rw [← rd.length, ← e1]
      unfold runDf at q
      cases hl : ds.length == d.df.ps with
      | false => rw [hl] at q; exact q.elim
      | true => exact eq_of_beq hl
    · obtain ⟨bs, S, m, r, ds, s0, c0, rd, q⟩ := h
      rw [ecall] at q
      have tk : Takes (cxOf (L2.CX P w) P w K mg base d.N d.x d.scope f cdv A outer s H E) (fun cls dd _ H => E cls dd H) := takes_of rfl rfl rfl rfl
      have ck : Cok (cxOf (L2.CX P w) P w K mg base d.N d.x d.scope f cdv A outer s H E) (xrel cl) E (cN pg fu n) tb d.N d.scope.names := {
        calm := rfl
        hN := rfl
        nd := Sc.nd
        un := by
          have := hr.un
          show (A.deeper (envOfC d.x d.scope s.heap.objs.size f cdv)).units + 65 < _
          omega
        vis := fun x h => by
          show d.scope.names.lookup x = _ ∨ _
          unfold visB at h
          split at h
          · exact .inl (by assumption)
          · exact .inr (.inl (by assumption))
          · exact .inr (.inr (by assumption))
          · cases h
        gl := fun x h => by
          show d.scope.names.lookup x = _
          unfold glB at h
          split at h
          · assumption
          · cases h
        loc := fun x h => ⟨loc_inv h, .inl rfl⟩
        cf := fun x h => by
          show d.scope.names.lookup x = _ ∨ _
          unfold cfB at h
          split at h
          · exact .inl (by assumption)
          · exact .inr (by assumption)
          · cases h
        blt := F.blt
        glo := F.glo
        fns := fun j x hj => by
          rw [F.fnm, List.getElem?_map] at hj
          obtain ⟨dj, e, rfl⟩ := map_invZ hj
          obtain ⟨fj, fdj, h1, h2, h3⟩ := F.fs j dj e
          exact ⟨fj, fdj, dj.ps, n, h1, h2.kp, h3, hr, defs_ok F n j dj fj fdj e h2⟩
        px := passes_call tk fun _ _ _ _ h => h }
      have sok : Sok (cxOf (L2.CX P w) P w K mg base d.N d.x d.scope f cdv A outer s H E) (xrel cl) E (cN pg fu n) tb d.N d.scope.names := ⟨ck, passes_of rfl, tk, rfl, Sc.kind, rfl, rfl, rfl⟩
      exact ⟨_, okSs d.df.body sok (F.cls _ rfl rfl) d.body hss, runDf_ok s0 c0 rd e2 q⟩
end
end Ri
set_option maxHeartbeats 2000000
namespace Ri
open PySem PySem.Spec PyProof.Rows L2

mutual
def gvB (K : PySem.W.Frag) : D → Value → Bool
  | .int i => fun u => match u with
    | .int j _ => decide (i = j)
    | _ => false
  | .str x => fun u => match u with
    | .str y _ => decide (x = y)
    | _ => false
  | .tup l => fun u => match u with
    | .ref a => (match K.lookup a with
      | some ⟨.type c, _, .seq its _, _⟩ => decide (c = "tuple") && (decide (its.size ≤ sizeLine) && gvBs K l its.toList)
      | _ => false)
    | _ => false
  | _ => fun _ => false
  termination_by structural d => d
def gvBs (K : PySem.W.Frag) : List D → List Value → Bool
  | [] => fun us => match us with
    | [] => true
    | _ => false
  | d :: ds => fun us => match us with
    | u :: us => gvB K d u && gvBs K ds us
    | _ => false
  termination_by structural d => d
end
section
variable {K : PySem.W.Frag}
mutual
theorem gv_ok : ∀ (d : D) (u : Value), gvB K d u = true → ∃ v, RelV v u ∧ ∀ H p, RelD K H p d v
  | .int i, u, h => by
    cases u with
    | int j t =>
      have e : i = j := of_decide_eq_true h
      exact ⟨.int i, ⟨t, by rw [e]⟩, fun _ _ => rfl⟩
    | _ => cases h
  | .str x, u, h => by
    cases u with
    | str y t =>
      have e : x = y := of_decide_eq_true h
      exact ⟨.str x, ⟨t, by rw [e]⟩, fun _ _ => rfl⟩
    | _ => cases h
  | .tup l, u, h => by
    cases u with
    | ref a =>
      have h1 : (match K.lookup a with
        | some ⟨.type c, _, .seq its _, _⟩ => decide (c = "tuple") && (decide (its.size ≤ sizeLine) && gvBs K l its.toList)
        | _ => false) = true := h
      cases q : K.lookup a with
      | none => rw [q] at h1; cases h1
      | some o =>
        obtain ⟨oc, od, dt, osl⟩ := o
        rw [q] at h1
        cases oc with
        | type c =>
          cases dt with
          | seq its n =>
            obtain ⟨h2, h3⟩ := two_and (show (decide (c = "tuple") && (decide (its.size ≤ sizeLine) && gvBs K l its.toList)) = true from h1)
            obtain ⟨h4, h5⟩ := two_and h3
            obtain ⟨xs, r, rel⟩ := gvs_ok l its.toList h5
            exact ⟨.ref a, rfl, fun H p => ⟨a, xs, rfl, .inr ⟨_, its, n, q, congrArg Value.type (of_decide_eq_true h2), rfl, of_decide_eq_true h4, r⟩, rel H p⟩⟩
          | _ => cases h1
        | _ => cases dt <;> cases h1
    | _ => cases h
  | .non, u, h => by cases h
  | .bl _, u, h => by cases h
  | .lst _, u, h => by cases h
  | .scr _, u, h => by cases h
  | .ref _, u, h => by cases h
  | .rng _ _, u, h => by cases h
theorem gvs_ok : ∀ (ds : List D) (us : List Value), gvBs K ds us = true → ∃ vs, Vals vs us ∧ ∀ H p, RelDs K H p ds vs
  | [], us, h => by
    cases us with
    | nil => exact ⟨[], .nil, fun _ _ => rfl⟩
    | cons _ _ => cases h
  | d :: ds, us, h => by
    cases us with
    | nil => cases h
    | cons u us =>
      obtain ⟨h1, h2⟩ := two_and (show (gvB K d u && gvBs K ds us) = true from h)
      obtain ⟨v, r1, e1⟩ := gv_ok d u h1
      obtain ⟨vs, r2, e2⟩ := gvs_ok ds us h2
      exact ⟨v :: vs, .cons r1 r2, fun H p => ⟨v, vs, rfl, e1 H p, e2 H p⟩⟩
end
end
def excRB (K : PySem.W.Frag) (A : Addr) : Bool :=
  PySem.W.excIn K A He.veBase "ValueError.__new__" && PySem.W.keepIn K (.ref A) && decide (PySem.W.subIn K (.ref A) (.type "BaseException") = some true) && decide (PySem.W.typeIn K (.ref A) = some (.type "type")) &&
  He.eqO (PySem.W.findIn K (.ref A) "__getattribute__") (some (some (.builtin "BaseException.__getattribute__"))) && He.eqO (PySem.W.findIn K (.ref A) "__getattr__") (some none) && PySem.W.hasDictIn K A &&
  He.eqO (PySem.W.findIn K (.ref A) "__class__") (some (some (.builtin "object.__class__"))) && He.eqO (PySem.W.specialIn K (.builtin "object.__class__") "__get__") (some (some (.builtin "getset_descriptor.__get__"))) &&
  decide (PySem.W.takesIn K (.builtin "object.__class__") = some true) && decide (PySem.W.mroIn K A (.type "object") = some true)
theorem excR_ok {K : PySem.W.Frag} {A : Addr} (h : excRB K A = true) : (PySem.W.excIn K A He.veBase "ValueError.__new__" = true ∧ PySem.W.keepIn K (.ref A) = true) ∧ (PySem.W.subIn K (.ref A) (.type "BaseException") = some true ∧ PySem.W.typeIn K (.ref A) = some (.type "type")) ∧ ExcC K A := by
  unfold excRB at h
  obtain ⟨h, h11⟩ := two_and h
  obtain ⟨h, h10⟩ := two_and h
  obtain ⟨h, h9⟩ := two_and h
  obtain ⟨h, h8⟩ := two_and h
  obtain ⟨h, h7⟩ := two_and h
  obtain ⟨h, h6⟩ := two_and h
  obtain ⟨h, h5⟩ := two_and h
  obtain ⟨h, h4⟩ := two_and h
  obtain ⟨h, h3⟩ := two_and h
  obtain ⟨h1, h2⟩ := two_and h
  exact ⟨⟨h1, h2⟩, ⟨of_decide_eq_true h3, of_decide_eq_true h4⟩, ⟨He.eqO_ok h5, He.eqO_ok h6, of_decide_eq_true h3, h7, He.eqO_ok h8, He.eqO_ok h9, of_decide_eq_true h10, of_decide_eq_true h11⟩⟩
def subB (K : PySem.W.Frag) (rz : List Nat) (sub : Nat → Nat → Option Bool) (cl : List Addr) : Bool :=
  (List.range cl.length).all fun c => (List.range cl.length).all fun h => match sub c h, cl[c]?, cl[h]? with
    | some b, some A, some B => rz.contains c && (decide (PySem.W.exmOne K (.ref A) (.ref B) = some b) && decide (PySem.W.kitOne K (.ref A) (.ref B) = some b))
    | _, _, _ => true
def gloB (K : PySem.W.Frag) (x : Str) (d : D) : Bool := match PySem.W.nsIn K mainGlobals x with
  | some (some u) => gvB K d u
  | _ => false
def Dd.df0 (d : Dd) : He.DefD := ⟨(d.x, none), d.x, d.x, d.params, d.body, d.scope, [], []⟩
def clA (K : PySem.W.Frag) (tb : Tab) : List Addr := tb.cnm.map (He.ga K)
def okAll (tb : Tab) (pg : Prog) (dds : List Dd) (K : PySem.W.Frag) : Bool :=
  (dds.all fun d => (He.Fa.glo d.x).ok K && d.df0.ok K) && (blts.all fun x => (He.Fa.free x).ok K) && (List.range tb.gnm.length).all (fun i => match tb.gnm[i]?, pg.glo[i]? with
    | some x, some d => gloB K x d
    | _, _ => false) && (tb.cnm.all fun x => (He.Fa.glo x).ok K) && (tb.rz.all fun c => match (clA K tb)[c]? with
    | some A => excRB K A
    | none => false) && subB K tb.rz pg.sub (clA K tb)
def obsK (tb : Tab) (pg : Prog) (dds : List Dd) (K : PySem.W.Frag) : Bool × List He.FnW := (okAll tb pg dds K, dds.map fun d => He.fnW K (d.x, none))
def valK (dds : List Dd) : Bool × List He.FnW := (true, dds.map fun d => d.df0.val)
def obsH (n : Nat) (tb : Tab) (pg : Prog) (dds : List Dd) (g : Addr → Option Obj) : Bool × List He.FnW := obsK tb pg dds (He.frG g (He.asD g n))
def hookR (n : Nat) (tb : Tab) (pg : Prog) (dds : List Dd) : PySem.W.Hook where
  α := Bool × List He.FnW
  obs := fun s => obsH n tb pg dds s.heap.get?
  val := fun _ => valK dds
  says := fun _ h => ∃ K : PySem.W.Frag, K.In h ∧ obsK tb pg dds K = valK dds
  of := fun _ _ e => ⟨_, He.frG_in, e⟩
  keeps := fun _ _ _ ⟨K, hK, c⟩ k => ⟨K, PySem.W.Frag.In.keeps hK k, c⟩
def obR (n : Nat) (tb : Tab) (pg : Prog) (dds : List Dd) (s : PySem.W.SharedT) : Bool × List He.FnW := obsH n tb pg dds (HandSHeadRun.getT s)
theorem obR_eq {n : Nat} {tb : Tab} {pg : Prog} {dds : List Dd} (s : PySem.W.SharedT) : obR n tb pg dds s = (hookR n tb pg dds).obs s.abs := by
  have e : HandSHeadRun.getT s = s.abs.heap.get? := funext (HandSHeadRun.getT_eq s)
  show obsH n tb pg dds (HandSHeadRun.getT s) = obsH n tb pg dds s.abs.heap.get?
  rw [e]
/-- what is known of the text alone -/
structure Still (tb : Tab) (pg : Prog) (dds : List Dd) : Prop where
  df : pg.df = dds.map (·.df)
  fnm : tb.fnm = dds.map (·.x)
  ck : ∀ (i : Nat) (d : Dd), dds[i]? = some d → ckDd tb d = true
  bind : ∀ (i : Nat) (d : Dd), dds[i]? = some d → ∀ (kV doc pm : Value) (an : Option Addr) (cdv ct : Value) (us : List Value), us.length = d.ps.length → bindArgs (PySem.W.fnOf d.x d.x d.params d.body d.scope .none kV doc pm an cdv ct) ⟨us, []⟩ = pure (d.ps.zip us)
section
variable {K : PySem.W.Frag} {h : Heap} {mg : Str → Option Value} {tb : Tab} {pg : Prog} {dds : List Dd}
theorem facts_of (st : Still tb pg dds) (X : K.In h) (G : h.Ns mainGlobals mg) (c : obsK tb pg dds K = valK dds) : Facts K mg tb (clA K tb) pg dds := by
  have c0 : okAll tb pg dds K = true := congrArg (fun z : Bool × List He.FnW => z.1) c
  have c9 : (dds.map fun d => He.fnW K (d.x, none)) = dds.map fun d => d.df0.val := congrArg (fun z : Bool × List He.FnW => z.2) c
  unfold okAll at c0
  obtain ⟨c0, c6⟩ := two_and c0
  obtain ⟨c0, c5⟩ := two_and c0
  obtain ⟨c0, c4⟩ := two_and c0
  obtain ⟨c0, c3⟩ := two_and c0
  obtain ⟨c1, c2⟩ := two_and c0
  refine ⟨st.df, st.fnm, st.ck, fun i d hi => ?_, fun x hx => He.free_ok X G (List.all_eq_true.mp c2 x hx), fun i x hi => ?_, fun Y hK hm => ?_⟩
  · obtain ⟨q1, q2⟩ := two_and (List.all_eq_true.mp c1 d (List.mem_of_getElem? hi))
    have e : (dds.map fun d => He.fnW K (d.x, none))[i]? = (dds.map fun d => d.df0.val)[i]? := by rw [c9]
    rw [List.getElem?_map, List.getElem?_map, hi] at e
    obtain ⟨fd, F⟩ := He.DefD.funD (d := d.df0) (Option.some.inj e) q2
    exact ⟨He.ga K d.x, fd, He.glo_ok X G q1, F, FunD.bindsN F (st.bind i d hi)⟩
  · have hlt : i < tb.gnm.length := (List.getElem?_eq_some_iff.mp hi).1
    have q := List.all_eq_true.mp c3 i (List.mem_range.mpr hlt)
    rw [hi] at q
    cases hg : pg.glo[i]? with
    | none => rw [hg] at q; cases q
    | some d =>
      rw [hg] at q
      have q : gloB K x d = true := q
      unfold gloB at q
      cases e : PySem.W.nsIn K mainGlobals x with
      | none => rw [e] at q; cases q
      | some o =>
        rw [e] at q
        cases o with
        | none => cases q
        | some u =>
          obtain ⟨v, r, rel⟩ := gv_ok d u q
          exact ⟨u, v, d, PySem.W.mg_of X G e, r, rfl, rel⟩
  · refine ⟨fun c x hc => ?_, fun c A hr hc => ?_, fun c h b A B hs h1 h2 => ?_⟩
    · refine ⟨He.ga K x, ?_, ?_⟩
      · unfold clA
        rw [List.getElem?_map, hc] <;> rfl
      · rw [hm]
        exact He.glo_ok X G (List.all_eq_true.mp c4 x (List.mem_of_getElem? hc))
    · have q := List.all_eq_true.mp c5 c (by simpa using hr)
      rw [hc] at q
      obtain ⟨⟨q1, q2⟩, ⟨q3, q4⟩, q5⟩ := excR_ok (show excRB K A = true from q)
      rw [hK]
      exact ⟨_, _, _, _, PySem.F.excBase_ValueError, q1, q2, raises_own (by rw [hK]; exact q3) (by rw [hK]; exact q4), q5⟩
    · have l1 : c < (clA K tb).length := (List.getElem?_eq_some_iff.mp h1).1
      have l2 : h < (clA K tb).length := (List.getElem?_eq_some_iff.mp h2).1
      have q := List.all_eq_true.mp (List.all_eq_true.mp c6 c (List.mem_range.mpr l1)) h (List.mem_range.mpr l2)
      rw [hs, h1, h2] at q
      obtain ⟨q1, q2⟩ := two_and (show (tb.rz.contains c && (decide (PySem.W.exmOne K (.ref A) (.ref B) = some b) && decide (PySem.W.kitOne K (.ref A) (.ref B) = some b))) = true from q)
      obtain ⟨q2, q3⟩ := two_and q2
      rw [hK]
      exact ⟨q1, of_decide_eq_true q2, of_decide_eq_true q3⟩
end
theorem scr_at {K : PySem.W.Frag} {H : Hp} {a : Addr} {xs : List V} (hO : Only H) (h : SqL K H a xs) : ScrAt K H [] a xs := by
  rcases h with (h | ⟨o, h⟩) | h
  · rcases hO a with e | ⟨o, ys, e⟩
    · rw [e] at h; cases h
    · rw [e] at h; cases h
  · exact .inl ⟨⟨o, h⟩, by simp⟩
  · exact .inr h
theorem walkR {l : PySem.W.OpenLaw} {q : Program} {loose : List Str} {XP : (Str → Option Value) → Heap → Prop} {d : DefRec} {tb : Tab} {pg : Prog} {dds : List Dd} {n m L fu : Nat} {dl : Dd} {x : Str}
    (st : Still tb pg dds) (hn : l.most = some m) (hm : m ≤ sizeLine) (hdf : d.params.defaults = []) (hr : Room n callerA) (hL : dds[L]? = some dl) (hps : dl.ps = [x]) (hx : d.name = dl.x)
    (run : ∀ ns : List Int, ns.length ≤ m → ∃ S, callF pg fu n L [] [.scr ns] [] = .ok (.bl true) S) :
    PySem.W.WalkO q loose XP (hookR k tb pg dds).says l.row.toRowW d [] (fun f vs => PySem.call f vs) := by
  refine Att.attach_call hn hdf fun w s₀ s₁ mg mb fa o pm cd doc a vs ns G Y ho hd hcd hmg hobj hints hlen hg => ?_
  obtain ⟨K, KX, c⟩ := Y
  have F := facts_of st KX G.T.g c
  obtain ⟨f, fd, e1, e2, _⟩ := F.fs L dl hL
  have ef : fa = f := by
    rw [hx, e1] at hmg
    cases hmg <;> rfl
  subst ef
  have hF : ∀ base : Heap, K.In base → base.Ns mainGlobals mg → FnOk l.prog w K mg base (L2.CX l.prog w) n fa fd [x] (spF K (xrel (clA K tb)) (cN pg fu n) L) := fun base _ _ => by
    have z := defs_ok (P := l.prog) (w := w) (base := base) (fu := fu) F n L dl fa fd hL e2
    rw [hps] at z
    exact z
  have hb : ∀ (s : Shared) (u : Value), BindsTo s fd ⟨[u], []⟩ [(x, u)] := fun s u => by
    have z := FunD.bindsA e2 (st.bind L dl hL) s [u] (by rw [hps] <;> rfl)
    rw [hps] at z
    exact z
  refine law_call KX G.T.g G.T.b G.T.builtins G.T.nolimit hg hobj hints (Nat.le_trans hlen hm) hr hF hb (fun H hO hS => ?_) fun H e s' z => ?_
  · obtain ⟨S, e⟩ := run ns hlen
    refine ⟨[], [], [], [], [.scr ns], ⟨rfl, List.nodup_nil, fun a z => absurd z (by simp), fun n a so z => by simp at z⟩, fun b z => absurd z (by simp), ⟨.ref a, [], rfl, ⟨a, rfl, scr_at hO hS⟩, rfl⟩, ?_⟩
    show Post K (xrel (clA K tb)) (fun _ _ _ => False) [] [] [] H (callF pg fu n L [] [.scr ns] []) _
    rw [e]
    exact fun m' H' _ _ _ v rv => rv
  · obtain ⟨_, _, _, _, _, _, _, _, _, _, _, _, z⟩ := z
    exact z
end Ri
set_option maxHeartbeats 1000000
namespace Ri
open PySem

theorem bnd_eq {α β : Type} {x : M α} {f : α → M β} {S S1 : Sto} {a : α} (h : x S = .ok a S1) : bnd x f S = f a S1 := by
  unfold bnd
  rw [h]
theorem xss_cons {C : Ctx} {bs : List Nat} {s : S} {r : Ss} {v v1 : Vs} {S S1 : Sto} (h : xs C bs s v S = .ok (.nx, v1) S1) : xss C bs (.cons s r) v S = xss C bs r v1 S1 := by
  show bnd (xs C bs s v) _ S = _
  unfold bnd
  rw [h]
theorem xss_stop {C : Ctx} {bs : List Nat} {s : S} {r : Ss} {v v1 : Vs} {S S1 : Sto} {d : D} (h : xs C bs s v S = .ok (.ret d, v1) S1) : xss C bs (.cons s r) v S = .ok (.ret d, v1) S1 := by
  show bnd (xs C bs s v) _ S = _
  unfold bnd
  rw [h] <;> rfl
theorem xs_if {C : Ctx} {bs : List Nat} {c : E} {a b : Ss} {v : Vs} {S S1 : Sto} {t : Bool} (h : tst C c ⟨bs, v⟩ S = .ok t S1) : xs C bs (.iff c a b) v S = cond t (xss C bs a v S1) (xss C bs b v S1) := by
  show bnd (tst C c ⟨bs, v⟩) _ S = _
  unfold bnd
  rw [h]
  cases t <;> rfl
theorem xs_asg {C : Ctx} {bs : List Nat} {t : Tg} {e : E} {v v1 : Vs} {S S1 S2 : Sto} {d : D} (h : ev C e ⟨bs, v⟩ S = .ok d S1) (h2 : asg C bs t v d S1 = .ok v1 S2) : xs C bs (.asg t e) v S = .ok (.nx, v1) S2 := by
  show bnd (ev C e ⟨bs, v⟩) _ S = _
  unfold bnd
  rw [h]
  show bnd (asg C bs t v d) _ S1 = _
  unfold bnd
  rw [h2] <;> rfl
theorem xs_set {C : Ctx} {bs : List Nat} {i : Nat} {e : E} {v : Vs} {S S1 : Sto} {d : D} (h : ev C e ⟨bs, v⟩ S = .ok d S1) : xs C bs (.asg (.nm i) e) v S = .ok (.nx, v.set i (some d)) S1 := xs_asg h rfl
theorem ev_bin {C : Ctx} {ρ : Env} {o : Op} {a b : E} {S S1 S2 : Sto} {x y z : D} (h : ev C a ρ S = .ok x S1) (h2 : ev C b ρ S1 = .ok y S2) (h3 : arith S2 o x y = some z) : ev C (.bin o a b) ρ S = .ok z S2 := by
  show bnd (ev C a ρ) _ S = _
  unfold bnd
  rw [h]
  show bnd (ev C b ρ) _ S1 = _
  unfold bnd
  rw [h2]
  show ofO (arith S2 o x y) S2 = _
  rw [h3] <;> rfl
theorem mul_sml {S : Sto} {i j : Int} (hi : sml i = true) (hj : sml j = true) : arith S .mul (.int i) (.int j) = some (.int (i * j)) := by
  show (if (sml i && sml j) = true then some (D.int (i * j)) else none) = _
  rw [hi, hj] <;> rfl
theorem big_le {n : Nat} (h : n ≤ 1000000000000) : Nat.ble n BIG = true := by
  refine Nat.ble_eq_true_of_le (Nat.le_trans h ?_)
  have : (1000000000000 : Nat) ≤ 2 ^ 40 := by decide
  exact Nat.le_trans this (Nat.pow_le_pow_right (by decide) (by decide))
theorem sml_of {i : Int} (h0 : 0 ≤ i) (h : i ≤ 1000000000000) : sml i = true := big_le (by omega)

abbrev dDrawB : Ss := .cons (.asg (.nm 1) (.bin .mod (.pri .int (.cons (.bin .add (.bin .add (.bin .mul (.var 1) (.cst (.int 48271))) (.bin .mod (.pri .abs (.cons (.pri .int (.cons (.var 2) .nil)) .nil)) (.cst (.int 65521)))) (.cst (.int 1))) .nil)) (.cst (.int 2147483647)))) .nil
def dDraw : Df := ⟨1, 3, true,
  .cons (.asg (.nm 1) (.cst (.int 7)))
  (.cons (.fr (.nm 2) (.seq (.var 0)) dDrawB)
  (.cons (.ret (.mk (.ls (.cons (.lc (.c1 (.pri .abs (.cons (.pri .int (.cons (.var 2) .nil)) .nil)) (.nm 2) (.seq (.var 0)) .none)) (.cons (.neg (.cst (.int 1))) (.cons (.cst (.int 0)) (.cons (.var 1) .nil))))))) .nil))⟩
def dTake : Df := ⟨2, 3, false,
  .cons (.iff (.cmp .eq (.idx (.var 0) (.cst (.int 2))) (.cst (.int 0)))
    (.cons (.asg (.ix (.var 0) (.cst (.int 1))) (.bin .add (.idx (.var 0) (.cst (.int 1))) (.cst (.int 1))))
    (.cons (.iff (.cmp .lt (.idx (.var 0) (.cst (.int 1))) (.pri .len (.cons (.idx (.var 0) (.cst (.int 0))) .nil))) (.cons (.asg (.ix (.var 0) (.cst (.int 2))) (.idx (.idx (.var 0) (.cst (.int 0))) (.idx (.var 0) (.cst (.int 1))))) .nil) .nil)
    (.cons (.iff (.cmp .eq (.idx (.var 0) (.cst (.int 2))) (.cst (.int 0)))
      (.cons (.asg (.ix (.var 0) (.cst (.int 3))) (.bin .mod (.pri .int (.cons (.bin .add (.bin .mul (.idx (.var 0) (.cst (.int 3))) (.cst (.int 48271))) (.cst (.int 11))) .nil)) (.cst (.int 2147483647))))
      (.cons (.asg (.ix (.var 0) (.cst (.int 2))) (.idx (.var 0) (.cst (.int 3)))) .nil)) .nil) .nil))) .nil)
  (.cons (.asg (.nm 2) (.bin .mod (.pri .int (.cons (.idx (.var 0) (.cst (.int 2))) .nil)) (.var 1)))
  (.cons (.asg (.ix (.var 0) (.cst (.int 2))) (.bin .fdiv (.idx (.var 0) (.cst (.int 2))) (.var 1)))
  (.cons (.ret (.var 2)) .nil)))⟩
/-- the draw: the numbers of the script, where one is, what is left of a number, the seed -/
structure Dr where
  cs : List Int
  a : Int
  b : Int
  c : Int
def Dr.so (q : Dr) : SO := .lst [.lst (q.cs.map .int), .int q.a, .int q.b, .int q.c]
def Dr.ok (q : Dr) : Prop := -1 ≤ q.a ∧ 0 ≤ q.c ∧ q.c ≤ 2147483647
section
variable {C : Ctx} {bs : List Nat} {rest : Sto}
/-- the end of a take -/
theorem take_end {q : Dr} {m : Int} (hm : 0 < m) (hs : sml m = true) : xss C bs (.cons (.asg (.nm 2) (.bin .mod (.pri .int (.cons (.idx (.var 0) (.cst (.int 2))) .nil)) (.var 1)))
  (.cons (.asg (.ix (.var 0) (.cst (.int 2))) (.bin .fdiv (.idx (.var 0) (.cst (.int 2))) (.var 1)))
  (.cons (.ret (.var 2)) .nil))) [some (.ref 0), some (.int m), none] (q.so :: rest) = .ok (.ret (.int (q.b.fmod m)), [some (.ref 0), some (.int m), some (.int (q.b.fmod m))]) (Dr.so { q with b := q.b.fdiv m } :: rest) := by
  have m0 : (m != 0) = true := by
    have : m ≠ 0 := by omega
    simpa using this
  have e1 : arith (q.so :: rest) .mod (.int q.b) (.int m) = some (.int (q.b.fmod m)) := by
    show ((if (m != 0) = true then some (q.b.fmod m) else none).map D.int) = _
    rw [m0] <;> rfl
  have e2 : arith (q.so :: rest) .fdiv (.int q.b) (.int m) = some (.int (q.b.fdiv m)) := by
    show ((if (m != 0 && sml m) = true then some (q.b.fdiv m) else none).map D.int) = _
    rw [m0, hs] <;> rfl
  refine (xss_cons (xs_set (ev_bin (S1 := q.so :: rest) (S2 := q.so :: rest) (x := .int q.b) (y := .int m) rfl rfl e1))).trans ?_
  refine (xss_cons (xs_asg (v1 := [some (.ref 0), some (.int m), some (.int (q.b.fmod m))]) (S2 := Dr.so { q with b := q.b.fdiv m } :: rest) (ev_bin (S1 := q.so :: rest) (S2 := q.so :: rest) (x := .int q.b) (y := .int m) rfl rfl e2) rfl)).trans ?_
  rfl
/-- the seed goes on -/
theorem take_seed {q : Dr} {m : Int} (hq : q.ok) : ∃ q' : Dr, q'.ok ∧ xs C bs (.iff (.cmp .eq (.idx (.var 0) (.cst (.int 2))) (.cst (.int 0)))
      (.cons (.asg (.ix (.var 0) (.cst (.int 3))) (.bin .mod (.pri .int (.cons (.bin .add (.bin .mul (.idx (.var 0) (.cst (.int 3))) (.cst (.int 48271))) (.cst (.int 11))) .nil)) (.cst (.int 2147483647))))
      (.cons (.asg (.ix (.var 0) (.cst (.int 2))) (.idx (.var 0) (.cst (.int 3)))) .nil)) .nil) [some (.ref 0), some (.int m), none] (q.so :: rest) = .ok (.nx, [some (.ref 0), some (.int m), none]) (q'.so :: rest) := by
  have h : tst C (.cmp .eq (.idx (.var 0) (.cst (.int 2))) (.cst (.int 0))) ⟨bs, [some (.ref 0), some (.int m), none]⟩ (q.so :: rest) = .ok (q.b == 0) (q.so :: rest) := rfl
  cases hb : q.b == 0 with
  | false =>
    rw [hb] at h
    exact ⟨q, hq, (xs_if h).trans rfl⟩
  | true =>
    rw [hb] at h
    have e1 : ev C (.bin .mul (.idx (.var 0) (.cst (.int 3))) (.cst (.int 48271))) ⟨bs, [some (.ref 0), some (.int m), none]⟩ (q.so :: rest) = .ok (.int (q.c * 48271)) (q.so :: rest) :=
      ev_bin (S1 := q.so :: rest) (x := .int q.c) (y := .int 48271) rfl rfl (mul_sml (sml_of hq.2.1 (by have := hq.2.2; omega)) (sml_of (by decide) (by decide)))
    have e2 : ev C (.bin .add (.bin .mul (.idx (.var 0) (.cst (.int 3))) (.cst (.int 48271))) (.cst (.int 11))) ⟨bs, [some (.ref 0), some (.int m), none]⟩ (q.so :: rest) = .ok (.int (q.c * 48271 + 11)) (q.so :: rest) :=
      ev_bin (y := .int 11) e1 rfl rfl
    have e3 : ev C (.pri .int (.cons (.bin .add (.bin .mul (.idx (.var 0) (.cst (.int 3))) (.cst (.int 48271))) (.cst (.int 11))) .nil)) ⟨bs, [some (.ref 0), some (.int m), none]⟩ (q.so :: rest) = .ok (.int (q.c * 48271 + 11)) (q.so :: rest) := by
      show bnd (bnd (ev C _ _) _) _ _ = _
      unfold bnd
      rw [e2] <;> rfl
    have e4 := ev_bin (C := C) (ρ := ⟨bs, [some (.ref 0), some (.int m), none]⟩) (o := .mod) (b := .cst (.int 2147483647)) (y := .int 2147483647) (z := .int ((q.c * 48271 + 11).fmod 2147483647)) e3 rfl rfl
    refine ⟨{ q with c := (q.c * 48271 + 11).fmod 2147483647, b := (q.c * 48271 + 11).fmod 2147483647 }, ⟨hq.1, Int.fmod_nonneg_of_pos _ (by decide), Int.le_of_lt (Int.fmod_lt_of_pos _ (by decide))⟩, (xs_if h).trans ?_⟩
    exact (xss_cons (xs_asg (v1 := [some (.ref 0), some (.int m), none]) (S2 := Dr.so { q with c := (q.c * 48271 + 11).fmod 2147483647 } :: rest) e4 rfl)).trans rfl
/-- the next number of the script -/
theorem take_next {q : Dr} {m : Int} (hq : q.ok) : ∃ q' : Dr, q'.ok ∧ xs C bs (.iff (.cmp .lt (.idx (.var 0) (.cst (.int 1))) (.pri .len (.cons (.idx (.var 0) (.cst (.int 0))) .nil))) (.cons (.asg (.ix (.var 0) (.cst (.int 2))) (.idx (.idx (.var 0) (.cst (.int 0))) (.idx (.var 0) (.cst (.int 1))))) .nil) .nil)
    [some (.ref 0), some (.int m), none] (Dr.so { q with a := q.a + 1 } :: rest) = .ok (.nx, [some (.ref 0), some (.int m), none]) (q'.so :: rest) := by
  obtain ⟨k, hk⟩ : ∃ k : Nat, q.a + 1 = Int.ofNat k := ⟨(q.a + 1).toNat, (Int.toNat_of_nonneg (by have := hq.1; omega)).symm⟩
  rw [hk]
  have h : tst C (.cmp .lt (.idx (.var 0) (.cst (.int 1))) (.pri .len (.cons (.idx (.var 0) (.cst (.int 0))) .nil))) ⟨bs, [some (.ref 0), some (.int m), none]⟩ (Dr.so { q with a := Int.ofNat k } :: rest) =
    .ok (decide (Int.ofNat k < ((q.cs.map D.int).length : Int))) (Dr.so { q with a := Int.ofNat k } :: rest) := rfl
  cases hb : decide (Int.ofNat k < ((q.cs.map D.int).length : Int)) with
  | false =>
    rw [hb] at h
    exact ⟨{ q with a := Int.ofNat k }, ⟨by show -1 ≤ Int.ofNat k; have := Int.natCast_nonneg k; show (-1 : Int) ≤ (k : Int); omega, hq.2⟩, (xs_if h).trans rfl⟩
  | true =>
    rw [hb] at h
    have hl : k < q.cs.length := by
      have := of_decide_eq_true hb
      rw [List.length_map] at this
      exact Int.ofNat_lt.mp this
    have e0 : ixA (q.cs.map D.int) (Int.ofNat k) = some (.int q.cs[k]) := by
      show (q.cs.map D.int)[k]? = _
      rw [List.getElem?_map, List.getElem?_eq_getElem hl] <;> rfl
    have e1 : ev C (.idx (.idx (.var 0) (.cst (.int 0))) (.idx (.var 0) (.cst (.int 1)))) ⟨bs, [some (.ref 0), some (.int m), none]⟩ (Dr.so { q with a := Int.ofNat k } :: rest) = .ok (.int q.cs[k]) (Dr.so { q with a := Int.ofNat k } :: rest) := by
      show ofO (ixA (q.cs.map D.int) (Int.ofNat k)) _ = _
      rw [e0] <;> rfl
    refine ⟨{ q with a := Int.ofNat k, b := q.cs[k] }, ⟨by show -1 ≤ Int.ofNat k; have := Int.natCast_nonneg k; show (-1 : Int) ≤ (k : Int); omega, hq.2⟩, (xs_if h).trans ?_⟩
    exact (xss_cons (xs_asg (v1 := [some (.ref 0), some (.int m), none]) (S2 := Dr.so { q with a := Int.ofNat k, b := q.cs[k] } :: rest) e1 rfl)).trans rfl
/-- a take tells a number below m -/
theorem take_run {q : Dr} {m : Int} (hm : 0 < m) (hs : sml m = true) (hq : q.ok) : ∃ (r : Int) (q' : Dr), 0 ≤ r ∧ r < m ∧ q'.ok ∧ runDf C dTake bs [.ref 0, .int m] (q.so :: rest) = .ok (.int r) (q'.so :: rest) := by
  have fin : ∀ q1 : Dr, q1.ok → xs C ((q.so :: rest).length :: bs) (.iff (.cmp .eq (.idx (.var 0) (.cst (.int 2))) (.cst (.int 0)))
    (.cons (.asg (.ix (.var 0) (.cst (.int 1))) (.bin .add (.idx (.var 0) (.cst (.int 1))) (.cst (.int 1))))
    (.cons (.iff (.cmp .lt (.idx (.var 0) (.cst (.int 1))) (.pri .len (.cons (.idx (.var 0) (.cst (.int 0))) .nil))) (.cons (.asg (.ix (.var 0) (.cst (.int 2))) (.idx (.idx (.var 0) (.cst (.int 0))) (.idx (.var 0) (.cst (.int 1))))) .nil) .nil)
    (.cons (.iff (.cmp .eq (.idx (.var 0) (.cst (.int 2))) (.cst (.int 0)))
      (.cons (.asg (.ix (.var 0) (.cst (.int 3))) (.bin .mod (.pri .int (.cons (.bin .add (.bin .mul (.idx (.var 0) (.cst (.int 3))) (.cst (.int 48271))) (.cst (.int 11))) .nil)) (.cst (.int 2147483647))))
      (.cons (.asg (.ix (.var 0) (.cst (.int 2))) (.idx (.var 0) (.cst (.int 3)))) .nil)) .nil) .nil))) .nil) [some (.ref 0), some (.int m), none] (q.so :: rest) = .ok (.nx, [some (.ref 0), some (.int m), none]) (q1.so :: rest) →
      ∃ (r : Int) (q' : Dr), 0 ≤ r ∧ r < m ∧ q'.ok ∧ runDf C dTake bs [.ref 0, .int m] (q.so :: rest) = .ok (.int r) (q'.so :: rest) := fun q1 h1 e => by
    refine ⟨q1.b.fmod m, { q1 with b := q1.b.fdiv m }, Int.fmod_nonneg_of_pos _ hm, Int.fmod_lt_of_pos _ hm, h1, ?_⟩
    have z := (xss_cons (r := _) e).trans (take_end (C := C) (bs := (q.so :: rest).length :: bs) (rest := rest) (q := q1) hm hs)
    show (match xss C ((q.so :: rest).length :: bs) dTake.body [some (.ref 0), some (.int m), none] (q.so :: rest) with
      | .ok p S' => (match (outD p).bind (frz S' (q.so :: rest).length) with
        | some d => R.ok d (S'.take (q.so :: rest).length)
        | none => R.bad)
      | .ex c d S' => (match d with
        | .str _ => R.ex c d (S'.take (q.so :: rest).length)
        | .non => R.ex c d (S'.take (q.so :: rest).length)
        | _ => R.bad)
      | .bad => (.bad : R D)) = _
    rw [show xss C ((q.so :: rest).length :: bs) dTake.body [some (.ref 0), some (.int m), none] (q.so :: rest) = _ from z]
    show R.ok (D.int (q1.b.fmod m)) (List.take (q.so :: rest).length (Dr.so { q1 with b := q1.b.fdiv m } :: rest)) = _
    rw [show (q.so :: rest).length = (Dr.so { q1 with b := q1.b.fdiv m } :: rest).length from rfl, List.take_length]
  have h : tst C (.cmp .eq (.idx (.var 0) (.cst (.int 2))) (.cst (.int 0))) ⟨(q.so :: rest).length :: bs, [some (.ref 0), some (.int m), none]⟩ (q.so :: rest) = .ok (q.b == 0) (q.so :: rest) := rfl
  cases hb : q.b == 0 with
  | false =>
    rw [hb] at h
    exact fin q hq ((xs_if h).trans rfl)
  | true =>
    rw [hb] at h
    obtain ⟨q1, k1, e1⟩ := take_next (C := C) (bs := (q.so :: rest).length :: bs) (rest := rest) (m := m) hq
    obtain ⟨q2, k2, e2⟩ := take_seed (C := C) (bs := (q.so :: rest).length :: bs) (rest := rest) (m := m) k1
    refine fin q2 k2 ((xs_if h).trans ?_)
    have e0 : xs C ((q.so :: rest).length :: bs) (.asg (.ix (.var 0) (.cst (.int 1))) (.bin .add (.idx (.var 0) (.cst (.int 1))) (.cst (.int 1)))) [some (.ref 0), some (.int m), none] (q.so :: rest) = .ok (.nx, [some (.ref 0), some (.int m), none]) (Dr.so { q with a := q.a + 1 } :: rest) := rfl
    refine (xss_cons e0).trans ?_
    refine (xss_cons e1).trans ?_
    exact (xss_cons e2).trans rfl
end
end Ri
set_option maxHeartbeats 1000000
namespace Ri
open PySem
section
variable {C : Ctx} {bs : List Nat} {S : Sto}
def absI (i : Int) : Int := if i < 0 then -i else i
theorem draw_step {ns : List Int} {c i : Int} (h0 : 0 ≤ c) (h1 : c ≤ 2147483647) : xss C bs (.cons (.asg (.nm 1) (.bin .mod (.pri .int (.cons (.bin .add (.bin .add (.bin .mul (.var 1) (.cst (.int 48271))) (.bin .mod (.pri .abs (.cons (.pri .int (.cons (.var 2) .nil)) .nil)) (.cst (.int 65521)))) (.cst (.int 1))) .nil)) (.cst (.int 2147483647)))) .nil)
    [some (.scr ns), some (.int c), some (.int i)] S = .ok (.nx, [some (.scr ns), some (.int ((c * 48271 + (absI i).fmod 65521 + 1).fmod 2147483647)), some (.int i)]) S := by
  have e1 : ev C (.bin .mul (.var 1) (.cst (.int 48271))) ⟨bs, [some (.scr ns), some (.int c), some (.int i)]⟩ S = .ok (.int (c * 48271)) S :=
    ev_bin (S1 := S) (x := .int c) (y := .int 48271) rfl rfl (mul_sml (sml_of h0 (by omega)) (sml_of (by decide) (by decide)))
  have e2 : ev C (.bin .add (.bin .mul (.var 1) (.cst (.int 48271))) (.bin .mod (.pri .abs (.cons (.pri .int (.cons (.var 2) .nil)) .nil)) (.cst (.int 65521)))) ⟨bs, [some (.scr ns), some (.int c), some (.int i)]⟩ S = .ok (.int (c * 48271 + (absI i).fmod 65521)) S :=
    ev_bin (y := .int ((absI i).fmod 65521)) e1 rfl rfl
  have e3 : ev C (.bin .add (.bin .add (.bin .mul (.var 1) (.cst (.int 48271))) (.bin .mod (.pri .abs (.cons (.pri .int (.cons (.var 2) .nil)) .nil)) (.cst (.int 65521)))) (.cst (.int 1))) ⟨bs, [some (.scr ns), some (.int c), some (.int i)]⟩ S = .ok (.int (c * 48271 + (absI i).fmod 65521 + 1)) S :=
    ev_bin (y := .int 1) e2 rfl rfl
  have e4 : ev C (.pri .int (.cons (.bin .add (.bin .add (.bin .mul (.var 1) (.cst (.int 48271))) (.bin .mod (.pri .abs (.cons (.pri .int (.cons (.var 2) .nil)) .nil)) (.cst (.int 65521)))) (.cst (.int 1))) .nil)) ⟨bs, [some (.scr ns), some (.int c), some (.int i)]⟩ S = .ok (.int (c * 48271 + (absI i).fmod 65521 + 1)) S := by
    show bnd (bnd (ev C _ _) _) _ _ = _
    unfold bnd
    rw [e3] <;> rfl
  have e5 := ev_bin (C := C) (ρ := ⟨bs, [some (.scr ns), some (.int c), some (.int i)]⟩) (o := .mod) (b := .cst (.int 2147483647)) (y := .int 2147483647) (z := .int ((c * 48271 + (absI i).fmod 65521 + 1).fmod 2147483647)) e4 rfl rfl
  exact (xss_cons (xs_set e5)).trans rfl
theorem draw_for {ns : List Int} {f : D → Vs → M (Fl × Vs)} (hf : ∀ (c i : Int) (x : Option D), 0 ≤ c → c ≤ 2147483647 → f (.int i) [some (.scr ns), some (.int c), x] S = .ok (.nx, [some (.scr ns), some (.int ((c * 48271 + (absI i).fmod 65521 + 1).fmod 2147483647)), some (.int i)]) S) :
    ∀ (l : List Int) (c : Int) (x : Option D), 0 ≤ c → c ≤ 2147483647 → ∃ (c' : Int) (x' : Option D), 0 ≤ c' ∧ c' ≤ 2147483647 ∧ forGo f (l.map .int) [some (.scr ns), some (.int c), x] S = .ok (.nx, [some (.scr ns), some (.int c'), x']) S
  | [], c, x, h0, h1 => ⟨c, x, h0, h1, rfl⟩
  | i :: l, c, x, h0, h1 => by
    obtain ⟨c', x', k0, k1, e⟩ := draw_for hf l ((c * 48271 + (absI i).fmod 65521 + 1).fmod 2147483647) (some (.int i)) (Int.fmod_nonneg_of_pos _ (by decide)) (Int.le_of_lt (Int.fmod_lt_of_pos _ (by decide)))
    refine ⟨c', x', k0, k1, ?_⟩
    show bnd (f (.int i) _) _ S = _
    unfold bnd
    rw [hf c i x h0 h1]
    exact e
theorem draw_lc {f : D → List D → M (List D)} (hf : ∀ (i : Int) (acc : List D), f (.int i) acc S = .ok (.int (absI i) :: acc) S) : ∀ (l : List Int) (acc : List D), lcGo f (l.map .int) acc S = .ok ((l.map fun i => D.int (absI i)).reverse ++ acc) S
  | [], acc => rfl
  | i :: l, acc => by
    show bnd (f (.int i) acc) _ S = _
    unfold bnd
    rw [hf i acc]
    show lcGo f (l.map .int) _ S = _
    rw [draw_lc hf l, List.map_cons, List.reverse_cons, List.append_assoc] <;> rfl
theorem noEx_eq {α : Type} {x : M α} {a : α} {S S' : Sto} (h : x S = .ok a S') : noEx x S = .ok a S' := by
  unfold noEx
  rw [h]
theorem draw_run {ns : List Int} (hl : ns.length ≤ LIM) : ∃ q : Dr, q.ok ∧ q.cs = ns.map absI ∧ runDf C dDraw bs [.scr ns] S = .ok (.ref S.length) (S ++ [q.so]) := by
  obtain ⟨c, x, h0, h1, e⟩ := draw_for (S := S) (ns := ns) (f := fun x v => match bindT v (.nm 2) x with
    | some v => xss C bs dDrawB v
    | none => bad) (fun c i x h0 h1 => draw_step h0 h1) ns 7 none (by decide) (by decide)
  refine ⟨⟨ns.map absI, -1, 0, c⟩, ⟨(by show (-1 : Int) ≤ -1; decide), h0, h1⟩, rfl, ?_⟩
  have e0 : xs C bs (.fr (.nm 2) (.seq (.var 0)) dDrawB) [some (.scr ns), some (.int 7), none] S = .ok (.nx, [some (.scr ns), some (.int c), x]) S := e
  have l1 := draw_lc (S := S) (f := fun y acc => (match bindT (wipeL [some (.scr ns), some (.int c), x] (slots (.nm 2))) (.nm 2) y with
    | some v => bnd (evCond C .none ⟨bs, v⟩) fun b => match b with
      | true => bnd ((ev2 C (.pri .abs (.cons (.pri .int (.cons (.var 2) .nil)) .nil))).v ⟨bs, v⟩) fun y => ret (y :: acc)
      | false => ret acc
    | none => bad)) (fun i acc => rfl) ns []
  have l2 : limL (((ns.map fun i => D.int (absI i)).reverse ++ []).reverse) = true := by
    show Nat.ble _ LIM = true
    exact Nat.ble_eq_true_of_le (by simpa using hl)
  have l3 : evC C (.c1 (.pri .abs (.cons (.pri .int (.cons (.var 2) .nil)) .nil)) (.nm 2) (.seq (.var 0)) .none) ⟨bs, [some (.scr ns), some (.int c), x]⟩ S = .ok ((ns.map absI).map .int) S := by
    have l4 : limM (bnd (lcGo (fun y acc => (match bindT (wipeL [some (.scr ns), some (.int c), x] (slots (.nm 2))) (.nm 2) y with
      | some v => bnd (evCond C .none ⟨bs, v⟩) fun b => match b with
        | true => bnd ((ev2 C (.pri .abs (.cons (.pri .int (.cons (.var 2) .nil)) .nil))).v ⟨bs, v⟩) fun y => ret (y :: acc)
        | false => ret acc
      | none => bad)) (ns.map D.int) []) fun acc => ret acc.reverse) S = .ok ((ns.map absI).map .int) S := by
      refine (bnd_eq (a := ((ns.map fun i => D.int (absI i)).reverse ++ []).reverse) (S1 := S) ((bnd_eq l1).trans rfl)).trans ?_
      show (if limL (((ns.map fun i => D.int (absI i)).reverse ++ []).reverse) = true then ret (((ns.map fun i => D.int (absI i)).reverse ++ []).reverse) else bad) S = _
      rw [if_pos l2]
      show R.ok (((ns.map fun i => D.int (absI i)).reverse ++ []).reverse) S = _
      rw [List.append_nil, List.reverse_reverse, List.map_map] <;> rfl
    exact noEx_eq l4
  have e1 : xss C bs dDraw.body [some (.scr ns), none, none] S = .ok (.ret (.ref S.length), [some (.scr ns), some (.int c), x]) (S ++ [Dr.so ⟨ns.map absI, -1, 0, c⟩]) := by
    refine (xss_cons (s := .asg (.nm 1) (.cst (.int 7))) (v1 := [some (.scr ns), some (.int 7), none]) (S1 := S) rfl).trans ?_
    refine (xss_cons e0).trans ?_
    refine xss_stop ?_
    refine (bnd_eq (a := .ref S.length) (S1 := S ++ [Dr.so ⟨ns.map absI, -1, 0, c⟩]) ?_).trans rfl
    refine (bnd_eq (a := [.lst ((ns.map absI).map .int), .int (-1), .int 0, .int c]) (S1 := S) ?_).trans rfl
    refine (bnd_eq (a := [.lst ((ns.map absI).map .int), .int (-1), .int 0, .int c]) (S1 := S) ?_).trans rfl
    refine (bnd_eq (a := .lst ((ns.map absI).map .int)) (S1 := S) ?_).trans rfl
    exact (bnd_eq l3).trans rfl
  show bnd (xss C bs dDraw.body [some (.scr ns), none, none]) (fun p => ofO (outD p)) S = _
  exact (bnd_eq e1).trans rfl
end
end Ri
set_option maxHeartbeats 1000000
namespace Ri
open PySem
/-- statements from the n-th on -/
def dropS : Nat → Ss → Ss
  | 0, b => b
  | n + 1, .cons _ r => dropS n r
  | _ + 1, .nil => .nil
def takeS : Nat → Ss → Ss
  | 0, _ => .nil
  | n + 1, .cons s r => .cons s (takeS n r)
  | _ + 1, .nil => .nil
/-- k statements from the n-th on -/
abbrev seg (b : Ss) (n k : Nat) : Ss := takeS k (dropS n b)
theorem dropS_add : ∀ (n k : Nat) (b : Ss), dropS (n + k) b = dropS k (dropS n b)
  | 0, k, b => by rw [Nat.zero_add] <;> rfl
  | n + 1, k, .nil => by
    rw [show n + 1 + k = (n + k) + 1 by omega]
    show Ss.nil = dropS k .nil
    cases k <;> rfl
  | n + 1, k, .cons s r => by
    rw [show n + 1 + k = (n + k) + 1 by omega]
    exact dropS_add n k r
theorem xss_take {C : Ctx} {bs : List Nat} : ∀ (k : Nat) (b : Ss) (v v1 : Vs) (S S1 : Sto), xss C bs (takeS k b) v S = .ok (.nx, v1) S1 → xss C bs b v S = xss C bs (dropS k b) v1 S1
  | 0, b, v, v1, S, S1, h => by
    have h : R.ok ((.nx, v) : Fl × Vs) S = .ok (.nx, v1) S1 := h
    cases h
    rfl
  | k + 1, .nil, v, v1, S, S1, h => by
    have h : R.ok ((.nx, v) : Fl × Vs) S = .ok (.nx, v1) S1 := h
    cases h
    rfl
  | k + 1, .cons s r, v, v1, S, S1, h => by
    have h : bnd (xs C bs s v) (fun p => match p.1 with
      | .nx => xss C bs (takeS k r) p.2
      | f => Ri.ret (f, p.2)) S = .ok (.nx, v1) S1 := h
    show bnd (xs C bs s v) (fun p => match p.1 with
      | .nx => xss C bs r p.2
      | f => Ri.ret (f, p.2)) S = _
    unfold bnd at h ⊢
    cases e : xs C bs s v S with
    | bad => rw [e] at h; cases h
    | ex c d S' => rw [e] at h; cases h
    | ok p S' =>
      rw [e] at h
      obtain ⟨f, v'⟩ := p
      cases f with
      | nx => exact xss_take k r v' v1 S' S1 h
      | brk => cases h
      | cnt => cases h
      | ret d => cases h
/-- from the n-th statement on the body tells True -/
def RetT (C : Ctx) (B : Ss) (n : Nat) (v : Vs) (S : Sto) : Prop := ∃ v' S', xss C [0] (dropS n B) v S = .ok (.ret (.bl true), v') S'
theorem RetT.seg {C : Ctx} {B : Ss} {n k : Nat} {v v1 : Vs} {S S1 : Sto} (h : xss C [0] (seg B n k) v S = .ok (.nx, v1) S1) (q : RetT C B (n + k) v1 S1) : RetT C B n v S := by
  obtain ⟨v', S', e⟩ := q
  rw [dropS_add] at e
  exact ⟨v', S', (xss_take k _ v v1 S S1 h).trans e⟩
theorem seg1 {C : Ctx} {bs : List Nat} {B r : Ss} {n : Nat} {s : S} {v v1 : Vs} {S S1 : Sto} (hd : dropS n B = .cons s r) (h : xs C bs s v S = .ok (.nx, v1) S1) : xss C bs (seg B n 1) v S = .ok (.nx, v1) S1 := by
  show xss C bs (takeS 1 (dropS n B)) v S = _
  rw [hd]
  show xss C bs (.cons s .nil) v S = _
  rw [xss_cons h] <;> rfl
theorem map_at {α β : Type} {f g : α → β} : ∀ {l : List α}, l.map f = l.map g → ∀ a, a ∈ l → f a = g a
  | [], _, a, h => by cases h
  | x :: r, e, a, h => by
    have e1 := List.cons.inj (show f x :: r.map f = g x :: r.map g from e)
    rcases List.mem_cons.mp h with rfl | h
    · exact e1.1
    · exact map_at e1.2 a h
theorem mem_rng {n : Nat} {r : Int} (h0 : 0 ≤ r) (h1 : r < (n : Int)) : r ∈ (List.range n).map Int.ofNat := by
  obtain ⟨k, rfl⟩ := Int.eq_ofNat_of_zero_le h0
  exact List.mem_map.mpr ⟨k, List.mem_range.mpr (by omega), rfl⟩
section
variable {C : Ctx} {ρ : Env} {S S1 S2 : Sto}
theorem evs_cons {e : E} {r : Es} {x : D} {l : List D} (h : ev C e ρ S = .ok x S1) (h2 : evs C r ρ S1 = .ok l S2) : evs C (.cons e r) ρ S = .ok (x :: l) S2 := by
  show bnd (ev C e ρ) _ S = _
  refine (bnd_eq h).trans ?_
  exact (bnd_eq h2).trans rfl
theorem ev_call {f : Nat} {es : Es} {ds : List D} {r : R D} (h : evs C es ρ S = .ok ds S1) (h2 : C.fn f ρ.bs ds S1 = r) : ev C (.call f es) ρ S = r := by
  show bnd (evs C es ρ) _ S = _
  exact (bnd_eq h).trans h2
theorem ev_idx {a b : E} {x y z : D} (h : ev C a ρ S = .ok x S1) (h2 : ev C b ρ S1 = .ok y S2) (h3 : idxD S2 x y = some z) : ev C (.idx a b) ρ S = .ok z S2 := by
  show bnd (ev C a ρ) _ S = _
  refine (bnd_eq h).trans ?_
  refine (bnd_eq h2).trans ?_
  show ofO (idxD S2 x y) S2 = _
  rw [h3] <;> rfl
theorem ev_tup {es : Es} {l : List D} (h : evs C es ρ S = .ok l S1) (h2 : limL l = true) : ev C (.tup es) ρ S = .ok (.tup l) S1 := by
  show bnd (evs C es ρ) _ S = _
  refine (bnd_eq h).trans ?_
  show (if limL l = true then ret (D.tup l) else bad) S1 = _
  rw [if_pos h2] <;> rfl
theorem ev_mkls {es : Es} {l : List D} (h : evs C es ρ S = .ok l S1) (h2 : limL l = true) : ev C (.mk (.ls es)) ρ S = .ok (.ref S1.length) (S1 ++ [.lst l]) := by
  show bnd (limM (evs C es ρ)) alloc S = _
  have e : limM (evs C es ρ) S = .ok l S1 := by
    refine (bnd_eq h).trans ?_
    rw [if_pos h2] <;> rfl
  exact (bnd_eq e).trans rfl
end
theorem idx_mem {l : List D} {r : Int} (h0 : 0 ≤ r) (h1 : r < (l.length : Int)) : ∃ z ∈ l, ∀ S, idxD S (.lst l) (.int r) = some z := by
  obtain ⟨k, rfl⟩ := Int.eq_ofNat_of_zero_le h0
  have hk : k < l.length := by omega
  refine ⟨l[k], List.getElem_mem hk, fun S => ?_⟩
  show l[k]? = _
  exact List.getElem?_eq_getElem hk
end Ri
set_option maxHeartbeats 1000000
namespace Ri
open PySem
/-- what comes behind a run -/
def R.b {α β : Type} (x : R α) (f : α → Sto → R β) : R β := match x with
  | .ok a S => f a S
  | .ex c d S => .ex c d S
  | .bad => .bad
section
variable {α β : Type}
@[simp] theorem b_ok (a : α) (S : Sto) (f : α → Sto → R β) : (R.ok a S).b f = f a S := rfl
@[simp] theorem b_ex (c : Nat) (d : D) (S : Sto) (f : α → Sto → R β) : (R.ex c d S : R α).b f = .ex c d S := rfl
@[simp] theorem b_bad (f : α → Sto → R β) : (R.bad : R α).b f = .bad := rfl
@[simp] theorem bnd_b (x : M α) (f : α → M β) (S : Sto) : bnd x f S = (x S).b f := by
  unfold bnd R.b
  cases x S <;> rfl
theorem b_congr {x : R α} {f g : α → Sto → R β} (h : ∀ a S, f a S = g a S) : x.b f = x.b g := by
  cases x with
  | ok a S => exact h a S
  | _ => rfl
@[simp] theorem ret_ap (a : α) (S : Sto) : ret a S = .ok a S := rfl
@[simp] theorem bad_ap (S : Sto) : (bad : M α) S = .bad := rfl
@[simp] theorem ofO_some (a : α) (S : Sto) : ofO (some a) S = .ok a S := rfl
@[simp] theorem ofO_none (S : Sto) : (ofO none : M α) S = .bad := rfl
theorem R.b_ite {c : Bool} {x y : R α} {f : α → Sto → R β} : (cond c x y).b f = cond c (x.b f) (y.b f) := by cases c <;> rfl
end
@[simp] theorem getV_cons (a : Option D) (v : List (Option D)) (i : Nat) : getV (a :: v) (i + 1) = getV v i := rfl
@[simp] theorem getV_zero (d : D) (v : List (Option D)) (S : Sto) : getV (some d :: v) 0 S = .ok d S := rfl
@[simp] theorem startV_def (n : Nat) (ds : List D) : startV n ds = ds.map some ++ List.replicate (n - ds.length) none := rfl
/-- the rest of a body -/
def nxt (p : Fl × Vs) (k : Vs → M (Fl × Vs)) : M (Fl × Vs) := match p.1 with
  | .nx => k p.2
  | f => ret (f, p.2)
@[simp] theorem nxt_nx (v : Vs) (k : Vs → M (Fl × Vs)) : nxt (.nx, v) k = k v := rfl
@[simp] theorem nxt_ret (d : D) (v : Vs) (k : Vs → M (Fl × Vs)) : nxt (.ret d, v) k = ret (.ret d, v) := rfl
@[simp] theorem nxt_brk (v : Vs) (k : Vs → M (Fl × Vs)) : nxt (.brk, v) k = ret (.brk, v) := rfl
@[simp] theorem nxt_cnt (v : Vs) (k : Vs → M (Fl × Vs)) : nxt (.cnt, v) k = ret (.cnt, v) := rfl
section
variable (C : Ctx) (bs : List Nat) (v : Vs) (S : Sto) (ρ : Env)
@[simp] theorem s_nil : xss C bs .nil v S = .ok (.nx, v) S := rfl
@[simp] theorem s_cons (s : Ri.S) (r : Ss) : xss C bs (.cons s r) v S = (xs C bs s v S).b fun p => nxt p (xss C bs r) := by
  show bnd (xs C bs s v) _ S = _
  rw [bnd_b]
  cases xs C bs s v S with
  | ok p S' => obtain ⟨f, v'⟩ := p; cases f <;> rfl
  | _ => rfl
@[simp] theorem s_asg (t : Tg) (e : E) : xs C bs (.asg t e) v S = (ev C e ⟨bs, v⟩ S).b fun d S => (asg C bs t v d S).b fun v S => .ok ((.nx, v) : Fl × Vs) S := by
  show bnd (ev C e ⟨bs, v⟩) _ S = _
  rw [bnd_b]
  cases ev C e ⟨bs, v⟩ S with
  | ok d S' =>
    show bnd (asg C bs t v d) _ S' = _
    rw [bnd_b] <;> rfl
  | _ => rfl
@[simp] theorem a_nm (i : Nat) (d : D) : asg C bs (.nm i) v d S = .ok (v.set i (some d)) S := rfl
theorem s_aug (i : Nat) (o : Op) (e : E) : xs C bs (.aug i o e) v S = (getV v i S).b fun x S => (ev C e ⟨bs, v⟩ S).b fun y S => (ofO (augD o x y) S).b fun z S => .ok ((.nx, v.set i (some z)) : Fl × Vs) S := by
  show (match v[i]? with
    | some (some x) => bnd (ev C e ⟨bs, v⟩) fun y => bnd (ofO (augD o x y)) fun z => ret ((.nx, v.set i (some z)) : Fl × Vs)
    | _ => bad) S = _
  unfold getV
  cases h : v[i]? with
  | none => rfl
  | some x =>
    cases x with
    | none => rfl
    | some x =>
      show bnd (ev C e ⟨bs, v⟩) _ S = (ev C e ⟨bs, v⟩ S).b _
      rw [bnd_b]
      cases ev C e ⟨bs, v⟩ S with
      | ok d S' => simp only [b_ok, bnd_b]; rfl
      | _ => rfl
@[simp] theorem s_ex (e : E) : xs C bs (.ex e) v S = (ev C e ⟨bs, v⟩ S).b fun _ S => .ok ((.nx, v) : Fl × Vs) S := by
  show bnd (ev C e ⟨bs, v⟩) _ S = _
  rw [bnd_b] <;> rfl
@[simp] theorem s_ret (e : E) : xs C bs (.ret e) v S = (ev C e ⟨bs, v⟩ S).b fun d S => .ok ((.ret d, v) : Fl × Vs) S := by
  show bnd (ev C e ⟨bs, v⟩) _ S = _
  rw [bnd_b] <;> rfl
@[simp] theorem s_retN : xs C bs .retN v S = .ok (.ret .non, v) S := rfl
@[simp] theorem s_iff (c : E) (a b : Ss) : xs C bs (.iff c a b) v S = (tst C c ⟨bs, v⟩ S).b fun r S => cond r (xss C bs a v S) (xss C bs b v S) := by
  show bnd (tst C c ⟨bs, v⟩) _ S = _
  rw [bnd_b]
  cases tst C c ⟨bs, v⟩ S with
  | ok r S' => cases r <;> rfl
  | _ => rfl
@[simp] theorem s_pas : xs C bs .pas v S = .ok (.nx, v) S := rfl
@[simp] theorem s_brk : xs C bs .brk v S = .ok (.brk, v) S := rfl
@[simp] theorem s_cnt : xs C bs .cnt v S = .ok (.cnt, v) S := rfl
@[simp] theorem s_rai (c : Nat) (d : D) : xs C bs (.rai c d) v S = .ex c d S := rfl
@[simp] theorem e_var (i : Nat) : ev C (.var i) ρ S = getV ρ.v i S := rfl
@[simp] theorem e_cst (d : D) : ev C (.cst d) ρ S = .ok d S := rfl
@[simp] theorem e_glo (g : Nat) : ev C (.glo g) ρ S = ofO C.glo[g]? S := rfl
@[simp] theorem e_bin (o : Op) (a b : E) : ev C (.bin o a b) ρ S = (ev C a ρ S).b fun x S => (ev C b ρ S).b fun y S => ofO (arith S o x y) S := by
  show bnd (ev C a ρ) _ S = _
  rw [bnd_b]
  refine b_congr fun x S' => ?_
  show bnd (ev C b ρ) _ S' = _
  rw [bnd_b] <;> rfl
/-- the other number -/
def negD : D → Option D
  | .int i => some (.int (-i))
  | _ => none
@[simp] theorem negD_int (i : Int) : negD (.int i) = some (.int (-i)) := rfl
@[simp] theorem e_neg (a : E) : ev C (.neg a) ρ S = (ev C a ρ S).b fun x S => ofO (negD x) S := by
  show bnd (ev C a ρ) _ S = _
  rw [bnd_b]
  cases ev C a ρ S with
  | ok x S' => cases x <;> rfl
  | _ => rfl
@[simp] theorem e_cmp (o : Cm) (a b : E) : ev C (.cmp o a b) ρ S = (ev C a ρ S).b fun x S => (ev C b ρ S).b fun y S => ofO ((cmpD S o x y).map .bl) S := by
  show bnd (ev C a ρ) _ S = _
  rw [bnd_b]
  refine b_congr fun x S' => ?_
  show bnd (ev C b ρ) _ S' = _
  rw [bnd_b] <;> rfl
@[simp] theorem e_chn (o p : Cm) (a b c : E) : ev C (.chn o p a b c) ρ S = (ev C a ρ S).b fun x S => (ev C b ρ S).b fun y S => (ofO (cmpD S o x y) S).b fun r S => cond r ((ev C c ρ S).b fun z S => ofO ((cmpD S p y z).map .bl) S) (.ok (.bl false) S) := by
  show bnd (ev C a ρ) _ S = _
  rw [bnd_b]
  refine b_congr fun x S1 => ?_
  show bnd (ev C b ρ) _ S1 = _
  rw [bnd_b]
  refine b_congr fun y S2 => ?_
  show bnd (ofO (cmpD S2 o x y)) _ S2 = _
  rw [bnd_b]
  refine b_congr fun r S3 => ?_
  cases r with
  | false => rfl
  | true => show bnd (ev C c ρ) _ S3 = _; rw [bnd_b] <;> rfl
/-- the other truth -/
def notD : D → Option D
  | .bl b => some (.bl !b)
  | _ => none
@[simp] theorem notD_bl (b : Bool) : notD (.bl b) = some (.bl !b) := rfl
@[simp] theorem e_not (a : E) : ev C (.not a) ρ S = (ev C a ρ S).b fun x S => ofO (notD x) S := by
  show bnd (ev C a ρ) _ S = _
  rw [bnd_b]
  cases ev C a ρ S with
  | ok x S' => cases x <;> rfl
  | _ => rfl
/-- a truth told -/
def isB : D → Option Bool
  | .bl b => some b
  | _ => none
@[simp] theorem isB_bl (b : Bool) : isB (.bl b) = some b := rfl
@[simp] theorem e_and (es : Es) : ev C (.andN es) ρ S = evAnd C es ρ S := rfl
@[simp] theorem e_or (es : Es) : ev C (.orN es) ρ S = evOr C es ρ S := rfl
@[simp] theorem and_nil : evAnd C .nil ρ S = .ok (.bl true) S := rfl
@[simp] theorem and_cons (e : E) (r : Es) : evAnd C (.cons e r) ρ S = (ev C e ρ S).b fun x S => (ofO (isB x) S).b fun b S => cond b (evAnd C r ρ S) (.ok (.bl false) S) := by
  show bnd (ev C e ρ) _ S = _
  rw [bnd_b]
  cases ev C e ρ S with
  | ok x S' =>
    cases x with
    | bl b => cases b <;> rfl
    | _ => rfl
  | _ => rfl
@[simp] theorem or_nil : evOr C .nil ρ S = .ok (.bl false) S := rfl
@[simp] theorem or_cons (e : E) (r : Es) : evOr C (.cons e r) ρ S = (ev C e ρ S).b fun x S => (ofO (isB x) S).b fun b S => cond b (.ok (.bl true) S) (evOr C r ρ S) := by
  show bnd (ev C e ρ) _ S = _
  rw [bnd_b]
  cases ev C e ρ S with
  | ok x S' =>
    cases x with
    | bl b => cases b <;> rfl
    | _ => rfl
  | _ => rfl
@[simp] theorem e_ite (c a b : E) : ev C (.ite c a b) ρ S = (tst C c ρ S).b fun r S => cond r (ev C a ρ S) (ev C b ρ S) := by
  show bnd (tst C c ρ) _ S = _
  rw [bnd_b]
  cases tst C c ρ S with
  | ok r S' => cases r <;> rfl
  | _ => rfl
@[simp] theorem e_tup (es : Es) : ev C (.tup es) ρ S = (evs C es ρ S).b fun l S => cond (limL l) (.ok (.tup l) S) .bad := by
  show bnd (evs C es ρ) _ S = _
  rw [bnd_b]
  cases evs C es ρ S with
  | ok l S' =>
    show (if limL l = true then ret (D.tup l) else bad) S' = cond (limL l) (.ok (.tup l) S') .bad
    cases limL l <;> rfl
  | _ => rfl
@[simp] theorem limM_b (x : M (List D)) : limM x S = (x S).b fun l S => cond (limL l) (.ok l S) .bad := by
  show bnd x _ S = _
  rw [bnd_b]
  cases x S with
  | ok l S' =>
    show (if limL l = true then ret l else bad) S' = cond (limL l) (.ok l S') .bad
    cases limL l <;> rfl
  | _ => rfl
@[simp] theorem e_ls (es : Es) : ev C (.ls es) ρ S = (evs C es ρ S).b fun l S => cond (limL l) (.ok (.lst l) S) .bad := by
  show bnd (limM (evs C es ρ)) _ S = _
  rw [bnd_b, limM_b]
  cases evs C es ρ S with
  | ok l S' => show ((cond (limL l) (R.ok l S') .bad).b fun l => ret (D.lst l)) = cond (limL l) (.ok (.lst l) S') .bad; cases limL l <;> rfl
  | _ => rfl
@[simp] theorem e_mk (e : EL) : ev C (.mk e) ρ S = (evL C e ρ S).b fun l S => .ok (.ref S.length) (S ++ [.lst l]) := by
  show bnd (evL C e ρ) _ S = _
  rw [bnd_b] <;> rfl
@[simp] theorem l_ls (es : Es) : evL C (.ls es) ρ S = (evs C es ρ S).b fun l S => cond (limL l) (.ok l S) .bad := limM_b S (evs C es ρ)
@[simp] theorem l_cat (a b : E) : evL C (.cat a b) ρ S = (ev C a ρ S).b fun x S => (ev C b ρ S).b fun y S => ofO (catL S x y) S := by
  show bnd (ev C a ρ) _ S = _
  rw [bnd_b]
  refine b_congr fun x S' => ?_
  show bnd (ev C b ρ) _ S' = _
  rw [bnd_b] <;> rfl
/-- a list so many times -/
def repD (S : Sto) (x y : D) : Option (List D) := match y with
  | .int j => repM S x j
  | _ => none
@[simp] theorem repD_int (x : D) (j : Int) : repD S x (.int j) = repM S x j := rfl
@[simp] theorem l_rep (a b : E) : evL C (.rep a b) ρ S = (ev C a ρ S).b fun x S => (ev C b ρ S).b fun y S => ofO (repD S x y) S := by
  show bnd (ev C a ρ) _ S = _
  rw [bnd_b]
  refine b_congr fun x S' => ?_
  show bnd (ev C b ρ) _ S' = _
  rw [bnd_b] <;> rfl
@[simp] theorem l_lc (c : EC) : evL C (.lc c) ρ S = evC C c ρ S := rfl
@[simp] theorem l_of (e : E) : evL C (.listOf e) ρ S = (ev C e ρ S).b fun x S => ofO (seqOf S x) S := by
  show bnd (ev C e ρ) _ S = _
  rw [bnd_b] <;> rfl
@[simp] theorem e_call (f : Nat) (es : Es) : ev C (.call f es) ρ S = (evs C es ρ S).b fun ds S => C.fn f ρ.bs ds S := by
  show bnd (evs C es ρ) _ S = _
  rw [bnd_b] <;> rfl
@[simp] theorem e_pri (p : P) (es : Es) : ev C (.pri p es) ρ S = (evs C es ρ S).b fun ds S => ofO (prim S p ds) S := by
  show bnd (evs C es ρ) _ S = _
  rw [bnd_b] <;> rfl
@[simp] theorem e_idx (a b : E) : ev C (.idx a b) ρ S = (ev C a ρ S).b fun x S => (ev C b ρ S).b fun y S => ofO (idxD S x y) S := by
  show bnd (ev C a ρ) _ S = _
  rw [bnd_b]
  refine b_congr fun x S' => ?_
  show bnd (ev C b ρ) _ S' = _
  rw [bnd_b] <;> rfl
@[simp] theorem e_lc (c : EC) : ev C (.lc c) ρ S = (evC C c ρ S).b fun l S => .ok (.lst l) S := by
  show bnd (evC C c ρ) _ S = _
  rw [bnd_b] <;> rfl
@[simp] theorem e_rev (a : E) : ev C (.rev a) ρ S = (ev C a ρ S).b fun x S => ofO (revD S x) S := by
  show bnd (ev C a ρ) _ S = _
  rw [bnd_b] <;> rfl
/-- a tuple turned -/
def revTD : D → Option D
  | .tup l => some (.tup l.reverse)
  | _ => none
@[simp] theorem revTD_tup (l : List D) : revTD (.tup l) = some (.tup l.reverse) := rfl
@[simp] theorem e_revT (a : E) : ev C (.revT a) ρ S = (ev C a ρ S).b fun x S => ofO (revTD x) S := by
  show bnd (ev C a ρ) _ S = _
  rw [bnd_b]
  cases ev C a ρ S with
  | ok x S' => cases x <;> rfl
  | _ => rfl
def toI : D → Option Int
  | .int i => some i
  | _ => none
@[simp] theorem toI_int (i : Int) : toI (.int i) = some i := rfl
@[simp] theorem o_none : evO C .none ρ S = .ok none S := rfl
@[simp] theorem o_some (e : E) : evO C (.some e) ρ S = (ev C e ρ S).b fun x S => (ofO (toI x) S).b fun i S => .ok (some i) S := by
  show bnd (ev C e ρ) _ S = _
  rw [bnd_b]
  cases ev C e ρ S with
  | ok x S' => cases x <;> rfl
  | _ => rfl
@[simp] theorem e_sli (a : E) (lo hi : Eo) : ev C (.sli a lo hi) ρ S = (ev C a ρ S).b fun x S => (evO C lo ρ S).b fun l S => (evO C hi ρ S).b fun h S => ofO (sliD S x l h) S := by
  show bnd (ev C a ρ) _ S = _
  rw [bnd_b]
  refine b_congr fun x S1 => ?_
  show bnd (evO C lo ρ) _ S1 = _
  rw [bnd_b]
  refine b_congr fun l S2 => ?_
  show bnd (evO C hi ρ) _ S2 = _
  rw [bnd_b] <;> rfl
@[simp] theorem es_nil : evs C .nil ρ S = .ok [] S := rfl
@[simp] theorem es_cons (e : E) (r : Es) : evs C (.cons e r) ρ S = (ev C e ρ S).b fun x S => (evs C r ρ S).b fun l S => .ok (x :: l) S := by
  show bnd (ev C e ρ) _ S = _
  rw [bnd_b]
  refine b_congr fun x S' => ?_
  show bnd (evs C r ρ) _ S' = _
  rw [bnd_b] <;> rfl
theorem t_vt (e : E) (h : ∀ ρ, (ev2 C e).t ρ = bnd ((ev2 C e).v ρ) fun x => fun S => ofO (truD S x) S) : tst C e ρ S = (ev C e ρ S).b fun x S => ofO (truD S x) S := by
  show (ev2 C e).t ρ S = _
  rw [h, bnd_b]
@[simp] theorem t_cmp (o : Cm) (a b : E) : tst C (.cmp o a b) ρ S = (ev C (.cmp o a b) ρ S).b fun x S => ofO (truD S x) S := t_vt C S ρ _ fun _ => rfl
@[simp] theorem t_chn (o p : Cm) (a b c : E) : tst C (.chn o p a b c) ρ S = (ev C (.chn o p a b c) ρ S).b fun x S => ofO (truD S x) S := t_vt C S ρ _ fun _ => rfl
@[simp] theorem t_var (i : Nat) : tst C (.var i) ρ S = (ev C (.var i) ρ S).b fun x S => ofO (truD S x) S := t_vt C S ρ _ fun _ => rfl
@[simp] theorem t_call (f : Nat) (es : Es) : tst C (.call f es) ρ S = (ev C (.call f es) ρ S).b fun x S => ofO (truD S x) S := t_vt C S ρ _ fun _ => rfl
@[simp] theorem t_pri (p : P) (es : Es) : tst C (.pri p es) ρ S = (ev C (.pri p es) ρ S).b fun x S => ofO (truD S x) S := t_vt C S ρ _ fun _ => rfl
@[simp] theorem t_cst (d : D) : tst C (.cst d) ρ S = ofO (truD S d) S := rfl
@[simp] theorem t_not (a : E) : tst C (.not a) ρ S = (tst C a ρ S).b fun r S => .ok (!r) S := by
  show bnd (tst C a ρ) _ S = _
  rw [bnd_b] <;> rfl
@[simp] theorem t_and (es : Es) : tst C (.andN es) ρ S = tsAnd C es ρ S := rfl
@[simp] theorem t_or (es : Es) : tst C (.orN es) ρ S = tsOr C es ρ S := rfl
@[simp] theorem tand_nil : tsAnd C .nil ρ S = .ok true S := rfl
@[simp] theorem tand_cons (e : E) (r : Es) : tsAnd C (.cons e r) ρ S = (tst C e ρ S).b fun b S => cond b (tsAnd C r ρ S) (.ok false S) := by
  show bnd (tst C e ρ) _ S = _
  rw [bnd_b]
  cases tst C e ρ S with
  | ok x S' => cases x <;> rfl
  | _ => rfl
@[simp] theorem tor_nil : tsOr C .nil ρ S = .ok false S := rfl
@[simp] theorem tor_cons (e : E) (r : Es) : tsOr C (.cons e r) ρ S = (tst C e ρ S).b fun b S => cond b (.ok true S) (tsOr C r ρ S) := by
  show bnd (tst C e ρ) _ S = _
  rw [bnd_b]
  cases tst C e ρ S with
  | ok x S' => cases x <;> rfl
  | _ => rfl
@[simp] theorem cond_none : evCond C .none ρ S = .ok true S := rfl
@[simp] theorem cond_some (e : E) : evCond C (.some e) ρ S = tst C e ρ S := rfl
@[simp] theorem tru_bl (b : Bool) : truD S (.bl b) = some b := rfl
@[simp] theorem tru_int (i : Int) : truD S (.int i) = some (i != 0) := rfl
def itOf (S : Sto) (x : D) : R It := match srcOf S x with
  | some (.snap l) => .ok (.snap l) S
  | some s => .ok (.one s) S
  | none => .bad
@[simp] theorem itOf_lst (l : List D) : itOf S (.lst l) = .ok (.snap l) S := rfl
@[simp] theorem itOf_tup (l : List D) : itOf S (.tup l) = .ok (.snap l) S := rfl
@[simp] theorem i_seq (e : E) : evI C (.seq e) ρ S = (ev C e ρ S).b fun x S => itOf S x := by
  show bnd (ev C e ρ) _ S = _
  rw [bnd_b] <;> rfl
def rg1D (S : Sto) (x : D) : R It := match x with
  | .int i => if okR i then .ok (.snap (rngL 0 i.toNat)) S else .bad
  | _ => .bad
@[simp] theorem i_rg1 (a : E) : evI C (.rg1 a) ρ S = (ev C a ρ S).b fun x S => rg1D S x := by
  show bnd (ev C a ρ) _ S = _
  rw [bnd_b]
  cases ev C a ρ S with
  | ok x S' =>
    cases x with
    | int i =>
      show (if okR i = true then ret (It.snap (rngL 0 i.toNat)) else bad) S' = if okR i then .ok (.snap (rngL 0 i.toNat)) S' else .bad
      split <;> rfl
    | _ => rfl
  | _ => rfl
def rg2D (S : Sto) (x y : D) : R It := match x, y with
  | .int i, .int j => if okR i && okR j then .ok (.snap (rngL i (j - i).toNat)) S else .bad
  | _, _ => .bad
@[simp] theorem i_rg2 (a b : E) : evI C (.rg2 a b) ρ S = (ev C a ρ S).b fun x S => (ev C b ρ S).b fun y S => rg2D S x y := by
  show bnd (ev C a ρ) _ S = _
  rw [bnd_b]
  refine b_congr fun x S1 => ?_
  show bnd (ev C b ρ) _ S1 = _
  rw [bnd_b]
  refine b_congr fun y S2 => ?_
  show (match x, y with
    | D.int i, D.int j => if okR i && okR j then ret (It.snap (rngL i (j - i).toNat)) else bad
    | _, _ => bad) S2 = rg2D S2 x y
  unfold rg2D
  cases x with
  | int i =>
    cases y with
    | int j => show (if (okR i && okR j) = true then ret (It.snap (rngL i (j - i).toNat)) else bad) S2 = if (okR i && okR j) = true then R.ok (It.snap (rngL i (j - i).toNat)) S2 else .bad; split <;> rfl
    | _ => rfl
  | _ => rfl
def enD (S : Sto) (x : D) : R It := match srcOf S x with
  | some (.snap l) => .ok (.snap (enumL 0 l)) S
  | some s => .ok (.enum s) S
  | none => .bad
@[simp] theorem enD_lst (l : List D) : enD S (.lst l) = .ok (.snap (enumL 0 l)) S := rfl
@[simp] theorem enD_tup (l : List D) : enD S (.tup l) = .ok (.snap (enumL 0 l)) S := rfl
@[simp] theorem i_enum (e : E) : evI C (.enum e) ρ S = (ev C e ρ S).b fun x S => enD S x := by
  show bnd (ev C e ρ) _ S = _
  rw [bnd_b] <;> rfl
def zipD (S : Sto) (x y : D) : R It := match isTup x == isTup y with
  | true => (match srcOf S x, srcOf S y with
    | some (.snap l), some (.snap r) => .ok (.snap (zipL l r)) S
    | some s, some t => .ok (.zip s t) S
    | _, _ => .bad)
  | false => .bad
@[simp] theorem zipD_lst (l r : List D) : zipD S (.lst l) (.lst r) = .ok (.snap (zipL l r)) S := rfl
@[simp] theorem zipD_tup (l r : List D) : zipD S (.tup l) (.tup r) = .ok (.snap (zipL l r)) S := rfl
@[simp] theorem i_zip (a b : E) : evI C (.zip a b) ρ S = (ev C a ρ S).b fun x S => (ev C b ρ S).b fun y S => zipD S x y := by
  show bnd (ev C a ρ) _ S = _
  rw [bnd_b]
  refine b_congr fun x S1 => ?_
  show bnd (ev C b ρ) _ S1 = _
  rw [bnd_b]
  refine b_congr fun y S2 => ?_
  unfold zipD
  show (match isTup x == isTup y with
    | true => (match srcOf S2 x, srcOf S2 y with
      | some (.snap l), some (.snap r) => R.ok (It.snap (zipL l r)) S2
      | some s, some t => .ok (.zip s t) S2
      | _, _ => .bad)
    | false => .bad) = _
  rfl
@[simp] theorem s_fr (t : T) (it : I) (b : Ss) : xs C bs (.fr t it b) v S = (evI C it ⟨bs, v⟩ S).b fun i => forRun C (fun x v => match bindT v t x with
    | some v => xss C bs b v
    | none => bad) i v := by
  show bnd (evI C it ⟨bs, v⟩) _ S = _
  rw [bnd_b] <;> rfl
end
end Ri
set_option maxHeartbeats 1000000
namespace Ri
open PySem
class Enc (α : Type) where
  enc : α → D
  dep : Nat
  dt : ∀ a, isDt (enc a) = true
  dle : ∀ a, depD (enc a) ≤ dep
  eq : ∀ a b, eqD (enc a) (enc b) = true ↔ a = b
  al : ∀ a b, alk (enc a) (enc b) = true
  irr : ∀ a, ltD (enc a) (enc a) = false
  trans : ∀ a b c, ltD (enc a) (enc b) = true → ltD (enc b) (enc c) = true → ltD (enc a) (enc c) = true
  tri : ∀ a b, ltD (enc a) (enc b) = false → ltD (enc b) (enc a) = false → a = b
open Enc (enc)
instance : Enc Int where
  enc := .int
  dep := 0
  dt _ := rfl
  dle _ := Nat.le_refl _
  eq a b := by show (a == b) = true ↔ a = b; simp
  al _ _ := rfl
  irr a := by show decide (a < a) = false; simp
  trans a b c := by show decide (a < b) = true → decide (b < c) = true → decide (a < c) = true; simp; omega
  tri a b := by show decide (a < b) = false → decide (b < a) = false → a = b; simp; omega
section
variable {α : Type} [Enc α]
theorem dts_map : ∀ l : List α, isDts (l.map enc) = true
  | [] => rfl
  | x :: r => by
    show (isDt (enc x) && isDts (r.map enc)) = true
    rw [Enc.dt, dts_map r] <;> rfl
theorem depL_map : ∀ l : List α, depL (l.map enc) ≤ Enc.dep α
  | [] => Nat.zero_le _
  | x :: r => Nat.max_le.mpr ⟨Enc.dle x, depL_map r⟩
theorem eqs_map : ∀ l k : List α, eqDs (l.map enc) (k.map enc) = true ↔ l = k
  | [], [] => by simp [eqDs]
  | [], _ :: _ => by simp [eqDs]
  | _ :: _, [] => by simp [eqDs]
  | x :: r, y :: t => by
    show (eqD (enc x) (enc y) && eqDs (r.map enc) (t.map enc)) = true ↔ _
    rw [Bool.and_eq_true, Enc.eq, eqs_map r t, List.cons.injEq]
theorem alks_map : ∀ l k : List α, alks (l.map enc) (k.map enc) = true
  | [], _ => by simp [alks]
  | _ :: _, [] => by simp [alks]
  | x :: r, y :: t => by
    show (alk (enc x) (enc y) && alks (r.map enc) (t.map enc)) = true
    rw [Enc.al, alks_map r t] <;> rfl
theorem lts_cons (x y : α) (r t : List α) : ltDs ((x :: r).map enc) ((y :: t).map enc) = true ↔ (x = y ∧ ltDs (r.map enc) (t.map enc) = true) ∨ ltD (enc x) (enc y) = true := by
  show (if eqD (enc x) (enc y) then ltDs (r.map enc) (t.map enc) else ltD (enc x) (enc y)) = true ↔ _
  by_cases h : x = y
  · subst h
    rw [if_pos ((Enc.eq x x).mpr rfl), Enc.irr] <;> simp
  · rw [if_neg (fun e => h ((Enc.eq x y).mp e))]
    simp [h]
theorem lts_irr : ∀ l : List α, ltDs (l.map enc) (l.map enc) = false
  | [] => by simp [ltDs]
  | x :: r => by
    cases h : ltDs ((x :: r).map enc) ((x :: r).map enc) with
    | false => rfl
    | true =>
      rcases (lts_cons x x r r).mp h with ⟨_, e⟩ | e
      · rw [lts_irr r] at e; cases e
      · rw [Enc.irr] at e; cases e
theorem lts_trans : ∀ l k m : List α, ltDs (l.map enc) (k.map enc) = true → ltDs (k.map enc) (m.map enc) = true → ltDs (l.map enc) (m.map enc) = true
  | [], [], _, h, _ => by simp [ltDs] at h
  | _ :: _, [], _, h, _ => by simp [ltDs] at h
  | _, _ :: _, [], _, h => by simp [ltDs] at h
  | [], _ :: _, _ :: _, _, _ => by simp [ltDs]
  | x :: r, y :: s, z :: t, h, k => by
    rw [lts_cons] at h k ⊢
    rcases h with ⟨rfl, h⟩ | h
    · rcases k with ⟨rfl, k⟩ | k
      · exact .inl ⟨rfl, lts_trans r s t h k⟩
      · exact .inr k
    · rcases k with ⟨rfl, k⟩ | k
      · exact .inr h
      · exact .inr (Enc.trans _ _ _ h k)
theorem lts_tri : ∀ l k : List α, ltDs (l.map enc) (k.map enc) = false → ltDs (k.map enc) (l.map enc) = false → l = k
  | [], [], _, _ => rfl
  | [], _ :: _, h, _ => by simp [ltDs] at h
  | _ :: _, [], _, h => by simp [ltDs] at h
  | x :: r, y :: s, h, k => by
    have h' := fun z => Bool.false_ne_true (h.symm.trans ((lts_cons x y r s).mpr z))
    have k' := fun z => Bool.false_ne_true (k.symm.trans ((lts_cons y x s r).mpr z))
    have e : x = y := Enc.tri x y (by cases q : ltD (enc x) (enc y) with | false => rfl | true => exact (h' (.inr q)).elim) (by cases q : ltD (enc y) (enc x) with | false => rfl | true => exact (k' (.inr q)).elim)
    subst e
    rw [lts_tri r s (by cases q : ltDs (r.map enc) (s.map enc) with | false => rfl | true => exact (h' (.inl ⟨rfl, q⟩)).elim) (by cases q : ltDs (s.map enc) (r.map enc) with | false => rfl | true => exact (k' (.inl ⟨rfl, q⟩)).elim)]
end
instance {α : Type} [Enc α] : Enc (List α) where
  enc l := .tup (l.map enc)
  dep := Enc.dep α + 1
  dt := dts_map
  dle l := Nat.succ_le_succ (depL_map l)
  eq := eqs_map
  al := alks_map
  irr := lts_irr
  trans := lts_trans
  tri := lts_tri
instance {α β : Type} [Enc α] [Enc β] : Enc (α × β) where
  enc p := .tup [enc p.1, enc p.2]
  dep := Nat.max (Enc.dep α) (Enc.dep β) + 1
  dt p := by show (isDt (enc p.1) && (isDt (enc p.2) && true)) = true; rw [Enc.dt, Enc.dt] <;> rfl
  dle p := by
    have h1 := Enc.dle p.1
    have h2 := Enc.dle p.2
    refine Nat.succ_le_succ ?_
    show Nat.max (depD (enc p.1)) (Nat.max (depD (enc p.2)) 0) ≤ _
    exact Nat.max_le.mpr ⟨Nat.le_trans h1 (Nat.le_max_left _ _), Nat.max_le.mpr ⟨Nat.le_trans h2 (Nat.le_max_right _ _), Nat.zero_le _⟩⟩
  eq p q := by
    show (eqD (enc p.1) (enc q.1) && (eqD (enc p.2) (enc q.2) && true)) = true ↔ p = q
    rw [Bool.and_true, Bool.and_eq_true, Enc.eq, Enc.eq]
    constructor
    · rintro ⟨h1, h2⟩; exact Prod.ext h1 h2
    · rintro rfl; exact ⟨rfl, rfl⟩
  al p q := by show (alk (enc p.1) (enc q.1) && (alk (enc p.2) (enc q.2) && true)) = true; rw [Enc.al, Enc.al] <;> rfl
  irr p := by
    show (if eqD (enc p.1) (enc p.1) then (if eqD (enc p.2) (enc p.2) then false else ltD (enc p.2) (enc p.2)) else ltD (enc p.1) (enc p.1)) = false
    rw [if_pos ((Enc.eq _ _).mpr rfl), if_pos ((Enc.eq _ _).mpr rfl)]
  trans p q r := by
    show (if eqD (enc p.1) (enc q.1) then (if eqD (enc p.2) (enc q.2) then false else ltD (enc p.2) (enc q.2)) else ltD (enc p.1) (enc q.1)) = true →
      (if eqD (enc q.1) (enc r.1) then (if eqD (enc q.2) (enc r.2) then false else ltD (enc q.2) (enc r.2)) else ltD (enc q.1) (enc r.1)) = true →
      (if eqD (enc p.1) (enc r.1) then (if eqD (enc p.2) (enc r.2) then false else ltD (enc p.2) (enc r.2)) else ltD (enc p.1) (enc r.1)) = true
    have key : ∀ p q : α × β, (if eqD (enc p.1) (enc q.1) then (if eqD (enc p.2) (enc q.2) then false else ltD (enc p.2) (enc q.2)) else ltD (enc p.1) (enc q.1)) = true ↔ (p.1 = q.1 ∧ ltD (enc p.2) (enc q.2) = true) ∨ ltD (enc p.1) (enc q.1) = true := by
      intro p q
      by_cases h : p.1 = q.1
      · rw [if_pos ((Enc.eq _ _).mpr h)]
        by_cases h2 : p.2 = q.2
        · rw [if_pos ((Enc.eq _ _).mpr h2), h, h2, Enc.irr, Enc.irr] <;> simp
        · rw [if_neg (fun e => h2 ((Enc.eq _ _).mp e)), h, Enc.irr] <;> simp
      · rw [if_neg (fun e => h ((Enc.eq _ _).mp e))] <;> simp [h]
    rw [key, key, key]
    rintro (⟨e, h⟩ | h) (⟨f, k⟩ | k)
    · exact .inl ⟨e.trans f, Enc.trans _ _ _ h k⟩
    · exact .inr (e ▸ k)
    · exact .inr (f ▸ h)
    · exact .inr (Enc.trans _ _ _ h k)
  tri p q := by
    show (if eqD (enc p.1) (enc q.1) then (if eqD (enc p.2) (enc q.2) then false else ltD (enc p.2) (enc q.2)) else ltD (enc p.1) (enc q.1)) = false →
      (if eqD (enc q.1) (enc p.1) then (if eqD (enc q.2) (enc p.2) then false else ltD (enc q.2) (enc p.2)) else ltD (enc q.1) (enc p.1)) = false → p = q
    by_cases h : p.1 = q.1
    · rw [if_pos ((Enc.eq _ _).mpr h), if_pos ((Enc.eq _ _).mpr h.symm)]
      by_cases h2 : p.2 = q.2
      · intro _ _; exact Prod.ext h h2
      · rw [if_neg (fun e => h2 ((Enc.eq _ _).mp e)), if_neg (fun e => h2 ((Enc.eq _ _).mp e).symm)]
        intro a b; exact (h2 (Enc.tri _ _ a b)).elim
    · rw [if_neg (fun e => h ((Enc.eq _ _).mp e)), if_neg (fun e => h ((Enc.eq _ _).mp e).symm)]
      intro a b; exact (h (Enc.tri _ _ a b)).elim
/-- a text without odd signs is left out here: only ints, pairs and rows -/
abbrev encL {α : Type} [Enc α] (l : List α) : D := .lst (l.map enc)
section
variable {α : Type} [Enc α]
theorem small_dt {d : D} (h : isDt d = true) (k : depD d ≤ 60) : small d = true := by
  show (isDt d && Nat.ble (depD d) 60) = true
  rw [h, Nat.ble_eq_true_of_le k] <;> rfl
theorem small_enc (h : Enc.dep α ≤ 60) (a : α) : small (enc a) = true := small_dt (Enc.dt a) (Nat.le_trans (Enc.dle a) h)
theorem small_encL (h : Enc.dep α ≤ 59) (l : List α) : small (encL l) = true := small_dt (dts_map l) (Nat.succ_le_succ (Nat.le_trans (depL_map l) h))
theorem view_dt {S : Sto} {d : D} (h : isDt d = true) : view S d = d := by cases d <;> first | rfl | cases h
theorem eqq_small {S : Sto} {x y : D} (hx : small x = true) (hy : small y = true) : eqq S x y = some (eqD x y) := by
  have dx : isDt x = true := (Bool.and_eq_true_iff.mp hx).1
  have dy : isDt y = true := (Bool.and_eq_true_iff.mp hy).1
  unfold eqq
  rw [view_dt dx, view_dt dy]
  show (if (small x && small y) = true then some (eqD x y) else none) = _
  rw [hx, hy] <;> rfl
variable [DecidableEq α]
theorem eqD_enc (a b : α) : eqD (enc a) (enc b) = decide (a = b) := by
  rw [Bool.eq_iff_iff, Enc.eq, decide_eq_true_iff]
theorem eqDs_enc (a b : List α) : eqDs (a.map enc) (b.map enc) = decide (a = b) := eqD_enc (α := List α) a b
theorem eqq_enc {S : Sto} (h : Enc.dep α ≤ 60) (a b : α) : eqq S (enc a) (enc b) = some (decide (a = b)) := by
  rw [eqq_small (small_enc h a) (small_enc h b), eqD_enc]
theorem eqq_encL {S : Sto} (h : Enc.dep α ≤ 59) (a b : List α) : eqq S (encL a) (encL b) = some (decide (a = b)) := by
  rw [eqq_small (small_encL h a) (small_encL h b)]
  exact congrArg some (eqDs_enc a b)
end
section
variable {α : Type} [Enc α]
def ltE (a b : α) : Bool := ltD (enc a) (enc b)
def insE (x : α) : List α → List α
  | [] => [x]
  | y :: r => if ltE y x then y :: insE x r else x :: y :: r
def sortE : List α → List α
  | [] => []
  | x :: r => insE x (sortE r)
theorem insD_enc (x : α) : ∀ l : List α, insD (enc x) (l.map enc) = (insE x l).map enc
  | [] => rfl
  | y :: r => by
    show (if ltD (enc y) (enc x) then enc y :: insD (enc x) (r.map enc) else enc x :: enc y :: r.map enc) = _
    show _ = (if ltD (enc y) (enc x) then y :: insE x r else x :: y :: r).map enc
    split
    · rw [insD_enc x r] <;> rfl
    · rfl
theorem sortD_enc : ∀ l : List α, sortD (l.map enc) = (sortE l).map enc
  | [] => rfl
  | x :: r => by
    show insD (enc x) (sortD (r.map enc)) = _
    rw [sortD_enc r, insD_enc] <;> rfl
theorem insE_perm (x : α) : ∀ l : List α, (insE x l).Perm (x :: l)
  | [] => .refl _
  | y :: r => by
    unfold insE
    split
    · exact ((insE_perm x r).cons y).trans (.swap x y r)
    · exact .refl _
theorem sortE_perm : ∀ l : List α, (sortE l).Perm l
  | [] => .refl _
  | x :: r => (insE_perm x (sortE r)).trans ((sortE_perm r).cons x)
/-- none is above the one behind it -/
abbrev Asc (l : List α) : Prop := l.Pairwise fun a b => ltE b a = false
theorem ltE_asym {a b : α} (h : ltE a b = true) : ltE b a = false := by
  cases q : ltE b a with
  | false => rfl
  | true => exact (Bool.false_ne_true ((Enc.irr a).symm.trans (Enc.trans a b a h q))).elim
theorem nlt_trans {a b c : α} (h : ltE b a = false) (k : ltE c b = false) : ltE c a = false := by
  cases q : ltE c a with
  | false => rfl
  | true =>
    by_cases e : ltE a b = true
    · exact (Bool.false_ne_true (k.symm.trans (Enc.trans c a b q e))).elim
    · have : a = b := Enc.tri a b (Bool.eq_false_iff.mpr e) h
      rw [this] at q
      exact (Bool.false_ne_true (k.symm.trans q)).elim
theorem insE_asc (x : α) : ∀ l : List α, Asc l → Asc (insE x l)
  | [], _ => List.pairwise_singleton _ _
  | y :: r, h => by
    obtain ⟨h1, h2⟩ := List.pairwise_cons.mp h
    unfold insE
    by_cases c : ltE y x = true
    · rw [if_pos c]
      refine List.pairwise_cons.mpr ⟨fun z hz => ?_, insE_asc x r h2⟩
      rcases List.mem_cons.mp ((insE_perm x r).mem_iff.mp hz) with rfl | hz
      · exact ltE_asym c
      · exact h1 z hz
    · rw [if_neg c]
      have c : ltE y x = false := by simpa using c
      refine List.pairwise_cons.mpr ⟨fun z hz => ?_, h⟩
      rcases List.mem_cons.mp hz with rfl | hz
      · exact c
      · exact nlt_trans c (h1 z hz)
theorem sortE_asc : ∀ l : List α, Asc (sortE l)
  | [] => .nil
  | x :: r => insE_asc x _ (sortE_asc r)
theorem insE_of_asc {x : α} {l : List α} (h : Asc (x :: l)) : insE x l = x :: l := by
  cases l with
  | nil => rfl
  | cons y r =>
    have := (List.pairwise_cons.mp h).1 y List.mem_cons_self
    unfold insE
    rw [this] <;> rfl
theorem sortE_of_asc : ∀ {l : List α}, Asc l → sortE l = l
  | [], _ => rfl
  | x :: r, h => by
    show insE x (sortE r) = _
    rw [sortE_of_asc (List.pairwise_cons.mp h).2, insE_of_asc h]
/-- two ascending rows of the same things are one -/
theorem asc_eq : ∀ {l k : List α}, Asc l → Asc k → l.Perm k → l = k
  | [], [], _, _, _ => rfl
  | [], y :: t, _, _, p => by have := p.length_eq; simp at this
  | x :: r, [], _, _, p => by have := p.length_eq; simp at this
  | x :: r, y :: t, h, k, p => by
    obtain ⟨h1, h2⟩ := List.pairwise_cons.mp h
    obtain ⟨k1, k2⟩ := List.pairwise_cons.mp k
    have e : x = y := by
      rcases List.mem_cons.mp (p.mem_iff.mp List.mem_cons_self) with e | hx
      · exact e
      · rcases List.mem_cons.mp (p.mem_iff.mpr List.mem_cons_self) with e | hy
        · exact e.symm
        · exact Enc.tri x y (k1 x hx) (h1 y hy)
    subst e
    rw [asc_eq h2 k2 (List.perm_cons x |>.mp p)]
theorem sortE_perm_eq {l k : List α} (p : l.Perm k) : sortE l = sortE k := asc_eq (sortE_asc l) (sortE_asc k) ((sortE_perm l).trans (p.trans (sortE_perm k).symm))
theorem sortE_eq_iff {l k : List α} : sortE l = sortE k ↔ l.Perm k := ⟨fun e => (sortE_perm l).symm.trans (e ▸ sortE_perm k), sortE_perm_eq⟩
theorem alkAll_enc : ∀ l : List α, alkAll (l.map enc) = true
  | [] => rfl
  | x :: r => by
    show (alk (enc x) (enc x) && (r.map enc).all (alk (enc x)) && alkAll (r.map enc)) = true
    rw [Enc.al, alkAll_enc r]
    simp [List.all_map, Enc.al]
end
theorem sorted_enc {α : Type} [Enc α] {S : Sto} {l : List α} (hd : Enc.dep α ≤ 60) (hl : l.length ≤ LIM) (h : (noEmp (l.map enc) || noTup (l.map enc)) = true) : sortedD S (encL l) = some (encL (sortE l)) := by
  show (if canSort (l.map enc) then some (D.lst (sortD (l.map enc))) else none) = _
  have e : canSort (l.map enc) = true := by
    show (isDts (l.map enc) && alkAll (l.map enc) && (noEmp (l.map enc) || noTup (l.map enc)) && Nat.ble (depL (l.map enc)) 60 && limL (l.map enc)) = true
    rw [dts_map, alkAll_enc, h, Nat.ble_eq_true_of_le (Nat.le_trans (depL_map l) hd)]
    show Nat.ble (l.map enc).length LIM = true
    rw [List.length_map, Nat.ble_eq_true_of_le hl]
  rw [if_pos e, sortD_enc] <;> rfl
theorem sorted_encT {α : Type} [Enc α] {S : Sto} {l : List α} (hd : Enc.dep α ≤ 60) (hl : l.length ≤ LIM) (h : (noEmp (l.map enc) || noTup (l.map enc)) = true) : sortedD S (.tup (l.map enc)) = some (encL (sortE l)) := sorted_enc (S := S) hd hl h
end Ri
set_option maxHeartbeats 1000000
namespace Ri
open PySem
open Enc (enc)
mutual
theorem refB_dt (b : Nat) : ∀ d : D, isDt d = true → refB b d = true
  | .non, _ => rfl
  | .bl _, _ => rfl
  | .int _, _ => rfl
  | .str _, _ => rfl
  | .tup l, h => refBs_dt b l h
  | .lst l, h => refBs_dt b l h
  | .scr _, h => by cases h
  | .ref _, h => by cases h
  | .rng _ _, h => by cases h
theorem refBs_dt (b : Nat) : ∀ l : List D, isDts l = true → refBs b l = true
  | [], _ => rfl
  | x :: r, h => by
    obtain ⟨h1, h2⟩ := Bool.and_eq_true_iff.mp (show (isDt x && isDts r) = true from h)
    show (refB b x && refBs b r) = true
    rw [refB_dt b x h1, refBs_dt b r h2] <;> rfl
end
mutual
theorem frzD_dt (g : Nat → Option D) : ∀ d : D, isDt d = true → frzD g d = some d
  | .non, _ => rfl
  | .bl _, _ => rfl
  | .int _, _ => rfl
  | .str _, _ => rfl
  | .tup l, h => by
    show (frzs g l).map D.tup = _
    rw [frzs_dt g l h] <;> rfl
  | .lst l, h => by
    show (frzs g l).map D.lst = _
    rw [frzs_dt g l h] <;> rfl
  | .scr _, h => by cases h
  | .ref _, h => by cases h
  | .rng _ _, h => by cases h
theorem frzs_dt (g : Nat → Option D) : ∀ l : List D, isDts l = true → frzs g l = some l
  | [], _ => rfl
  | x :: r, h => by
    obtain ⟨h1, h2⟩ := Bool.and_eq_true_iff.mp (show (isDt x && isDts r) = true from h)
    show (match frzD g x with
      | some y => (match frzs g r with
        | some t => some (y :: t)
        | none => none)
      | none => none) = _
    rw [frzD_dt g x h1, frzs_dt g r h2]
end
theorem dts_iff : ∀ {l : List D}, isDts l = true ↔ ∀ x ∈ l, isDt x = true
  | [] => by simp [isDts]
  | x :: r => by
    show (isDt x && isDts r) = true ↔ _
    rw [Bool.and_eq_true, dts_iff (l := r)] <;> simp
theorem frz_dt {S : Sto} {b : Nat} {d : D} (h : isDt d = true) : frz S b d = some d := frzD_dt _ d h
theorem stoL_last (S : Sto) (l : List D) : stoL (S ++ [.lst l]) S.length = some l := by
  unfold stoL
  rw [List.getElem?_append_right (Nat.le_refl _), Nat.sub_self] <;> rfl
theorem set_last (S : Sto) (a b : SO) : (S ++ [a]).set S.length b = S ++ [b] := by
  rw [List.set_append_right _ _ (Nat.le_refl _), Nat.sub_self] <;> rfl
theorem frz_last {S : Sto} {l : List D} (h : isDts l = true) : frz (S ++ [.lst l]) S.length (.ref S.length) = some (.lst l) := by
  show frzN (S ++ [.lst l]) S.length 3 S.length = _
  unfold frzN
  rw [show Nat.blt S.length S.length = false from by
    cases h : Nat.blt S.length S.length with
    | false => rfl
    | true => exact (Nat.lt_irrefl _ (Nat.le_of_ble_eq_true (show Nat.ble (S.length + 1) S.length = true from h))).elim]
  rw [if_neg Bool.false_ne_true, stoL_last]
  show (frzs _ l).map D.lst = _
  rw [frzs_dt _ l h] <;> rfl
theorem run_of {C : Ctx} {f : Df} {bs : List Nat} {ds : List D} {S T : Sto} {p : Fl} {v0 v : Vs} {d d' : D} (hk : f.keep = false) (hn : ds.length = f.ps) (hs : startV f.vs ds = v0)
    (h : xss C (S.length :: bs) f.body v0 S = .ok (p, v) (S ++ T)) (ho : outD (p, v) = some d) (hd : frz (S ++ T) S.length d = some d') : runDf C f bs ds S = .ok d' S := by
  unfold runDf
  rw [if_pos (by rw [hn]; exact beq_self_eq_true _), if_neg (by rw [hk]; exact Bool.false_ne_true), hs, h]
  show (match (outD (p, v)).bind (frz (S ++ T) S.length) with
    | some d => R.ok d ((S ++ T).take S.length)
    | none => .bad) = _
  rw [ho]
  show (match frz (S ++ T) S.length d with
    | some d => R.ok d ((S ++ T).take S.length)
    | none => .bad) = _
  rw [hd, List.take_left']
  rfl
theorem run_dt {C : Ctx} {f : Df} {bs : List Nat} {ds : List D} {S : Sto} {v0 v : Vs} {d : D} (hk : f.keep = false) (hn : ds.length = f.ps) (hs : startV f.vs ds = v0)
    (h : xss C (S.length :: bs) f.body v0 S = .ok (.ret d, v) S) (hd : isDt d = true) : runDf C f bs ds S = .ok d S :=
  run_of (T := []) hk hn hs (by rw [List.append_nil]; exact h) rfl (frz_dt hd)
/-- a def that hands back the list that it made -/
theorem run_last {C : Ctx} {f : Df} {bs : List Nat} {ds : List D} {S : Sto} {v0 v : Vs} {l : List D} (hk : f.keep = false) (hn : ds.length = f.ps) (hs : startV f.vs ds = v0)
    (h : xss C (S.length :: bs) f.body v0 S = .ok (.ret (.ref S.length), v) (S ++ [.lst l])) (hd : isDts l = true) : runDf C f bs ds S = .ok (.lst l) S :=
  run_of (T := [.lst l]) hk hn hs h rfl (frz_last hd)
theorem run_ex {C : Ctx} {f : Df} {bs : List Nat} {ds : List D} {S T : Sto} {v0 : Vs} {c : Nat} (hk : f.keep = false) (hn : ds.length = f.ps) (hs : startV f.vs ds = v0)
    (h : xss C (S.length :: bs) f.body v0 S = .ex c .non (S ++ T)) : runDf C f bs ds S = .ex c .non S := by
  unfold runDf
  rw [if_pos (by rw [hn]; exact beq_self_eq_true _), if_neg (by rw [hk]; exact Bool.false_ne_true), hs, h]
  show R.ex c .non ((S ++ T).take S.length) = _
  rw [List.take_left']
  rfl
theorem rngL_eq (lo : Int) : ∀ n : Nat, rngL lo n = (List.range n).map fun (k : Nat) => D.int (lo + k)
  | 0 => rfl
  | n + 1 => by
    show D.int lo :: rngL (lo + 1) n = _
    rw [rngL_eq (lo + 1) n, List.range_succ_eq_map, List.map_cons, List.map_map]
    refine congr (congrArg List.cons ?_) (List.map_congr_left fun k _ => ?_)
    · simp
    · show D.int (lo + 1 + (k : Int)) = D.int (lo + ((k + 1 : Nat) : Int))
      congr 1
      omega
theorem rngL_zero (n : Nat) : rngL 0 n = (List.range n).map fun (k : Nat) => D.int k := by
  rw [rngL_eq]
  refine List.map_congr_left fun k _ => ?_
  simp
theorem zipL_map {α β : Type} (f : α → D) (g : β → D) : ∀ (l : List α) (k : List β), zipL (l.map f) (k.map g) = (l.zip k).map fun p => D.tup [f p.1, g p.2]
  | [], _ => by simp [zipL]
  | _ :: _, [] => by simp [zipL]
  | x :: r, y :: t => by
    show D.tup [f x, g y] :: zipL (r.map f) (t.map g) = _
    rw [zipL_map f g r t] <;> rfl
theorem zipL_id {β : Type} (g : β → D) (l : List D) (k : List β) : zipL l (k.map g) = (l.zip k).map fun p => D.tup [p.1, g p.2] := by
  have z := zipL_map id g l k
  rwa [List.map_id] at z
theorem enumL_map {α : Type} (f : α → D) : ∀ (l : List α) (n : Nat), enumL n (l.map f) = (l.zipIdx n).map fun p => D.tup [.int p.2, f p.1]
  | [], _ => rfl
  | x :: r, n => by
    show D.tup [.int n, f x] :: enumL (n + 1) (r.map f) = _
    rw [enumL_map f r (n + 1)] <;> rfl
/-- one turn of a comprehension: an item, or none -/
def cB (C : Ctx) (elt : E) (t : T) (c : Eo) (ρ : Env) (x : D) (S : Sto) : R (Option D) := match bindT (wipeL ρ.v (slots t)) t x with
  | some v => (evCond C c ⟨ρ.bs, v⟩ S).b fun b S => cond b ((ev C elt ⟨ρ.bs, v⟩ S).b fun y S => .ok (some y) S) (.ok none S)
  | none => .bad
theorem cB_nm (C : Ctx) (elt : E) (i : Nat) (c : Eo) (ρ : Env) (x : D) (S : Sto) : cB C elt (.nm i) c ρ x S =
    (evCond C c ⟨ρ.bs, ρ.v.set i (some x)⟩ S).b fun b S => cond b ((ev C elt ⟨ρ.bs, ρ.v.set i (some x)⟩ S).b fun y S => .ok (some y) S) (.ok none S) := by
  show (evCond C c ⟨ρ.bs, (ρ.v.set i none).set i (some x)⟩ S).b (fun b S => cond b ((ev C elt ⟨ρ.bs, (ρ.v.set i none).set i (some x)⟩ S).b fun y S => .ok (some y) S) (.ok none S)) = _
  rw [List.set_set]
theorem cB_tp2 (C : Ctx) (elt : E) (i j : Nat) (c : Eo) (ρ : Env) (x y : D) (S : Sto) : cB C elt (.tp [i, j]) c ρ (.tup [x, y]) S =
    (evCond C c ⟨ρ.bs, (((ρ.v.set j none).set i none).set i (some x)).set j (some y)⟩ S).b fun b S => cond b ((ev C elt ⟨ρ.bs, (((ρ.v.set j none).set i none).set i (some x)).set j (some y)⟩ S).b fun y S => .ok (some y) S) (.ok none S) := rfl
def accO (acc : List D) : Option D → List D
  | some y => y :: acc
  | none => acc
theorem lcGo_fm {α : Type} {F : D → List D → M (List D)} {e : α → D} {g : α → Option D} {S : Sto} : ∀ (xs : List α) (acc : List D), (∀ a ∈ xs, ∀ acc, F (e a) acc S = .ok (accO acc (g a)) S) → lcGo F (xs.map e) acc S = .ok ((xs.filterMap g).reverse ++ acc) S
  | [], acc, _ => rfl
  | x :: r, acc, h => by
    show bnd (F (e x) acc) _ S = _
    rw [bnd_b, h x List.mem_cons_self]
    show lcGo F (r.map e) _ S = _
    rw [lcGo_fm r _ fun a ha => h a (List.mem_cons_of_mem _ ha)]
    cases hg : g x with
    | none => rw [List.filterMap_cons_none hg] <;> rfl
    | some y => rw [List.filterMap_cons_some hg, List.reverse_cons, List.append_assoc] <;> rfl
section
variable {C : Ctx} {elt : E} {t : T} {it : I} {c : Eo} {ρ : Env} {S : Sto} {α : Type} {e : α → D} {xs : List α}
theorem turn_cB (x : D) (acc : List D) : (match bindT (wipeL ρ.v (slots t)) t x with
      | some v => bnd (evCond C c ⟨ρ.bs, v⟩) fun b => match b with
        | true => bnd ((ev2 C elt).v ⟨ρ.bs, v⟩) fun y => ret (y :: acc)
        | false => ret acc
      | none => bad) S = (cB C elt t c ρ x S).b fun o S => .ok (accO acc o) S := by
  unfold cB
  cases bindT (wipeL ρ.v (slots t)) t x with
  | none => rfl
  | some v =>
    show bnd (evCond C c ⟨ρ.bs, v⟩) _ S = R.b ((evCond C c ⟨ρ.bs, v⟩ S).b _) _
    rw [bnd_b]
    cases evCond C c ⟨ρ.bs, v⟩ S with
    | ok b S1 =>
      cases b with
      | false => rfl
      | true =>
        show bnd (ev C elt ⟨ρ.bs, v⟩) _ S1 = R.b ((ev C elt ⟨ρ.bs, v⟩ S1).b _) _
        rw [bnd_b]
        cases ev C elt ⟨ρ.bs, v⟩ S1 <;> rfl
    | _ => rfl
theorem limM_of {x : M (List D)} {l : List D} {S1 : Sto} (h : x S = .ok l S1) (hl : l.length ≤ LIM) : limM x S = .ok l S1 := by
  rw [limM_b, h]
  show cond (Nat.ble l.length LIM) (R.ok l S1) .bad = _
  rw [Nat.ble_eq_true_of_le hl] <;> rfl
theorem noEx_of {β : Type} {x : M β} {a : β} {S1 : Sto} (h : x S = .ok a S1) : noEx x S = .ok a S1 := noEx_eq h
theorem lc_fm {g : α → Option D} (hi : evI C it ρ S = .ok (.snap (xs.map e)) S) (hb : ∀ a ∈ xs, cB C elt t c ρ (e a) S = .ok (g a) S) (hl : (xs.filterMap g).length ≤ LIM) :
    evC C (.c1 elt t it c) ρ S = .ok (xs.filterMap g) S := by
  show bnd (evI C it ρ) _ S = _
  rw [bnd_b, hi]
  refine noEx_of (limM_of ?_ hl)
  rw [bnd_b]
  have z := lcGo_fm (S := S) (F := fun x acc => (match bindT (wipeL ρ.v (slots t)) t x with
      | some v => bnd (evCond C c ⟨ρ.bs, v⟩) fun b => match b with
        | true => bnd ((ev2 C elt).v ⟨ρ.bs, v⟩) fun y => ret (y :: acc)
        | false => ret acc
      | none => bad)) (e := e) (g := g) xs [] fun a ha acc => by rw [turn_cB, hb a ha] <;> rfl
  refine (congrArg (fun r => R.b r fun acc => ret acc.reverse) z).trans ?_
  show R.ok (((xs.filterMap g).reverse ++ []).reverse) S = _
  rw [List.append_nil, List.reverse_reverse]
theorem lc_map {h : α → D} (hi : evI C it ρ S = .ok (.snap (xs.map e)) S) (hb : ∀ a ∈ xs, cB C elt t c ρ (e a) S = .ok (some (h a)) S) (hl : xs.length ≤ LIM) :
    evC C (.c1 elt t it c) ρ S = .ok (xs.map h) S := by
  have e1 : xs.filterMap (fun a => some (h a)) = xs.map h := by rw [List.filterMap_eq_map']
  rw [← e1]
  exact lc_fm hi hb (by rw [e1, List.length_map]; exact hl)
theorem lc_fil {p : α → Bool} {h : α → D} (hi : evI C it ρ S = .ok (.snap (xs.map e)) S) (hb : ∀ a ∈ xs, cB C elt t c ρ (e a) S = .ok (if p a then some (h a) else none) S) (hl : xs.length ≤ LIM) :
    evC C (.c1 elt t it c) ρ S = .ok ((xs.filter p).map h) S := by
  have e1 : ∀ xs : List α, xs.filterMap (fun a => if p a then some (h a) else none) = (xs.filter p).map h := by
    intro xs
    induction xs with
    | nil => rfl
    | cons x r ih =>
      by_cases q : p x = true
      · rw [List.filterMap_cons_some (b := h x) (by rw [if_pos q]), List.filter_cons_of_pos q, List.map_cons, ih]
      · rw [List.filterMap_cons_none (by rw [if_neg q]), List.filter_cons_of_neg q, ih]
  rw [← e1]
  exact lc_fm hi hb (by rw [e1, List.length_map]; exact Nat.le_trans (List.length_filter_le _ _) hl)
theorem lcGo_fl {F : D → List D → M (List D)} {r : α → List D} : ∀ (xs : List α) (acc : List D), (∀ a ∈ xs, ∀ acc, F (e a) acc S = .ok ((r a).reverse ++ acc) S) → lcGo F (xs.map e) acc S = .ok ((xs.flatMap r).reverse ++ acc) S
  | [], acc, _ => rfl
  | x :: t, acc, h => by
    show bnd (F (e x) acc) _ S = _
    rw [bnd_b, h x List.mem_cons_self]
    show lcGo F (t.map e) _ S = _
    rw [lcGo_fl t _ fun a ha => h a (List.mem_cons_of_mem _ ha)]
    rw [List.flatMap_cons, List.reverse_append, List.append_assoc]
theorem lc_two {t2 : T} {it2 : I} {c2 : Eo} {r : α → List D} (hi : evI C it ρ S = .ok (.snap (xs.map e)) S)
    (hb : ∀ a ∈ xs, ∃ (v : Vs) (l2 : List D) (g : D → Option D), bindT (wipeL ρ.v (slots t ++ slots t2)) t (e a) = some v ∧ evCond C c ⟨ρ.bs, v⟩ S = .ok true S ∧ evI C it2 ⟨ρ.bs, v⟩ S = .ok (.snap l2) S ∧ (∀ x ∈ l2, cB C elt t2 c2 ⟨ρ.bs, v⟩ x S = .ok (g x) S) ∧ l2.filterMap g = r a)
    (hl : (xs.flatMap r).length ≤ LIM) : evC C (.c2 elt t it c t2 it2 c2) ρ S = .ok (xs.flatMap r) S := by
  show bnd (evI C it ρ) _ S = _
  rw [bnd_b, hi]
  refine noEx_of (limM_of ?_ hl)
  rw [bnd_b]
  have z := lcGo_fl (S := S) (F := fun x acc => (match bindT (wipeL ρ.v (slots t ++ slots t2)) t x with
    | some v => bnd (evCond C c ⟨ρ.bs, v⟩) fun b => match b with
      | true => bnd (evI C it2 ⟨ρ.bs, v⟩) fun i2 => lcRun C (fun x2 acc => (match bindT (wipeL v (slots t2)) t2 x2 with
        | some w => bnd (evCond C c2 ⟨ρ.bs, w⟩) fun b => match b with
          | true => bnd ((ev2 C elt).v ⟨ρ.bs, w⟩) fun y => ret (y :: acc)
          | false => ret acc
        | none => bad)) i2 acc
      | false => ret acc
    | none => bad)) (e := e) (r := r) xs [] fun a ha acc => by
      obtain ⟨v, l2, g, h1, h2, h3, h4, h5⟩ := hb a ha
      rw [h1]
      show bnd (evCond C c ⟨ρ.bs, v⟩) _ S = _
      rw [bnd_b, h2]
      show bnd (evI C it2 ⟨ρ.bs, v⟩) _ S = _
      rw [bnd_b, h3]
      have z := lcGo_fm (S := S) (F := fun x2 acc => (match bindT (wipeL v (slots t2)) t2 x2 with
        | some w => bnd (evCond C c2 ⟨ρ.bs, w⟩) fun b => match b with
          | true => bnd ((ev2 C elt).v ⟨ρ.bs, w⟩) fun y => ret (y :: acc)
          | false => ret acc
        | none => bad)) (e := id) (g := g) l2 acc fun x hx acc => (turn_cB (ρ := ⟨ρ.bs, v⟩) x acc).trans (by rw [h4 x hx] <;> rfl)
      rw [List.map_id, h5] at z
      exact z
  refine (congrArg (fun r => R.b r fun acc => ret acc.reverse) z).trans ?_
  show R.ok (((xs.flatMap r).reverse ++ []).reverse) S = _
  rw [List.append_nil, List.reverse_reverse]
end
/-- a comprehension whose turns change the store -/
theorem lcGo_st {α : Type} {F : D → List D → M (List D)} {e : α → D} {P : Sto → Prop} {Qd : D → Prop} : ∀ (xs : List α) (acc : List D) (S : Sto), (∀ a ∈ xs, ∀ S, P S → ∃ y S', P S' ∧ Qd y ∧ ∀ acc, F (e a) acc S = .ok (y :: acc) S') → P S →
    ∃ l S', P S' ∧ (∀ y ∈ l, Qd y) ∧ l.length = xs.length ∧ lcGo F (xs.map e) acc S = .ok (l ++ acc) S'
  | [], acc, S, _, h => ⟨[], S, h, fun _ z => (by cases z), rfl, rfl⟩
  | x :: r, acc, S, hf, h => by
    obtain ⟨y, S1, h1, h2, h3⟩ := hf x List.mem_cons_self S h
    obtain ⟨l, S2, k1, k2, k3, k4⟩ := lcGo_st r (y :: acc) S1 (fun a ha => hf a (List.mem_cons_of_mem _ ha)) h1
    refine ⟨l ++ [y], S2, k1, fun z hz => ?_, by rw [List.length_append, k3] <;> rfl, ?_⟩
    · rcases List.mem_append.mp hz with hz | hz
      · exact k2 z hz
      · rcases List.mem_singleton.mp hz with rfl
        exact h2
    · show bnd (F (e x) acc) _ S = _
      rw [bnd_b, h3 acc]
      refine k4.trans ?_
      rw [List.append_assoc] <;> rfl
theorem lc_st {C : Ctx} {elt : E} {t : T} {it : I} {c : Eo} {ρ : Env} {S : Sto} {α : Type} {e : α → D} {xs : List α} {P : Sto → Prop} {Qd : D → Prop} (hi : evI C it ρ S = .ok (.snap (xs.map e)) S)
    (hb : ∀ a ∈ xs, ∀ S, P S → ∃ y S', P S' ∧ Qd y ∧ cB C elt t c ρ (e a) S = .ok (some y) S') (hl : xs.length ≤ LIM) (hP : P S) :
    ∃ l S', P S' ∧ (∀ y ∈ l, Qd y) ∧ l.length = xs.length ∧ evC C (.c1 elt t it c) ρ S = .ok l S' := by
  obtain ⟨l, S', h1, h2, h3, h4⟩ := lcGo_st (F := fun x acc => (match bindT (wipeL ρ.v (slots t)) t x with
      | some v => bnd (evCond C c ⟨ρ.bs, v⟩) fun b => match b with
        | true => bnd ((ev2 C elt).v ⟨ρ.bs, v⟩) fun y => ret (y :: acc)
        | false => ret acc
      | none => bad)) (e := e) (P := P) (Qd := Qd) xs [] S (fun a ha S hS => by
    obtain ⟨y, S', k1, k2, k3⟩ := hb a ha S hS
    exact ⟨y, S', k1, k2, fun acc => by rw [turn_cB, k3] <;> rfl⟩) hP
  refine ⟨l.reverse, S', h1, fun y hy => h2 y (List.mem_reverse.mp hy), by rw [List.length_reverse, h3], ?_⟩
  show bnd (evI C it ρ) _ S = _
  rw [bnd_b, hi]
  refine noEx_of (limM_of ?_ (by rw [List.length_reverse, h3]; exact hl))
  rw [bnd_b]
  refine (congrArg (fun r => R.b r fun acc => ret acc.reverse) h4).trans ?_
  rw [List.append_nil] <;> rfl
theorem forGo_inv {α β : Type} {f : D → Vs → M (Fl × Vs)} {e : α → D} {P : β → Vs → Sto → Prop} {g : β → α → β} : ∀ (xs : List α), (∀ b, ∀ a ∈ xs, ∀ v S, P b v S → ∃ v' S', f (e a) v S = .ok (.nx, v') S' ∧ P (g b a) v' S') →
    ∀ b v S, P b v S → ∃ v' S', forGo f (xs.map e) v S = .ok (.nx, v') S' ∧ P (xs.foldl g b) v' S'
  | [], _, b, v, S, h => ⟨v, S, rfl, h⟩
  | x :: r, hf, b, v, S, h => by
    obtain ⟨v1, S1, e1, h1⟩ := hf b x List.mem_cons_self v S h
    obtain ⟨v2, S2, e2, h2⟩ := forGo_inv r (fun b a ha => hf b a (List.mem_cons_of_mem _ ha)) (g b x) v1 S1 h1
    refine ⟨v2, S2, ?_, h2⟩
    show bnd (f (e x) v) _ S = _
    rw [bnd_b, e1]
    exact e2
theorem forGo_nx {f : D → Vs → M (Fl × Vs)} {x : D} {r : List D} {v v1 : Vs} {S S1 : Sto} (h : f x v S = .ok (.nx, v1) S1) : forGo f (x :: r) v S = forGo f r v1 S1 := by
  show bnd (f x v) _ S = _
  rw [bnd_b, h] <;> rfl
theorem forGo_rt {f : D → Vs → M (Fl × Vs)} {x d : D} {r : List D} {v v1 : Vs} {S S1 : Sto} (h : f x v S = .ok (.ret d, v1) S1) : forGo f (x :: r) v S = .ok (.ret d, v1) S1 := by
  show bnd (f x v) _ S = _
  rw [bnd_b, h] <;> rfl
/-- a loop that may be left by handing back d -/
theorem forGo_stop {α β : Type} {f : D → Vs → M (Fl × Vs)} {e : α → D} {P : β → Vs → Sto → Prop} {Q : Sto → Prop} {d : D} {g : β → α → Option β} : ∀ (xs : List α),
    (∀ b, ∀ a ∈ xs, ∀ v S, P b v S → match g b a with
      | some b' => ∃ v' S', f (e a) v S = .ok (.nx, v') S' ∧ P b' v' S'
      | none => ∃ v' S', f (e a) v S = .ok (.ret d, v') S' ∧ Q S') →
    ∀ b v S, P b v S → match xs.foldlM g b with
      | some b' => ∃ v' S', forGo f (xs.map e) v S = .ok (.nx, v') S' ∧ P b' v' S'
      | none => ∃ v' S', forGo f (xs.map e) v S = .ok (.ret d, v') S' ∧ Q S'
  | [], _, b, v, S, h => ⟨v, S, rfl, h⟩
  | x :: r, hf, b, v, S, h => by
    have z := hf b x List.mem_cons_self v S h
    rw [List.foldlM_cons]
    show match (g b x).bind fun b' => r.foldlM g b' with
      | some b' => ∃ v' S', forGo f (e x :: r.map e) v S = .ok (.nx, v') S' ∧ P b' v' S'
      | none => ∃ v' S', forGo f (e x :: r.map e) v S = .ok (.ret d, v') S' ∧ Q S'
    have step : forGo f (e x :: r.map e) v S = (f (e x) v S).b fun p S => (match p.1 with
      | .nx => forGo f (r.map e) p.2
      | .cnt => forGo f (r.map e) p.2
      | .brk => ret (.nx, p.2)
      | .ret d => ret (.ret d, p.2)) S := by
      show bnd (f (e x) v) _ S = _
      rw [bnd_b] <;> rfl
    cases q : g b x with
    | none =>
      rw [q] at z
      obtain ⟨v1, S1, e1, h1⟩ := z
      exact ⟨v1, S1, by rw [step, e1] <;> rfl, h1⟩
    | some b1 =>
      rw [q] at z
      obtain ⟨v1, S1, e1, h1⟩ := z
      have step2 : forGo f (e x :: r.map e) v S = forGo f (r.map e) v1 S1 := by rw [step, e1] <;> rfl
      rw [step2]
      exact forGo_stop r (fun b a ha => hf b a (List.mem_cons_of_mem _ ha)) b1 v1 S1 h1
theorem s_for {C : Ctx} {bs : List Nat} {t : T} {it : I} {b : Ss} {v : Vs} {S S1 : Sto} {l : List D} {r : R (Fl × Vs)} (hi : evI C it ⟨bs, v⟩ S = .ok (.snap l) S1)
    (h : forGo (fun x v => match bindT v t x with
      | some v => xss C bs b v
      | none => bad) l v S1 = r) : xs C bs (.fr t it b) v S = r := by
  rw [s_fr, hi]
  exact h
section
variable (S : Sto)
theorem okR_of {i : Int} (h : i.natAbs ≤ 1000000000) : okR i = true := Nat.ble_eq_true_of_le h
theorem rg1_of {n : Nat} (h : n ≤ 1000000000) : rg1D S (.int n) = .ok (.snap ((List.range n).map fun (k : Nat) => D.int k)) S := by
  show (if okR (n : Int) then R.ok (It.snap (rngL 0 (n : Int).toNat)) S else .bad) = _
  rw [if_pos (okR_of (by omega)), rngL_zero, Int.toNat_natCast]
theorem rg2_of {lo hi : Int} (h : lo.natAbs ≤ 1000000000) (h' : hi.natAbs ≤ 1000000000) : rg2D S (.int lo) (.int hi) = .ok (.snap ((List.range (hi - lo).toNat).map fun (k : Nat) => D.int (lo + k))) S := by
  show (if okR lo && okR hi then R.ok (It.snap (rngL lo (hi - lo).toNat)) S else .bad) = _
  rw [if_pos (by rw [okR_of h, okR_of h'] <;> rfl), rngL_eq]
@[simp] theorem c_eqI (i j : Int) : cmpD S .eq (.int i) (.int j) = some (i == j) := rfl
@[simp] theorem c_neI (i j : Int) : cmpD S .ne (.int i) (.int j) = some (!(i == j)) := rfl
@[simp] theorem c_ltI (i j : Int) : cmpD S .lt (.int i) (.int j) = some (decide (i < j)) := rfl
@[simp] theorem c_leI (i j : Int) : cmpD S .le (.int i) (.int j) = some (decide (i ≤ j)) := rfl
@[simp] theorem c_gtI (i j : Int) : cmpD S .gt (.int i) (.int j) = some (decide (j < i)) := rfl
@[simp] theorem c_geI (i j : Int) : cmpD S .ge (.int i) (.int j) = some (decide (j ≤ i)) := rfl
@[simp] theorem c_is (o : D) (b : Bool) (x : Bool) : cmpD S .is (.bl x) (.bl b) = some (x == b) := rfl
@[simp] theorem c_isn (x b : Bool) : cmpD S .isn (.bl x) (.bl b) = some (!(x == b)) := rfl
@[simp] theorem ar_add (i j : Int) : arith S .add (.int i) (.int j) = some (.int (i + j)) := rfl
@[simp] theorem ar_sub (i j : Int) : arith S .sub (.int i) (.int j) = some (.int (i - j)) := rfl
theorem ar_tup {l k : List D} (h : l.length + k.length ≤ LIM) : arith S .add (.tup l) (.tup k) = some (.tup (l ++ k)) := by
  show (if Nat.ble (l.length + k.length) LIM then some (D.tup (l ++ k)) else none) = _
  rw [Nat.ble_eq_true_of_le h] <;> rfl
theorem ar_lst {l k : List D} (h : l.length + k.length ≤ LIM) : arith S .add (.lst l) (.lst k) = some (.lst (l ++ k)) := by
  show (if Nat.ble (l.length + k.length) LIM then some (l ++ k) else none).map D.lst = _
  rw [Nat.ble_eq_true_of_le h] <;> rfl
theorem ar_fdiv {i j : Int} (h : 0 < j) (h' : j ≤ 1000000000000) : arith S .fdiv (.int i) (.int j) = some (.int (i.fdiv j)) := by
  show (if j != 0 && sml j then some (i.fdiv j) else none).map D.int = _
  have : j ≠ 0 := by omega
  rw [sml_of (by omega) h', show (j != 0) = true by simpa using this] <;> rfl
theorem ar_mod {i j : Int} (h : j ≠ 0) : arith S .mod (.int i) (.int j) = some (.int (i.fmod j)) := by
  show (if j != 0 then some (i.fmod j) else none).map D.int = _
  rw [show (j != 0) = true by simpa using h] <;> rfl
@[simp] theorem p_lenT (l : List D) : prim S .len [.tup l] = some (.int l.length) := rfl
@[simp] theorem p_lenL (l : List D) : prim S .len [.lst l] = some (.int l.length) := rfl
@[simp] theorem p_tuple (l : List D) : prim S .tuple [.lst l] = some (.tup l) := rfl
@[simp] theorem p_tupleT (l : List D) : prim S .tuple [.tup l] = some (.tup l) := rfl
@[simp] theorem p_list (l : List D) : prim S .list [.tup l] = some (.lst l) := rfl
@[simp] theorem p_listL (l : List D) : prim S .list [.lst l] = some (.lst l) := rfl
@[simp] theorem p_sorted (d : D) : prim S .sorted [d] = sortedD S d := rfl
@[simp] theorem p_min2 (i j : Int) : prim S .min2 [.int i, .int j] = some (.int (min i j)) := by
  show some (D.int (if j < i then j else i)) = _
  congr 2
  rw [Int.min_def]
  split <;> split <;> omega
@[simp] theorem p_max2 (i j : Int) : prim S .max2 [.int i, .int j] = some (.int (max i j)) := by
  show some (D.int (if j > i then j else i)) = _
  congr 2
  rw [Int.max_def]
  split <;> split <;> omega
theorem intsOf_map : ∀ l : List Int, intsOf (l.map D.int) = some l
  | [] => rfl
  | x :: r => by
    show (intsOf (r.map D.int)).map (x :: ·) = _
    rw [intsOf_map r] <;> rfl
theorem blsOf_map {α : Type} (p : α → Bool) : ∀ l : List α, blsOf (l.map fun a => D.bl (p a)) = some (l.map p)
  | [] => rfl
  | x :: r => by
    show (blsOf (r.map fun a => D.bl (p a))).map (p x :: ·) = _
    rw [blsOf_map p r] <;> rfl
@[simp] theorem p_sumT (l : List Int) : prim S .sum [.tup (l.map D.int)] = some (.int l.sum) := by
  show ((intsOf (l.map D.int)).map fun l => D.int l.sum) = _
  rw [intsOf_map] <;> rfl
@[simp] theorem p_sumL (l : List Int) : prim S .sum [.lst (l.map D.int)] = some (.int l.sum) := by
  show ((intsOf (l.map D.int)).map fun l => D.int l.sum) = _
  rw [intsOf_map] <;> rfl
@[simp] theorem p_all {α : Type} (p : α → Bool) (l : List α) : prim S .all [.lst (l.map fun a => D.bl (p a))] = some (.bl (l.all p)) := by
  show ((blsOf (l.map fun a => D.bl (p a))).map fun l => D.bl (l.all id)) = _
  rw [blsOf_map]
  show some (D.bl ((l.map p).all id)) = _
  rw [List.all_map] <;> rfl
@[simp] theorem p_any {α : Type} (p : α → Bool) (l : List α) : prim S .any [.lst (l.map fun a => D.bl (p a))] = some (.bl (l.any p)) := by
  show ((blsOf (l.map fun a => D.bl (p a))).map fun l => D.bl (l.any id)) = _
  rw [blsOf_map]
  show some (D.bl ((l.map p).any id)) = _
  rw [List.any_map] <;> rfl
theorem limL_of {l : List D} (h : l.length ≤ LIM) : limL l = true := Nat.ble_eq_true_of_le h
end
/-- a new item at the end of the last list -/
theorem e_app {C : Ctx} {ρ : Env} {S : Sto} {i : Nat} {e : E} {l : List D} {d : D} (hv : getV ρ.v i (S ++ [SO.lst l]) = .ok (.ref S.length) (S ++ [SO.lst l])) (he : ev C e ρ (S ++ [SO.lst l]) = .ok d (S ++ [SO.lst l])) (hd : isDt d = true) (hl : l.length + 1 ≤ LIM) :
    ev C (.meth .append (.var i) (.cons e .nil)) ρ (S ++ [SO.lst l]) = .ok .non (S ++ [SO.lst (l ++ [d])]) := by
  show bnd (ev C (.var i) ρ) (fun x => bnd (isLst x) fun _ => bnd (evs C (.cons e .nil) ρ) fun ds => method ρ.bs .append x ds) (S ++ [SO.lst l]) = _
  rw [bnd_b, e_var, hv]
  show bnd (isLst (.ref S.length)) _ (S ++ [SO.lst l]) = _
  have e1 : isLst (.ref S.length) (S ++ [SO.lst l]) = .ok () (S ++ [SO.lst l]) := by
    show (match stoL (S ++ [SO.lst l]) S.length with
      | some _ => R.ok () (S ++ [SO.lst l])
      | none => .bad) = _
    rw [stoL_last]
  rw [bnd_b, e1]
  show bnd (evs C (.cons e .nil) ρ) _ (S ++ [SO.lst l]) = _
  rw [bnd_b, es_cons, he]
  show (match stoL (S ++ [SO.lst l]) S.length with
    | some l' => (bnd (putS ρ.bs S.length (l' ++ [d]) d) (fun _ => ret .non) (S ++ [SO.lst l]) : R D)
    | none => .bad) = _
  rw [stoL_last]
  show bnd (putS ρ.bs S.length (l ++ [d]) d) (fun _ => (ret D.non : M D)) (S ++ [SO.lst l]) = _
  rw [bnd_b]
  have e2 : putS ρ.bs S.length (l ++ [d]) d (S ++ [SO.lst l]) = .ok () (S ++ [SO.lst (l ++ [d])]) := by
    show (if (okPut ρ.bs S.length d && limL (l ++ [d])) = true then R.ok () ((S ++ [SO.lst l]).set S.length (.lst (l ++ [d]))) else .bad) = _
    have e3 : okPut ρ.bs S.length d = true := by
      have := refB_dt 0 d hd
      cases d <;> first | rfl | exact absurd hd Bool.false_ne_true | (show (refB 0 _ || _) = true; rw [this] <;> rfl)
    rw [e3, limL_of (by simpa using hl), set_last] <;> rfl
  rw [e2] <;> rfl
end Ri
set_option maxHeartbeats 1000000
namespace Ri
open PySem
open Ri.Enc (enc)
section
variable {α : Type} (S : Sto)
@[simp] theorem k_and (b c : Bool) : (cond b (R.ok (D.bl c) S) (R.ok (D.bl false) S)) = R.ok (.bl (b && c)) S := by cases b <;> rfl
@[simp] theorem k_or (b c : Bool) : (cond b (R.ok (D.bl true) S) (R.ok (D.bl c) S)) = R.ok (.bl (b || c)) S := by cases b <;> rfl
@[simp] theorem k_andT (b c : Bool) : (cond b (R.ok c S) (R.ok false S)) = R.ok (b && c) S := by cases b <;> rfl
@[simp] theorem k_orT (b c : Bool) : (cond b (R.ok true S) (R.ok c S)) = R.ok (b || c) S := by cases b <;> rfl
@[simp] theorem k_opt (b : Bool) (y : D) : (cond b (R.ok (some y) S) (R.ok none S)) = R.ok (if b then some y else none) S := by cases b <;> rfl
@[simp] theorem k_lim (l : List D) (x y : R α) (h : l.length ≤ LIM) : cond (limL l) x y = x := by rw [limL_of h] <;> rfl
end
@[simp] theorem beq_nat (a b : Nat) : ((a : Int) == (b : Int)) = (a == b) := by
  rw [Bool.eq_iff_iff, beq_iff_eq, beq_iff_eq, Int.ofNat_inj]
@[simp] theorem lim1 (a : D) : limL [a] = true := rfl
@[simp] theorem lim0 : limL ([] : List D) = true := rfl
@[simp] theorem lim2 (a b : D) : limL [a, b] = true := rfl
@[simp] theorem lim3 (a b c : D) : limL [a, b, c] = true := rfl
@[simp] theorem lim4 (a b c d : D) : limL [a, b, c, d] = true := rfl
def isW : D → Bool
  | .int _ => true
  | _ => false
def isIB : D → Bool
  | .int _ => true
  | .bl _ => true
  | _ => false
def isBl : D → Bool
  | .bl _ => true
  | _ => false
def isTu : D → Bool
  | .tup _ => true
  | _ => false
@[simp] theorem isTu_tup (l : List D) : isTu (.tup l) = true := rfl
@[simp] theorem isW_int (i : Int) : isW (.int i) = true := rfl
theorem p_isi_int (S : Sto) {d : D} (h : isDt d = true) : prim S (.isi .int) [d] = some (.bl (isIB d)) := by
  show (isTy .int (view S d)).map D.bl = _
  rw [view_dt h]
  cases d <;> first | rfl | cases h
theorem p_isi_bool (S : Sto) {d : D} (h : isDt d = true) : prim S (.isi .bool) [d] = some (.bl (isBl d)) := by
  show (isTy .bool (view S d)).map D.bl = _
  rw [view_dt h]
  cases d <;> first | rfl | cases h
theorem p_isi_tuple (S : Sto) {d : D} (h : isDt d = true) : prim S (.isi .tuple) [d] = some (.bl (isTu d)) := by
  show (isTy .tuple (view S d)).map D.bl = _
  rw [view_dt h]
  cases d <;> first | rfl | cases h
theorem isW_eq (d : D) : (isIB d && !isBl d) = isW d := by cases d <;> rfl
theorem whole_ints : ∀ {l : List D}, l.all isW = true → ∃ ps : List Int, l = ps.map D.int
  | [], _ => ⟨[], rfl⟩
  | x :: r, h => by
    rw [List.all_cons, Bool.and_eq_true] at h
    obtain ⟨ps, e⟩ := whole_ints h.2
    cases x with
    | int i => exact ⟨i :: ps, by rw [e] <;> rfl⟩
    | _ => exact absurd h.1 Bool.false_ne_true
theorem all_isW (ps : List Int) : (ps.map D.int).all isW = true := by
  rw [List.all_map, List.all_eq_true]
  exact fun _ _ => rfl
/-- the def is_whole -/
def dWhole : Df := ⟨1, 1, false,
  (.cons (.ret (.andN (.cons (.pri (.isi .int) (.cons (.var 0) .nil)) (.cons (.not (.pri (.isi .bool) (.cons (.var 0) .nil))) .nil))))
  .nil)⟩
theorem whole_run (C : Ctx) (bs : List Nat) (S : Sto) {d : D} (h : isDt d = true) : runDf C dWhole bs [d] S = .ok (.bl (isW d)) S := by
  refine run_dt (v := [some d]) rfl rfl rfl ?_ rfl
  simp [dWhole, p_isi_int S h, p_isi_bool S h, isW_eq]
end Ri
set_option maxHeartbeats 1000000
namespace Ri
open PySem
open Ri.Enc (enc)
theorem sml_abs {i : Int} (h : i.natAbs ≤ 1000000000000) : sml i = true := big_le h
theorem ar_mul (S : Sto) {i j : Int} (h : i.natAbs ≤ 1000000000000) (k : j.natAbs ≤ 1000000000000) : arith S .mul (.int i) (.int j) = some (.int (i * j)) := mul_sml (sml_abs h) (sml_abs k)
theorem aug_mul {i j : Int} (h : i.natAbs ≤ 1000000000000) (k : j.natAbs ≤ 1000000000000) : augD .mul (.int i) (.int j) = some (.int (i * j)) := by
  show (if (sml i && sml j) = true then some (D.int (i * j)) else none) = _
  rw [sml_abs h, sml_abs k] <;> rfl
theorem aug_add {i j : Int} : augD .add (.int i) (.int j) = some (.int (i + j)) := rfl
theorem aug_sub {i j : Int} : augD .sub (.int i) (.int j) = some (.int (i - j)) := rfl
def addRow (x : Int) : List Int → Nat → List Int → List Int
  | [], _, F => F
  | y :: b, k, F => addRow x b (k + 1) (F.set k (F.getD k 0 + x * y))
def timesF : List Int → List Int → Nat → List Int → List Int
  | [], _, _, F => F
  | x :: a, b, k, F => timesF a b (k + 1) (addRow x b k F)
def mulP (a b : List Int) : List Int := timesF a b 0 (List.replicate (a.length + b.length - 1) 0)
def conv : List Int → List Int → Nat → Int
  | [], _, _ => 0
  | x :: a, b, 0 => x * b.getD 0 0
  | x :: a, b, m + 1 => x * b.getD (m + 1) 0 + conv a b m
theorem addRow_length (x : Int) : ∀ (b : List Int) (k : Nat) (F : List Int), (addRow x b k F).length = F.length
  | [], _, _ => rfl
  | y :: b, k, F => by
    show (addRow x b (k + 1) _).length = _
    rw [addRow_length x b, List.length_set]
theorem timesF_length : ∀ (a b : List Int) (k : Nat) (F : List Int), (timesF a b k F).length = F.length
  | [], _, _, _ => rfl
  | x :: a, b, k, F => by
    show (timesF a b (k + 1) _).length = _
    rw [timesF_length a b, addRow_length]
theorem mulP_length (a b : List Int) : (mulP a b).length = a.length + b.length - 1 := by
  unfold mulP
  rw [timesF_length, List.length_replicate]
theorem getD_set (F : List Int) (k m : Nat) (v : Int) (h : k < F.length) : (F.set k v).getD m 0 = if m = k then v else F.getD m 0 := by
  rw [List.getD_eq_getElem?_getD, List.getElem?_set, List.getD_eq_getElem?_getD]
  by_cases e : k = m
  · subst e
    rw [if_pos rfl, if_pos rfl, if_pos h] <;> rfl
  · rw [if_neg e, if_neg fun z => e z.symm]
theorem addRow_getD (x : Int) : ∀ (b : List Int) (k : Nat) (F : List Int) (m : Nat), k + b.length ≤ F.length → (addRow x b k F).getD m 0 = F.getD m 0 + (if k ≤ m then x * b.getD (m - k) 0 else 0)
  | [], k, F, m, _ => by
    show F.getD m 0 = _
    split <;> simp
  | y :: b, k, F, m, h => by
    have h : k + (b.length + 1) ≤ F.length := h
    show (addRow x b (k + 1) _).getD m 0 = _
    rw [addRow_getD x b (k + 1) _ m (by rw [List.length_set]; omega), getD_set F k m _ (by omega)]
    by_cases e : m = k
    · subst e
      rw [if_pos rfl, if_neg (by omega), if_pos (Nat.le_refl _), Nat.sub_self]
      show F.getD m 0 + x * y + 0 = F.getD m 0 + x * y
      omega
    · rw [if_neg e]
      by_cases l : k ≤ m
      · rw [if_pos (by omega), if_pos l]
        obtain ⟨j, rfl⟩ : ∃ j, m = k + 1 + j := ⟨m - (k + 1), by omega⟩
        rw [show k + 1 + j - (k + 1) = j by omega, show k + 1 + j - k = j + 1 by omega] <;> rfl
      · rw [if_neg (by omega), if_neg l]
theorem timesF_getD : ∀ (a b : List Int) (k : Nat) (F : List Int) (m : Nat), k + a.length + b.length ≤ F.length + 1 → (timesF a b k F).getD m 0 = F.getD m 0 + (if k ≤ m then conv a b (m - k) else 0)
  | [], b, k, F, m, _ => by
    show F.getD m 0 = _
    split <;> simp [conv]
  | x :: a, b, k, F, m, h => by
    have h : k + (a.length + 1) + b.length ≤ F.length + 1 := h
    show (timesF a b (k + 1) (addRow x b k F)).getD m 0 = _
    rw [timesF_getD a b (k + 1) _ m (by rw [addRow_length]; omega), addRow_getD x b k F m (by omega)]
    by_cases l : k ≤ m
    · rw [if_pos l, if_pos l]
      by_cases e : m = k
      · subst e
        rw [if_neg (by omega), Nat.sub_self]
        show _ = F.getD m 0 + x * b.getD 0 0
        omega
      · obtain ⟨j, rfl⟩ : ∃ j, m = k + 1 + j := ⟨m - (k + 1), by omega⟩
        rw [if_pos (by omega), show k + 1 + j - (k + 1) = j by omega, show k + 1 + j - k = j + 1 by omega]
        show _ = F.getD (k + 1 + j) 0 + (x * b.getD (j + 1) 0 + conv a b j)
        omega
    · rw [if_neg l, if_neg (by omega), if_neg l]
      omega
theorem mulP_getD (a b : List Int) (m : Nat) (h : 0 < a.length + b.length) : (mulP a b).getD m 0 = conv a b m := by
  unfold mulP
  rw [timesF_getD a b 0 _ m (by rw [List.length_replicate]; omega), if_pos (Nat.zero_le _), Nat.sub_zero]
  have : (List.replicate (a.length + b.length - 1) (0 : Int)).getD m 0 = 0 := by
    rw [List.getD_eq_getElem?_getD, List.getElem?_replicate]
    split <;> rfl
  omega
def tmb0 : Ss := (.cons (.augI (.var 2) (.bin .add (.var 3) (.var 5)) .add (.bin .mul (.var 4) (.var 6)))
    .nil)
def tmf0 : S := (.fr (.tp [5, 6]) (.enum (.var 1)) tmb0)
def tmb1 : Ss := (.cons tmf0
   .nil)
def tmf1 : S := (.fr (.tp [3, 4]) (.enum (.var 0)) tmb1)
def dTimes : Df := ⟨2, 7, false,
  (.cons (.asg (.nm 2) (.mk (.rep (.ls (.cons (.cst (.int 0)) .nil)) (.bin .sub (.bin .add (.pri .len (.cons (.var 0) .nil)) (.pri .len (.cons (.var 1) .nil))) (.cst (.int 1))))))
  (.cons tmf1
  (.cons (.ret (.var 2))
  .nil)))⟩
/-- an item of the last list, and a store of one -/
theorem getR_last (S : Sto) (l : List D) (k : Nat) (d : D) (h : l[k]? = some d) : getR (.ref S.length) (.int k) (S ++ [SO.lst l]) = .ok d (S ++ [SO.lst l]) := by
  unfold getR
  simp only [stoL_last]
  show ofO (l[k]?) (S ++ [SO.lst l]) = _
  rw [h] <;> rfl
theorem setI_last (bs : List Nat) (S : Sto) (l : List D) (k : Nat) (d : D) (h : k < l.length) (hd : isDt d = true) (hl : l.length ≤ LIM) : setI bs (.ref S.length) (.int k) d (S ++ [SO.lst l]) = .ok () (S ++ [SO.lst (l.set k d)]) := by
  have e : ixNat l.length (k : Int) = some k := by
    show (if Nat.blt k l.length then some k else none) = _
    rw [if_pos (show Nat.blt k l.length = true from Nat.ble_eq_true_of_le h)]
  unfold setI
  simp only [stoL_last, e]
  show (if (okPut bs S.length d && limL (l.set k d)) = true then R.ok () ((S ++ [SO.lst l]).set S.length (.lst (l.set k d))) else .bad) = _
  have e3 : okPut bs S.length d = true := by
    have := refB_dt 0 d hd
    cases d <;> first | rfl | exact absurd hd Bool.false_ne_true | (show (refB 0 _ || _) = true; rw [this] <;> rfl)
  rw [e3, limL_of (by simpa using hl), set_last] <;> rfl
theorem s_augI (C : Ctx) (bs : List Nat) (v : Vs) (S : Sto) (o i e : E) (p : Op) : xs C bs (.augI o i p e) v S = (ev C o ⟨bs, v⟩ S).b fun x S => (ev C i ⟨bs, v⟩ S).b fun y S => (getR x y S).b fun z S => (ev C e ⟨bs, v⟩ S).b fun w S => (ofO (augD p z w) S).b fun u S => (setI bs x y u S).b fun _ S => .ok ((.nx, v) : Fl × Vs) S := by
  show bnd (ev C o ⟨bs, v⟩) _ S = _
  rw [bnd_b]
  refine b_congr fun x S1 => ?_
  show bnd (ev C i ⟨bs, v⟩) _ S1 = _
  rw [bnd_b]
  refine b_congr fun y S2 => ?_
  show bnd (getR x y) _ S2 = _
  rw [bnd_b]
  refine b_congr fun z S3 => ?_
  show bnd (ev C e ⟨bs, v⟩) _ S3 = _
  rw [bnd_b]
  refine b_congr fun w S4 => ?_
  show bnd (ofO (augD p z w)) _ S4 = _
  rw [bnd_b]
  refine b_congr fun u S5 => ?_
  show bnd (setI bs x y u) _ S5 = _
  rw [bnd_b] <;> rfl
theorem map_getD {F : List Int} {k : Nat} (h : k < F.length) : (F.map D.int)[k]? = some (.int (F.getD k 0)) := by
  rw [List.getElem?_map, List.getElem?_eq_getElem h, List.getD_eq_getElem?_getD, List.getElem?_eq_getElem h] <;> rfl
theorem tm_row (C : Ctx) (bs : List Nat) (S : Sto) (x y : Option D) (i : Nat) (a : Int) (ha : a.natAbs ≤ 1000000000000) : ∀ (b : List Int) (j : Nat) (F : List Int) (u w : Option D), (∀ z ∈ b, z.natAbs ≤ 1000000000000) → i + j + b.length ≤ F.length → F.length ≤ LIM →
    ∃ u' w', forGo (fun x v => match bindT v (.tp [5, 6]) x with
      | some v => xss C bs tmb0 v
      | none => bad) (enumL j (b.map D.int)) [x, y, some (.ref S.length), some (.int i), some (.int a), u, w] (S ++ [.lst (F.map D.int)]) =
      .ok (.nx, [x, y, some (.ref S.length), some (.int i), some (.int a), u', w']) (S ++ [.lst ((addRow a b (i + j) F).map D.int)])
  | [], j, F, u, w, _, _, _ => ⟨u, w, rfl⟩
  | z :: b, j, F, u, w, hb, hl, hm => by
    have hl : i + j + (b.length + 1) ≤ F.length := hl
    obtain ⟨u', w', e⟩ := tm_row C bs S x y i a ha b (j + 1) (F.set (i + j) (F.getD (i + j) 0 + a * z)) (some (.int j)) (some (.int z)) (fun q hq => hb q (List.mem_cons_of_mem _ hq)) (by rw [List.length_set]; omega) (by rw [List.length_set]; exact hm)
    refine ⟨u', w', (forGo_nx ?_).trans e⟩
    show xss C bs tmb0 [x, y, some (.ref S.length), some (.int i), some (.int a), some (.int j), some (.int z)] (S ++ [.lst (F.map D.int)]) = _
    have e1 := getR_last S (F.map D.int) (i + j) _ (map_getD (F := F) (k := i + j) (by omega))
    have e2 := setI_last bs S (F.map D.int) (i + j) (.int (F.getD (i + j) 0 + a * z)) (by rw [List.length_map]; omega) rfl (by rw [List.length_map]; exact hm)
    have i1 : (i : Int) + (j : Int) = ((i + j : Nat) : Int) := by omega
    simp only [tmb0, b_ok, b_ex, b_bad, bnd_b, ret_ap, bad_ap, ofO_some, ofO_none, getV_cons, getV_zero, nxt_nx, nxt_ret, nxt_brk, nxt_cnt, s_nil, s_cons, s_asg, a_nm, s_ex, s_ret, s_retN, s_iff, s_pas, s_brk, s_cnt, s_rai, e_var, e_cst, e_glo, e_bin, negD_int, e_neg, e_cmp, e_chn, notD_bl, e_not, isB_bl, e_and, e_or, and_nil, and_cons, or_nil, or_cons, e_ite, e_tup, limM_b, e_ls, e_mk, l_ls, l_cat, repD_int, l_rep, l_lc, l_of, e_call, e_pri, e_idx, e_lc, e_rev, revTD_tup, e_revT, toI_int, o_none, o_some, e_sli, es_nil, es_cons, t_cmp, t_chn, t_var, t_call, t_pri, t_cst, t_not, t_and, t_or, tand_nil, tand_cons, tor_nil, tor_cons, cond_none, cond_some, tru_bl, tru_int, itOf_lst, itOf_tup, i_seq, i_rg1, i_rg2, enD_lst, enD_tup, i_enum, zipD_lst, zipD_tup, i_zip, s_fr, c_eqI, c_neI, c_ltI, c_leI, c_gtI, c_geI, c_is, c_isn, ar_add, ar_sub, p_lenT, p_lenL, p_tuple, p_tupleT, p_list, p_listL, p_sorted, p_min2, p_max2, p_sumT, p_sumL, p_all, p_any, k_and, k_or, k_andT, k_orT, k_opt, k_lim, beq_nat, lim1, lim0, lim2, lim3, lim4, isTu_tup, isW_int, List.set_cons_zero, List.set_cons_succ, Option.map_some, Option.map_none, cond_true, cond_false, Bool.not_true, Bool.not_false, List.length_cons, List.length_nil, List.length_map, reduceIte, Bool.true_and, Bool.and_true, Bool.false_and, Bool.and_false, Bool.or_true, Bool.true_or, Bool.false_or, Bool.or_false, Bool.false_eq_true, s_augI, i1, e1, aug_add, ar_mul _ ha (hb z List.mem_cons_self), e2, List.map_set]
theorem tm_all (C : Ctx) (bs : List Nat) (S : Sto) (x : Option D) (b : List Int) (hb : ∀ z ∈ b, z.natAbs ≤ 1000000000000) : ∀ (a : List Int) (i : Nat) (F : List Int) (p q u w : Option D), (∀ z ∈ a, z.natAbs ≤ 1000000000000) → i + a.length + b.length ≤ F.length + 1 → F.length ≤ LIM →
    ∃ p' q' u' w', forGo (fun x v => match bindT v (.tp [3, 4]) x with
      | some v => xss C bs tmb1 v
      | none => bad) (enumL i (a.map D.int)) [x, some (.lst (b.map D.int)), some (.ref S.length), p, q, u, w] (S ++ [.lst (F.map D.int)]) =
      .ok (.nx, [x, some (.lst (b.map D.int)), some (.ref S.length), p', q', u', w']) (S ++ [.lst ((timesF a b i F).map D.int)])
  | [], i, F, p, q, u, w, _, _, _ => ⟨p, q, u, w, rfl⟩
  | z :: a, i, F, p, q, u, w, ha, hl, hm => by
    have hl : i + (a.length + 1) + b.length ≤ F.length + 1 := hl
    obtain ⟨u1, w1, e1⟩ := tm_row C bs S x (some (.lst (b.map D.int))) i z (ha z List.mem_cons_self) b 0 F u w hb (by omega) hm
    obtain ⟨p', q', u', w', e⟩ := tm_all C bs S x b hb a (i + 1) (addRow z b i F) (some (.int i)) (some (.int z)) u1 w1 (fun y hy => ha y (List.mem_cons_of_mem _ hy)) (by rw [addRow_length]; omega) (by rw [addRow_length]; exact hm)
    refine ⟨p', q', u', w', (forGo_nx ?_).trans e⟩
    show xss C bs tmb1 [x, some (.lst (b.map D.int)), some (.ref S.length), some (.int i), some (.int z), u, w] (S ++ [.lst (F.map D.int)]) = _
    have e2 : xs C bs tmf0 [x, some (.lst (b.map D.int)), some (.ref S.length), some (.int i), some (.int z), u, w] (S ++ [.lst (F.map D.int)]) = _ := s_for (S1 := S ++ [.lst (F.map D.int)]) (l := enumL 0 (b.map D.int)) (by simp only [b_ok, b_ex, b_bad, bnd_b, ret_ap, bad_ap, ofO_some, ofO_none, getV_cons, getV_zero, nxt_nx, nxt_ret, nxt_brk, nxt_cnt, s_nil, s_cons, s_asg, a_nm, s_ex, s_ret, s_retN, s_iff, s_pas, s_brk, s_cnt, s_rai, e_var, e_cst, e_glo, e_bin, negD_int, e_neg, e_cmp, e_chn, notD_bl, e_not, isB_bl, e_and, e_or, and_nil, and_cons, or_nil, or_cons, e_ite, e_tup, limM_b, e_ls, e_mk, l_ls, l_cat, repD_int, l_rep, l_lc, l_of, e_call, e_pri, e_idx, e_lc, e_rev, revTD_tup, e_revT, toI_int, o_none, o_some, e_sli, es_nil, es_cons, t_cmp, t_chn, t_var, t_call, t_pri, t_cst, t_not, t_and, t_or, tand_nil, tand_cons, tor_nil, tor_cons, cond_none, cond_some, tru_bl, tru_int, itOf_lst, itOf_tup, i_seq, i_rg1, i_rg2, enD_lst, enD_tup, i_enum, zipD_lst, zipD_tup, i_zip, s_fr, c_eqI, c_neI, c_ltI, c_leI, c_gtI, c_geI, c_is, c_isn, ar_add, ar_sub, p_lenT, p_lenL, p_tuple, p_tupleT, p_list, p_listL, p_sorted, p_min2, p_max2, p_sumT, p_sumL, p_all, p_any, k_and, k_or, k_andT, k_orT, k_opt, k_lim, beq_nat, lim1, lim0, lim2, lim3, lim4, isTu_tup, isW_int, List.set_cons_zero, List.set_cons_succ, Option.map_some, Option.map_none, cond_true, cond_false, Bool.not_true, Bool.not_false, List.length_cons, List.length_nil, List.length_map, reduceIte, Bool.true_and, Bool.and_true, Bool.false_and, Bool.and_false, Bool.or_true, Bool.true_or, Bool.false_or, Bool.or_false, Bool.false_eq_true]) e1
    simp only [tmb1, b_ok, b_ex, b_bad, bnd_b, ret_ap, bad_ap, ofO_some, ofO_none, getV_cons, getV_zero, nxt_nx, nxt_ret, nxt_brk, nxt_cnt, s_nil, s_cons, s_asg, a_nm, s_ex, s_ret, s_retN, s_iff, s_pas, s_brk, s_cnt, s_rai, e_var, e_cst, e_glo, e_bin, negD_int, e_neg, e_cmp, e_chn, notD_bl, e_not, isB_bl, e_and, e_or, and_nil, and_cons, or_nil, or_cons, e_ite, e_tup, limM_b, e_ls, e_mk, l_ls, l_cat, repD_int, l_rep, l_lc, l_of, e_call, e_pri, e_idx, e_lc, e_rev, revTD_tup, e_revT, toI_int, o_none, o_some, e_sli, es_nil, es_cons, t_cmp, t_chn, t_var, t_call, t_pri, t_cst, t_not, t_and, t_or, tand_nil, tand_cons, tor_nil, tor_cons, cond_none, cond_some, tru_bl, tru_int, itOf_lst, itOf_tup, i_seq, i_rg1, i_rg2, enD_lst, enD_tup, i_enum, zipD_lst, zipD_tup, i_zip, s_fr, c_eqI, c_neI, c_ltI, c_leI, c_gtI, c_geI, c_is, c_isn, ar_add, ar_sub, p_lenT, p_lenL, p_tuple, p_tupleT, p_list, p_listL, p_sorted, p_min2, p_max2, p_sumT, p_sumL, p_all, p_any, k_and, k_or, k_andT, k_orT, k_opt, k_lim, beq_nat, lim1, lim0, lim2, lim3, lim4, isTu_tup, isW_int, List.set_cons_zero, List.set_cons_succ, Option.map_some, Option.map_none, cond_true, cond_false, Bool.not_true, Bool.not_false, List.length_cons, List.length_nil, List.length_map, reduceIte, Bool.true_and, Bool.and_true, Bool.false_and, Bool.and_false, Bool.or_true, Bool.true_or, Bool.false_or, Bool.or_false, Bool.false_eq_true, e2, Nat.add_zero]
theorem repL_one (d : D) : ∀ n : Nat, repL [d] n = List.replicate n d
  | 0 => rfl
  | n + 1 => by
    show [d] ++ repL [d] n = _
    rw [repL_one d n] <;> rfl
theorem repM_one (S : Sto) (d : D) {n : Nat} (h : n ≤ LIM) : repM S (.lst [d]) (n : Int) = some (List.replicate n d) := by
  show (if Nat.ble (1 * (n : Int).toNat) LIM && okR (n : Int) then some (repL [d] (n : Int).toNat) else none) = _
  have h2 : (n : Int).natAbs ≤ 1000000000 := by have : n ≤ 1000000 := h; omega
  rw [Int.toNat_natCast, Nat.one_mul, Nat.ble_eq_true_of_le h, okR_of h2, repL_one] <;> rfl
theorem times_run (C : Ctx) (bs : List Nat) (S : Sto) (a b : List Int) (ha : ∀ z ∈ a, z.natAbs ≤ 1000000000000) (hb : ∀ z ∈ b, z.natAbs ≤ 1000000000000) (h0 : 0 < a.length + b.length) (hl : a.length + b.length ≤ LIM) :
    runDf C dTimes bs [.lst (a.map D.int), .lst (b.map D.int)] S = .ok (.lst ((mulP a b).map D.int)) S := by
  obtain ⟨p', q', u', w', e⟩ := tm_all C (S.length :: bs) S (some (.lst (a.map D.int))) b hb a 0 (List.replicate (a.length + b.length - 1) 0) none none none none ha (by rw [List.length_replicate]; omega) (by rw [List.length_replicate]; omega)
  refine run_last (v0 := [some (.lst (a.map D.int)), some (.lst (b.map D.int)), none, none, none, none, none]) (v := [some (.lst (a.map D.int)), some (.lst (b.map D.int)), some (.ref S.length), p', q', u', w']) rfl rfl rfl ?_ (dts_map (α := Int) _)
  have e1 : xs C (S.length :: bs) tmf1 [some (.lst (a.map D.int)), some (.lst (b.map D.int)), some (.ref S.length), none, none, none, none] (S ++ [.lst ((List.replicate (a.length + b.length - 1) (0 : Int)).map D.int)]) = _ := s_for (S1 := S ++ [.lst ((List.replicate (a.length + b.length - 1) (0 : Int)).map D.int)]) (l := enumL 0 (a.map D.int)) (by simp only [b_ok, b_ex, b_bad, bnd_b, ret_ap, bad_ap, ofO_some, ofO_none, getV_cons, getV_zero, nxt_nx, nxt_ret, nxt_brk, nxt_cnt, s_nil, s_cons, s_asg, a_nm, s_ex, s_ret, s_retN, s_iff, s_pas, s_brk, s_cnt, s_rai, e_var, e_cst, e_glo, e_bin, negD_int, e_neg, e_cmp, e_chn, notD_bl, e_not, isB_bl, e_and, e_or, and_nil, and_cons, or_nil, or_cons, e_ite, e_tup, limM_b, e_ls, e_mk, l_ls, l_cat, repD_int, l_rep, l_lc, l_of, e_call, e_pri, e_idx, e_lc, e_rev, revTD_tup, e_revT, toI_int, o_none, o_some, e_sli, es_nil, es_cons, t_cmp, t_chn, t_var, t_call, t_pri, t_cst, t_not, t_and, t_or, tand_nil, tand_cons, tor_nil, tor_cons, cond_none, cond_some, tru_bl, tru_int, itOf_lst, itOf_tup, i_seq, i_rg1, i_rg2, enD_lst, enD_tup, i_enum, zipD_lst, zipD_tup, i_zip, s_fr, c_eqI, c_neI, c_ltI, c_leI, c_gtI, c_geI, c_is, c_isn, ar_add, ar_sub, p_lenT, p_lenL, p_tuple, p_tupleT, p_list, p_listL, p_sorted, p_min2, p_max2, p_sumT, p_sumL, p_all, p_any, k_and, k_or, k_andT, k_orT, k_opt, k_lim, beq_nat, lim1, lim0, lim2, lim3, lim4, isTu_tup, isW_int, List.set_cons_zero, List.set_cons_succ, Option.map_some, Option.map_none, cond_true, cond_false, Bool.not_true, Bool.not_false, List.length_cons, List.length_nil, List.length_map, reduceIte, Bool.true_and, Bool.and_true, Bool.false_and, Bool.and_false, Bool.or_true, Bool.true_or, Bool.false_or, Bool.or_false, Bool.false_eq_true]) e
  have i1 : (a.length : Int) + (b.length : Int) - 1 = ((a.length + b.length - 1 : Nat) : Int) := by omega
  have e2 := repM_one S (.int 0) (n := a.length + b.length - 1) (by omega)
  have e3 : List.replicate (a.length + b.length - 1) (D.int 0) = (List.replicate (a.length + b.length - 1) (0 : Int)).map D.int := by rw [List.map_replicate]
  simp only [dTimes, b_ok, b_ex, b_bad, bnd_b, ret_ap, bad_ap, ofO_some, ofO_none, getV_cons, getV_zero, nxt_nx, nxt_ret, nxt_brk, nxt_cnt, s_nil, s_cons, s_asg, a_nm, s_ex, s_ret, s_retN, s_iff, s_pas, s_brk, s_cnt, s_rai, e_var, e_cst, e_glo, e_bin, negD_int, e_neg, e_cmp, e_chn, notD_bl, e_not, isB_bl, e_and, e_or, and_nil, and_cons, or_nil, or_cons, e_ite, e_tup, limM_b, e_ls, e_mk, l_ls, l_cat, repD_int, l_rep, l_lc, l_of, e_call, e_pri, e_idx, e_lc, e_rev, revTD_tup, e_revT, toI_int, o_none, o_some, e_sli, es_nil, es_cons, t_cmp, t_chn, t_var, t_call, t_pri, t_cst, t_not, t_and, t_or, tand_nil, tand_cons, tor_nil, tor_cons, cond_none, cond_some, tru_bl, tru_int, itOf_lst, itOf_tup, i_seq, i_rg1, i_rg2, enD_lst, enD_tup, i_enum, zipD_lst, zipD_tup, i_zip, s_fr, c_eqI, c_neI, c_ltI, c_leI, c_gtI, c_geI, c_is, c_isn, ar_add, ar_sub, p_lenT, p_lenL, p_tuple, p_tupleT, p_list, p_listL, p_sorted, p_min2, p_max2, p_sumT, p_sumL, p_all, p_any, k_and, k_or, k_andT, k_orT, k_opt, k_lim, beq_nat, lim1, lim0, lim2, lim3, lim4, isTu_tup, isW_int, List.set_cons_zero, List.set_cons_succ, Option.map_some, Option.map_none, cond_true, cond_false, Bool.not_true, Bool.not_false, List.length_cons, List.length_nil, List.length_map, reduceIte, Bool.true_and, Bool.and_true, Bool.false_and, Bool.and_false, Bool.or_true, Bool.true_or, Bool.false_or, Bool.or_false, Bool.false_eq_true, i1, e2, e3, e1] <;> rfl
end Ri
set_option maxHeartbeats 0
namespace Ri.G
open PySem PySem.Spec PyProof.Rows L2
abbrev pw : PySem.Program := PySem.Challenge.pw_risesonce_k82_whole_even_chains
def top (i : Nat) : Stmt := pw.main.body.getD i (.Pass ⟨0, 0, 0, 0⟩)
def d0 : Df := ⟨1, 1, false,
  (.cons (.ret (.andN (.cons (.pri (.isi .int) (.cons (.var 0) .nil)) (.cons (.not (.pri (.isi .bool) (.cons (.var 0) .nil))) .nil))))
  .nil)⟩
def d1b0 : Ss := (.cons (.augI (.var 2) (.bin .add (.var 3) (.var 5)) .add (.bin .mul (.var 4) (.var 6)))
    .nil)
def d1f0 : S := (.fr (.tp [5, 6]) (.enum (.var 1)) d1b0)
def d1b1 : Ss := (.cons d1f0
   .nil)
def d1f1 : S := (.fr (.tp [3, 4]) (.enum (.var 0)) d1b1)
def d1 : Df := ⟨2, 7, false,
  (.cons (.asg (.nm 2) (.mk (.rep (.ls (.cons (.cst (.int 0)) .nil)) (.bin .sub (.bin .add (.pri .len (.cons (.var 0) .nil)) (.pri .len (.cons (.var 1) .nil))) (.cst (.int 1))))))
  (.cons d1f1
  (.cons (.ret (.var 2))
  .nil)))⟩
def d2c0 : EC := (.c1 (.chn .le .le (.cst (.int 0)) (.var 2) (.glo 1)) (.nm 2) (.seq (.var 0)) .none)
def d2b0 : Ss := (.cons (.aug 1 .mul (.bin .add (.var 2) (.cst (.int 1))))
   .nil)
def d2f0 : S := (.fr (.nm 2) (.seq (.var 0)) d2b0)
def d2c1 : EC := (.c1 (.call 0 (.cons (.var 2) .nil)) (.nm 2) (.seq (.var 0)) .none)
def d2 : Df := ⟨1, 3, false,
  (.cons (.iff (.orN (.cons (.not (.pri (.isi .tuple) (.cons (.var 0) .nil))) (.cons (.not (.chn .le .le (.cst (.int 1)) (.pri .len (.cons (.var 0) .nil)) (.glo 0))) (.cons (.not (.pri .all (.cons (.lc d2c1) .nil))) .nil)))) (.cons (.ret (.cst (.bl false)))
   .nil) .nil)
  (.cons (.asg (.nm 1) (.cst (.int 1)))
  (.cons d2f0
  (.cons (.ret (.andN (.cons (.pri .all (.cons (.lc d2c0) .nil)) (.cons (.cmp .le (.var 1) (.glo 2)) .nil))))
  .nil))))⟩
def d3 : Df := ⟨1, 1, false,
  (.cons (.iff (.not (.call 2 (.cons (.var 0) .nil))) (.cons (.rai 1 .non)
   .nil) .nil)
  .nil)⟩
def d4c0 : EC := (.c1 (.chn .le .le (.cst (.int 0)) (.var 2) (.var 3)) (.tp [2, 3]) (.zip (.var 1) (.var 0)) .none)
def d4c1 : EC := (.c1 (.call 0 (.cons (.var 2) .nil)) (.nm 2) (.seq (.var 1)) .none)
def d4 : Df := ⟨2, 4, false,
  (.cons (.iff (.orN (.cons (.not (.pri (.isi .tuple) (.cons (.var 1) .nil))) (.cons (.cmp .ne (.pri .len (.cons (.var 1) .nil)) (.pri .len (.cons (.var 0) .nil))) (.cons (.not (.pri .all (.cons (.lc d4c1) .nil))) .nil)))) (.cons (.ret (.cst (.bl false)))
   .nil) .nil)
  (.cons (.ret (.pri .all (.cons (.lc d4c0) .nil)))
  .nil))⟩
def d5c0 : EC := (.c2 (.bin .add (.var 3) (.tup (.cons (.var 4) .nil))) (.nm 3) (.seq (.var 1)) .none (.nm 4) (.rg1 (.bin .add (.var 2) (.cst (.int 1)))) .none)
def d5b0 : Ss := (.cons (.asg (.nm 1) (.lc d5c0))
   .nil)
def d5f0 : S := (.fr (.nm 2) (.seq (.var 0)) d5b0)
def d5 : Df := ⟨1, 5, false,
  (.cons (.asg (.nm 1) (.ls (.cons (.tup .nil) .nil)))
  (.cons d5f0
  (.cons (.ret (.var 1))
  .nil)))⟩
def d6b0 : Ss := (.cons (.asg (.nm 1) (.call 1 (.cons (.var 1) (.cons (.bin .mul (.ls (.cons (.cst (.int 1)) .nil)) (.bin .add (.var 2) (.cst (.int 1)))) .nil))))
   .nil)
def d6f0 : S := (.fr (.nm 2) (.seq (.var 0)) d6b0)
def d6 : Df := ⟨1, 3, false,
  (.cons (.asg (.nm 1) (.ls (.cons (.cst (.int 1)) .nil)))
  (.cons d6f0
  (.cons (.ret (.var 1))
  .nil)))⟩
def d7 : Df := ⟨1, 1, false,
  (.cons (.ex (.call 3 (.cons (.var 0) .nil)))
  (.cons (.ret (.pri .tuple (.cons (.call 6 (.cons (.var 0) .nil)) .nil)))
  .nil))⟩
def d8c0 : EC := (.c1 (.bin .add (.idx (.var 3) (.var 5)) (.tup (.cons (.var 8) .nil))) (.nm 8) (.rg2 (.bin .add (.var 4) (.cst (.int 1))) (.bin .add (.var 1) (.cst (.int 1)))) .none)
def d8c1 : EC := (.c1 (.bin .add (.var 7) (.tup (.cons (.var 4) .nil))) (.nm 7) (.seq (.sli (.var 3) .none (.some (.bin .add (.var 5) (.cst (.int 1)))))) .none)
def d8b0 : Ss := (.cons (.asg (.nm 5) (.bin .sub (.bin .sub (.pri .len (.cons (.var 3) .nil)) (.cst (.int 1))) (.var 4)))
    (.cons (.asg (.nm 6) (.lc d8c1))
    (.cons (.ex (.meth .append (.var 2) (.cons (.pri .tuple (.cons (.bin .add (.var 6) (.lc d8c0)) .nil)) .nil)))
    .nil)))
def d8f0 : S := (.fr (.nm 4) (.rg1 (.bin .add (.pri .min2 (.cons (.bin .sub (.pri .len (.cons (.var 3) .nil)) (.cst (.int 1))) (.cons (.var 1) .nil))) (.cst (.int 1)))) d8b0)
def d8b1 : Ss := (.cons d8f0
   .nil)
def d8f1 : S := (.fr (.nm 3) (.seq (.var 0)) d8b1)
def d8 : Df := ⟨2, 9, false,
  (.cons (.asg (.nm 2) (.mk (.ls .nil)))
  (.cons d8f1
  (.cons (.ret (.var 2))
  .nil)))⟩
def d9b0 : Ss := (.cons (.asg (.nm 1) (.call 8 (.cons (.var 1) (.cons (.var 2) .nil))))
   .nil)
def d9f0 : S := (.fr (.nm 2) (.seq (.var 0)) d9b0)
def d9 : Df := ⟨1, 3, false,
  (.cons (.ex (.call 3 (.cons (.var 0) .nil)))
  (.cons (.asg (.nm 1) (.ls (.cons (.tup (.cons (.tup .nil) .nil)) .nil)))
  (.cons d9f0
  (.cons (.ret (.pri .tuple (.cons (.pri .sorted (.cons (.var 1) .nil)) .nil)))
  .nil))))⟩
def d10c0 : EC := (.c1 (.cmp .le (.var 2) (.var 3)) (.tp [2, 3]) (.zip (.var 0) (.var 1)) .none)
def d10 : Df := ⟨2, 4, false,
  (.cons (.ret (.andN (.cons (.cmp .eq (.pri .sum (.cons (.var 1) .nil)) (.bin .add (.pri .sum (.cons (.var 0) .nil)) (.cst (.int 1)))) (.cons (.pri .all (.cons (.lc d10c0) .nil)) .nil))))
  .nil)⟩
def d11c0 : EC := (.c1 (.call 10 (.cons (.idx (.var 1) (.bin .sub (.var 2) (.cst (.int 1)))) (.cons (.idx (.var 1) (.var 2)) .nil))) (.nm 2) (.rg2 (.cst (.int 1)) (.pri .len (.cons (.var 1) .nil))) .none)
def d11c1 : EC := (.c1 (.call 4 (.cons (.var 0) (.cons (.var 3) .nil))) (.nm 3) (.seq (.var 1)) .none)
def d11 : Df := ⟨2, 4, false,
  (.cons (.iff (.orN (.cons (.not (.pri (.isi .tuple) (.cons (.var 1) .nil))) (.cons (.cmp .eq (.pri .len (.cons (.var 1) .nil)) (.cst (.int 0))) (.cons (.not (.pri .all (.cons (.lc d11c1) .nil))) .nil)))) (.cons (.ret (.cst (.bl false)))
   .nil) .nil)
  (.cons (.iff (.not (.pri .all (.cons (.lc d11c0) .nil))) (.cons (.ret (.cst (.bl false)))
   .nil) .nil)
  (.cons (.ret (.cmp .eq (.bin .add (.pri .sum (.cons (.idx (.var 1) (.cst (.int 0))) .nil)) (.pri .sum (.cons (.idx (.var 1) (.neg (.cst (.int 1)))) .nil))) (.pri .sum (.cons (.var 0) .nil))))
  .nil)))⟩
def d12c0 : EC := (.c2 (.var 4) (.nm 3) (.seq (.var 1)) .none (.nm 4) (.seq (.var 3)) .none)
def d12c1 : EC := (.c1 (.call 11 (.cons (.var 0) (.cons (.var 3) .nil))) (.nm 3) (.seq (.var 1)) .none)
def d12 : Df := ⟨2, 5, false,
  (.cons (.ex (.call 3 (.cons (.var 0) .nil)))
  (.cons (.iff (.orN (.cons (.not (.pri (.isi .tuple) (.cons (.var 1) .nil))) (.cons (.not (.pri .all (.cons (.lc d12c1) .nil))) .nil))) (.cons (.ret (.cst (.bl false)))
   .nil) .nil)
  (.cons (.asg (.nm 2) (.lc d12c0))
  (.cons (.ret (.cmp .eq (.pri .sorted (.cons (.var 2) .nil)) (.call 5 (.cons (.var 0) .nil))))
  .nil))))⟩
def d13c0 : EC := (.c1 (.var 2) (.nm 2) (.seq (.call 5 (.cons (.var 0) .nil))) (.some (.cmp .eq (.pri .sum (.cons (.var 2) .nil)) (.var 1))))
def d13 : Df := ⟨1, 3, false,
  (.cons (.ex (.call 3 (.cons (.var 0) .nil)))
  (.cons (.asg (.nm 1) (.bin .fdiv (.pri .sum (.cons (.var 0) .nil)) (.cst (.int 2))))
  (.cons (.ret (.pri .tuple (.cons (.lc d13c0) .nil)))
  .nil)))⟩
def d14 : Df := ⟨1, 1, false,
  (.cons (.ex (.call 3 (.cons (.var 0) .nil)))
  (.cons (.ret (.pri .max1 (.cons (.call 6 (.cons (.var 0) .nil)) .nil)))
  .nil))⟩
def d15c0 : EC := (.c1 (.var 2) (.nm 2) (.seq (.call 9 (.cons (.var 0) .nil))) (.some (.cmp .isin (.var 1) (.var 2))))
def d15 : Df := ⟨2, 3, false,
  (.cons (.ex (.call 3 (.cons (.var 0) .nil)))
  (.cons (.iff (.not (.call 4 (.cons (.var 0) (.cons (.var 1) .nil)))) (.cons (.rai 1 .non)
   .nil) .nil)
  (.cons (.ret (.idx (.lc d15c0) (.cst (.int 0))))
  .nil)))⟩
def d16c0 : EC := (.c1 (.pri .abs (.cons (.pri .int (.cons (.var 2) .nil)) .nil)) (.nm 2) (.seq (.var 0)) .none)
def d16b0 : Ss := (.cons (.asg (.nm 1) (.bin .mod (.pri .int (.cons (.bin .add (.bin .add (.bin .mul (.var 1) (.cst (.int 48271))) (.bin .mod (.pri .abs (.cons (.pri .int (.cons (.var 2) .nil)) .nil)) (.cst (.int 65521)))) (.cst (.int 1))) .nil)) (.cst (.int 2147483647))))
   .nil)
def d16f0 : S := (.fr (.nm 2) (.seq (.var 0)) d16b0)
def d16 : Df := ⟨1, 3, true,
  (.cons (.asg (.nm 1) (.cst (.int 7)))
  (.cons d16f0
  (.cons (.ret (.mk (.ls (.cons (.lc d16c0) (.cons (.neg (.cst (.int 1))) (.cons (.cst (.int 0)) (.cons (.var 1) .nil)))))))
  .nil)))⟩
def d17 : Df := ⟨2, 3, false,
  (.cons (.iff (.cmp .eq (.idx (.var 0) (.cst (.int 2))) (.cst (.int 0))) (.cons (.asg (.ix (.var 0) (.cst (.int 1))) (.bin .add (.idx (.var 0) (.cst (.int 1))) (.cst (.int 1))))
   (.cons (.iff (.cmp .lt (.idx (.var 0) (.cst (.int 1))) (.pri .len (.cons (.idx (.var 0) (.cst (.int 0))) .nil))) (.cons (.asg (.ix (.var 0) (.cst (.int 2))) (.idx (.idx (.var 0) (.cst (.int 0))) (.idx (.var 0) (.cst (.int 1)))))
    .nil) .nil)
   (.cons (.iff (.cmp .eq (.idx (.var 0) (.cst (.int 2))) (.cst (.int 0))) (.cons (.asg (.ix (.var 0) (.cst (.int 3))) (.bin .mod (.pri .int (.cons (.bin .add (.bin .mul (.idx (.var 0) (.cst (.int 3))) (.cst (.int 48271))) (.cst (.int 11))) .nil)) (.cst (.int 2147483647))))
    (.cons (.asg (.ix (.var 0) (.cst (.int 2))) (.idx (.var 0) (.cst (.int 3))))
    .nil)) .nil)
   .nil))) .nil)
  (.cons (.asg (.nm 2) (.bin .mod (.pri .int (.cons (.idx (.var 0) (.cst (.int 2))) .nil)) (.var 1)))
  (.cons (.asg (.ix (.var 0) (.cst (.int 2))) (.bin .fdiv (.idx (.var 0) (.cst (.int 2))) (.var 1)))
  (.cons (.ret (.var 2))
  .nil))))⟩
def d18 : Df := ⟨1, 1, false,
  (.cons (.ret (.andN (.cons (.pri (.isi .int) (.cons (.var 0) .nil)) (.cons (.not (.pri (.isi .bool) (.cons (.var 0) .nil))) .nil))))
  .nil)⟩
def d19b0 : Ss := (.cons (.asg (.nm 4) (.call 17 (.cons (.var 0) (.cons (.cst (.int 5)) .nil))))
   (.cons (.iff (.cmp .le (.bin .mul (.var 2) (.bin .add (.var 4) (.cst (.int 1)))) (.cst (.int 120))) (.cons (.ex (.meth .append (.var 1) (.cons (.var 4) .nil)))
    (.cons (.asg (.nm 2) (.bin .mul (.var 2) (.bin .add (.var 4) (.cst (.int 1)))))
    .nil)) .nil)
   .nil))
def d19f0 : S := (.fr (.nm 3) (.rg1 (.bin .add (.cst (.int 1)) (.call 17 (.cons (.var 0) (.cons (.cst (.int 5)) .nil))))) d19b0)
def d19 : Df := ⟨1, 5, false,
  (.cons (.asg (.nm 1) (.mk (.ls .nil)))
  (.cons (.asg (.nm 2) (.cst (.int 1)))
  (.cons d19f0
  (.cons (.ret (.ite (.cmp .ne (.var 1) (.ls .nil)) (.pri .tuple (.cons (.var 1) .nil)) (.tup (.cons (.cst (.int 2)) .nil))))
  .nil))))⟩
def d20c0 : EC := (.c1 (.bin .add (.var 4) (.tup (.cons (.var 5) .nil))) (.nm 5) (.rg1 (.bin .add (.var 2) (.cst (.int 1)))) .none)
def d20b0 : Ss := (.cons (.asg (.nm 3) (.bin .add (.var 3) (.lc d20c0)))
    .nil)
def d20f0 : S := (.fr (.nm 4) (.seq (.var 1)) d20b0)
def d20b1 : Ss := (.cons (.asg (.nm 3) (.ls .nil))
   (.cons d20f0
   (.cons (.asg (.nm 1) (.var 3))
   .nil)))
def d20f1 : S := (.fr (.nm 2) (.seq (.var 0)) d20b1)
def d20 : Df := ⟨1, 6, false,
  (.cons (.asg (.nm 1) (.ls (.cons (.tup .nil) .nil)))
  (.cons d20f1
  (.cons (.ret (.var 1))
  .nil)))⟩
def d21c0 : EC := (.c1 (.var 2) (.nm 2) (.rg1 (.pri .len (.cons (.var 0) .nil))) (.some (.cmp .gt (.idx (.var 0) (.var 2)) (.idx (.var 1) (.var 2)))))
def d21 : Df := ⟨2, 3, false,
  (.cons (.ret (.cmp .eq (.lc d21c0) (.ls .nil)))
  .nil)⟩
def d22c0 : EC := (.c1 (.var 2) (.nm 2) (.rg1 (.pri .len (.cons (.var 0) .nil))) (.some (.not (.chn .le .le (.cst (.int 0)) (.idx (.var 1) (.var 2)) (.idx (.var 0) (.var 2))))))
def d22c1 : EC := (.c1 (.var 3) (.nm 3) (.seq (.var 1)) (.some (.not (.call 18 (.cons (.var 3) .nil)))))
def d22 : Df := ⟨2, 4, false,
  (.cons (.iff (.orN (.cons (.not (.pri (.isi .tuple) (.cons (.var 1) .nil))) (.cons (.cmp .ne (.pri .len (.cons (.var 1) .nil)) (.pri .len (.cons (.var 0) .nil))) (.cons (.cmp .ne (.lc d22c1) (.ls .nil)) .nil)))) (.cons (.ret (.cst (.bl false)))
   .nil) .nil)
  (.cons (.ret (.cmp .eq (.lc d22c0) (.ls .nil)))
  .nil))⟩
def d23 : Df := ⟨2, 3, false,
  (.cons (.asg (.nm 2) (.ls (.cons (.cst .non) (.cons (.tup .nil) (.cons (.pri .list (.cons (.var 1) .nil)) (.cons (.tup (.cons (.cst (.int 5)) .nil)) (.cons (.tup (.cons (.neg (.cst (.int 1))) .nil)) (.cons (.tup (.cons (.cst (.bl true)) .nil)) (.cons (.tup (.cons (.cst (.int 4)) (.cons (.cst (.int 4)) (.cons (.cst (.int 4)) (.cons (.cst (.int 4)) .nil))))) (.cons (.bin .mul (.tup (.cons (.cst (.int 1)) .nil)) (.cst (.int 6))) (.cons (.bin .add (.var 1) (.tup (.cons (.cst .non) .nil))) (.cons (.cst (.int 5)) .nil))))))))))))
  (.cons (.ret (.idx (.var 2) (.call 17 (.cons (.var 0) (.cons (.cst (.int 10)) .nil)))))
  .nil))⟩
def d24 : Df := ⟨1, 4, false,
  (.cons (.asg (.tp (.cons (.nm 1) (.cons (.nm 2) (.cons (.nm 3) .nil)))) (.var 0))
  (.cons (.iff (.cmp .eq (.var 1) (.cst (.int 0))) (.cons (.ex (.call 7 (.cons (.var 2) .nil)))
   .nil) (.cons (.iff (.cmp .eq (.var 1) (.cst (.int 1))) (.cons (.ex (.call 9 (.cons (.var 2) .nil)))
    .nil) (.cons (.iff (.cmp .eq (.var 1) (.cst (.int 2))) (.cons (.ex (.call 12 (.cons (.var 2) (.cons (.cst .non) .nil))))
     .nil) (.cons (.iff (.cmp .eq (.var 1) (.cst (.int 3))) (.cons (.ex (.call 13 (.cons (.var 2) .nil)))
      .nil) (.cons (.iff (.cmp .eq (.var 1) (.cst (.int 4))) (.cons (.ex (.call 14 (.cons (.var 2) .nil)))
       .nil) (.cons (.ex (.call 15 (.cons (.var 2) (.cons (.var 3) .nil))))
       .nil))
      .nil))
     .nil))
    .nil))
   .nil))
  .nil))⟩
def d25 : Df := ⟨1, 2, false,
  (.cons (.tri (.cons (.ex (.call 24 (.cons (.var 0) .nil)))
   .nil) [⟨1, some 1, (.retIs (.str "malformed") (.str "other") 0)⟩, ⟨2, some 1, (.retReason .non 0)⟩])
  (.cons (.ret (.cst (.str "none")))
  .nil))⟩
def d26b0 : Ss := (.cons (.iff (.orN (.cons (.cmp .ne (.pri .sum (.cons (.idx (.var 3) (.var 4)) .nil)) (.bin .add (.pri .sum (.cons (.idx (.var 3) (.bin .sub (.var 4) (.cst (.int 1)))) .nil)) (.cst (.int 1)))) (.cons (.not (.call 21 (.cons (.idx (.var 3) (.bin .sub (.var 4) (.cst (.int 1)))) (.cons (.idx (.var 3) (.var 4)) .nil)))) .nil))) (.cons (.ret (.cst (.bl false)))
     .nil) .nil)
    .nil)
def d26f0 : S := (.fr (.nm 4) (.rg2 (.cst (.int 1)) (.pri .len (.cons (.var 3) .nil))) d26b0)
def d26c0 : EC := (.c1 (.var 5) (.nm 5) (.seq (.var 3)) (.some (.not (.call 22 (.cons (.var 0) (.cons (.var 5) .nil))))))
def d26b1 : Ss := (.cons (.iff (.orN (.cons (.not (.pri (.isi .tuple) (.cons (.var 3) .nil))) (.cons (.cmp .eq (.var 3) (.tup .nil)) (.cons (.cmp .ne (.lc d26c0) (.ls .nil)) .nil)))) (.cons (.ret (.cst (.bl false)))
    .nil) .nil)
   (.cons d26f0
   (.cons (.iff (.cmp .ne (.bin .add (.pri .sum (.cons (.idx (.var 3) (.cst (.int 0))) .nil)) (.pri .sum (.cons (.idx (.var 3) (.neg (.cst (.int 1)))) .nil))) (.pri .sum (.cons (.var 0) .nil))) (.cons (.ret (.cst (.bl false)))
    .nil) .nil)
   (.cons (.asg (.nm 2) (.bin .add (.var 2) (.pri .list (.cons (.var 3) .nil))))
   .nil))))
def d26f1 : S := (.fr (.nm 3) (.seq (.var 1)) d26b1)
def d26 : Df := ⟨2, 6, false,
  (.cons (.iff (.not (.pri (.isi .tuple) (.cons (.var 1) .nil))) (.cons (.ret (.cst (.bl false)))
   .nil) .nil)
  (.cons (.asg (.nm 2) (.ls .nil))
  (.cons d26f1
  (.cons (.ret (.cmp .eq (.pri .sorted (.cons (.var 2) .nil)) (.pri .sorted (.cons (.call 20 (.cons (.var 0) .nil)) .nil))))
  .nil))))⟩
def d27 : Df := ⟨2, 11, false,
  (.cons (.asg (.nm 2) (.call 17 (.cons (.var 0) (.cons (.pri .len (.cons (.var 1) .nil)) .nil))))
  (.cons (.asg (.nm 3) (.idx (.var 1) (.var 2)))
  (.cons (.asg (.nm 4) (.call 17 (.cons (.var 0) (.cons (.pri .len (.cons (.var 3) .nil)) .nil))))
  (.cons (.asg (.nm 5) (.idx (.var 3) (.var 4)))
  (.cons (.asg (.nm 6) (.call 17 (.cons (.var 0) (.cons (.pri .len (.cons (.var 5) .nil)) .nil))))
  (.cons (.asg (.nm 7) (.bin .add (.bin .add (.sli (.var 5) .none (.some (.var 6))) (.tup (.cons (.idx (.ls (.cons (.bin .add (.idx (.var 5) (.var 6)) (.cst (.int 1))) (.cons (.bin .sub (.idx (.var 5) (.var 6)) (.cst (.int 1))) (.cons (.cst (.bl true)) (.cons (.cst .non) .nil))))) (.call 17 (.cons (.var 0) (.cons (.cst (.int 4)) .nil)))) .nil))) (.sli (.var 5) (.some (.bin .add (.var 6) (.cst (.int 1)))) .none)))
  (.cons (.asg (.nm 8) (.idx (.ls (.cons (.bin .add (.bin .add (.sli (.var 3) .none (.some (.var 4))) (.tup (.cons (.var 7) .nil))) (.sli (.var 3) (.some (.bin .add (.var 4) (.cst (.int 1)))) .none)) (.cons (.sli (.var 3) .none (.some (.neg (.cst (.int 1))))) (.cons (.bin .add (.var 3) (.sli (.var 3) .none (.some (.cst (.int 1))))) (.cons (.pri .list (.cons (.var 3) .nil)) (.cons (.tup .nil) (.cons (.sli (.var 3) (.some (.cst (.int 1))) .none) (.cons (.cst .non) .nil)))))))) (.call 17 (.cons (.var 0) (.cons (.cst (.int 7)) .nil)))))
  (.cons (.asg (.nm 9) (.bin .add (.bin .add (.sli (.var 1) .none (.some (.var 2))) (.tup (.cons (.sli (.var 3) .none (.some (.var 4))) (.cons (.sli (.var 3) (.some (.var 4)) .none) .nil)))) (.sli (.var 1) (.some (.bin .add (.var 2) (.cst (.int 1)))) .none)))
  (.cons (.asg (.nm 10) (.ls (.cons (.bin .add (.bin .add (.sli (.var 1) .none (.some (.var 2))) (.tup (.cons (.var 8) .nil))) (.sli (.var 1) (.some (.bin .add (.var 2) (.cst (.int 1)))) .none)) (.cons (.sli (.var 1) .none (.some (.neg (.cst (.int 1))))) (.cons (.bin .add (.var 1) (.sli (.var 1) .none (.some (.cst (.int 1))))) (.cons (.pri .list (.cons (.var 1) .nil)) (.cons (.bin .add (.sli (.var 1) (.some (.cst (.int 1))) .none) (.sli (.var 1) .none (.some (.cst (.int 1))))) (.cons (.var 9) .nil))))))))
  (.cons (.ret (.idx (.var 10) (.call 17 (.cons (.var 0) (.cons (.cst (.int 6)) .nil)))))
  .nil))))))))))⟩
def d28s0 : S := (.asg (.nm 1) (.call 16 (.cons (.var 0) .nil)))
def d28s1 : S := (.asg (.nm 2) (.call 19 (.cons (.var 1) .nil)))
def d28s2 : S := (.asg (.nm 3) (.call 20 (.cons (.var 2) .nil)))
def d28s3 : S := (.asg (.nm 4) (.pri .sum (.cons (.var 2) .nil)))
def d28c0 : EC := (.c1 (.var 8) (.nm 8) (.seq (.var 3)) (.some (.cmp .eq (.pri .sum (.cons (.var 8) .nil)) (.var 15))))
def d28c1 : EC := (.c1 (.pri .len (.cons (.lc d28c0) .nil)) (.nm 15) (.rg1 (.bin .add (.var 4) (.cst (.int 1)))) .none)
def d28s4 : S := (.asg (.nm 5) (.pri .tuple (.cons (.lc d28c1) .nil)))
def d28s5 : S := (.iff (.orN (.cons (.cmp .isn (.call 2 (.cons (.var 2) .nil)) (.cst (.bl true))) (.cons (.cmp .ne (.call 7 (.cons (.var 2) .nil)) (.var 5)) .nil))) (.cons (.ret (.cst (.bl false)))
   .nil) .nil)
def d28c2 : EC := (.c1 (.var 15) (.nm 15) (.rg1 (.bin .fdiv (.var 4) (.cst (.int 2)))) (.some (.cmp .gt (.idx (.var 5) (.var 15)) (.idx (.var 5) (.bin .add (.var 15) (.cst (.int 1)))))))
def d28c3 : EC := (.c1 (.var 15) (.nm 15) (.rg1 (.bin .add (.var 4) (.cst (.int 1)))) (.some (.cmp .ne (.idx (.var 5) (.var 15)) (.idx (.var 5) (.bin .sub (.var 4) (.var 15))))))
def d28s6 : S := (.iff (.orN (.cons (.cmp .ne (.lc d28c3) (.ls .nil)) (.cons (.cmp .ne (.lc d28c2) (.ls .nil)) .nil))) (.cons (.ret (.cst (.bl false)))
   .nil) .nil)
def d28c4 : EC := (.c1 (.var 8) (.nm 8) (.seq (.var 3)) (.some (.cmp .eq (.pri .sum (.cons (.var 8) .nil)) (.bin .fdiv (.var 4) (.cst (.int 2))))))
def d28s7 : S := (.asg (.nm 6) (.pri .tuple (.cons (.lc d28c4) .nil)))
def d28s8 : S := (.iff (.orN (.cons (.cmp .ne (.call 13 (.cons (.var 2) .nil)) (.var 6)) (.cons (.cmp .ne (.call 14 (.cons (.var 2) .nil)) (.pri .len (.cons (.var 6) .nil))) .nil))) (.cons (.ret (.cst (.bl false)))
   .nil) .nil)
def d28s9 : S := (.asg (.nm 7) (.call 9 (.cons (.var 2) .nil)))
def d28s10 : S := (.iff (.orN (.cons (.not (.call 26 (.cons (.var 2) (.cons (.var 7) .nil)))) (.cons (.cmp .isn (.call 12 (.cons (.var 2) (.cons (.var 7) .nil))) (.cst (.bl true))) (.cons (.cmp .ne (.pri .len (.cons (.var 7) .nil)) (.pri .len (.cons (.var 6) .nil))) (.cons (.cmp .ne (.pri .list (.cons (.var 7) .nil)) (.pri .sorted (.cons (.var 7) .nil))) .nil))))) (.cons (.ret (.cst (.bl false)))
   .nil) .nil)
def d28s11 : S := (.asg (.nm 8) (.idx (.var 3) (.call 17 (.cons (.var 1) (.cons (.pri .len (.cons (.var 3) .nil)) .nil)))))
def d28c5 : EC := (.c1 (.var 19) (.nm 19) (.seq (.var 7)) (.some (.cmp .isin (.var 8) (.var 19))))
def d28s12 : S := (.iff (.cmp .ne (.call 15 (.cons (.var 2) (.cons (.var 8) .nil))) (.idx (.lc d28c5) (.cst (.int 0)))) (.cons (.ret (.cst (.bl false)))
   .nil) .nil)
def d28c6 : EC := (.c1 (.tup (.cons (.var 8) .nil)) (.nm 8) (.seq (.var 3)) .none)
def d28c7 : EC := (.c1 (.call 27 (.cons (.var 1) (.cons (.var 7) .nil))) (.nm 16) (.rg1 (.cst (.int 6))) .none)
def d28s13 : S := (.asg (.nm 9) (.bin .add (.ls (.cons (.cst .non) (.cons (.tup .nil) (.cons (.var 7) (.cons (.pri .tuple (.cons (.lc d28c6) .nil)) (.cons (.tup (.cons (.pri .tuple (.cons (.var 3) .nil)) .nil)) (.cons (.tup (.cons (.tup .nil) .nil)) (.cons (.cst (.int 5)) .nil)))))))) (.lc d28c7)))
def d28b0 : Ss := (.cons (.asg (.nm 14) (.call 12 (.cons (.var 2) (.cons (.var 10) .nil))))
   (.cons (.iff (.orN (.cons (.not (.pri (.isi .bool) (.cons (.var 14) .nil))) (.cons (.cmp .ne (.var 14) (.call 26 (.cons (.var 2) (.cons (.var 10) .nil)))) .nil))) (.cons (.ret (.cst (.bl false)))
    .nil) .nil)
   .nil))
def d28f0 : S := (.fr (.nm 10) (.seq (.var 9)) d28b0)
def d28s14 : S := d28f0
def d28s15 : S := (.asg (.nm 11) (.call 23 (.cons (.var 1) (.cons (.var 2) .nil))))
def d28s16 : S := (.iff (.cmp .isn (.call 2 (.cons (.var 11) .nil)) (.cst (.bl false))) (.cons (.ret (.cst (.bl false)))
   .nil) .nil)
def d28s17 : S := (.asg (.nm 12) (.idx (.ls (.cons (.cst .non) (.cons (.bin .add (.var 8) (.tup (.cons (.cst (.int 0)) .nil))) (.cons (.bin .add (.sli (.var 8) .none (.some (.neg (.cst (.int 1))))) (.tup (.cons (.cst (.int 5)) .nil))) (.cons (.pri .list (.cons (.var 8) .nil)) (.cons (.bin .add (.sli (.var 8) .none (.some (.neg (.cst (.int 1))))) (.tup (.cons (.neg (.cst (.int 1))) .nil))) (.cons (.bin .mul (.tup (.cons (.cst (.bl true)) .nil)) (.pri .len (.cons (.var 2) .nil))) .nil))))))) (.call 17 (.cons (.var 1) (.cons (.cst (.int 6)) .nil)))))
def d28c8 : EC := (.c1 (.tup (.cons (.var 17) (.cons (.var 11) (.cons (.var 8) .nil)))) (.nm 17) (.rg1 (.cst (.int 6))) .none)
def d28s18 : S := (.asg (.nm 13) (.bin .add (.lc d28c8) (.ls (.cons (.tup (.cons (.cst (.int 5)) (.cons (.var 2) (.cons (.var 12) .nil)))) .nil))))
def d28c9 : EC := (.c1 (.var 18) (.nm 18) (.seq (.var 13)) (.some (.cmp .ne (.call 25 (.cons (.var 18) .nil)) (.cst (.str "malformed")))))
def d28s19 : S := (.ret (.cmp .eq (.lc d28c9) (.ls .nil)))
def d28 : Df := ⟨1, 20, false,
  (.cons d28s0 (.cons d28s1 (.cons d28s2 (.cons d28s3 (.cons d28s4 (.cons d28s5 (.cons d28s6 (.cons d28s7 (.cons d28s8 (.cons d28s9 (.cons d28s10 (.cons d28s11 (.cons d28s12 (.cons d28s13 (.cons d28s14 (.cons d28s15 (.cons d28s16 (.cons d28s17 (.cons d28s18 (.cons d28s19 .nil))))))))))))))))))))⟩
def D0 : Dd := ⟨"is_whole", defArgs (top 5), defBody (top 5), defScope (top 5), ["value"], ["value"], d0⟩
def D1 : Dd := ⟨"times_of", defArgs (top 7), defBody (top 7), defScope (top 7), ["one", "two", "found", "i", "a", "j", "b"], ["one", "two"], d1⟩
def D2 : Dd := ⟨"is_box", defArgs (top 12), defBody (top 12), defScope (top 12), ["value", "points", "item"], ["value"], d2⟩
def D3 : Dd := ⟨"check_box", defArgs (top 13), defBody (top 13), defScope (top 13), ["value"], ["value"], d3⟩
def D4 : Dd := ⟨"is_point", defArgs (top 14), defBody (top 14), defScope (top 14), ["box", "value", "item", "side"], ["box", "value"], d4⟩
def D5 : Dd := ⟨"points_of", defArgs (top 15), defBody (top 15), defScope (top 15), ["box", "found", "side", "point", "item"], ["box"], d5⟩
def D6 : Dd := ⟨"rank_items", defArgs (top 16), defBody (top 16), defScope (top 16), ["box", "found", "side"], ["box"], d6⟩
def D7 : Dd := ⟨"rank_row", defArgs (top 17), defBody (top 17), defScope (top 17), ["box"], ["box"], d7⟩
def D8 : Dd := ⟨"longer_chains", defArgs (top 18), defBody (top 18), defScope (top 18), ["chains", "side", "found", "chain", "start", "last", "row", "point", "item"], ["chains", "side"], d8⟩
def D9 : Dd := ⟨"even_chains", defArgs (top 19), defBody (top 19), defScope (top 19), ["box", "found", "side"], ["box"], d9⟩
def D10 : Dd := ⟨"is_step_up", defArgs (top 20), defBody (top 20), defScope (top 20), ["one", "two", "a", "b"], ["one", "two"], d10⟩
def D11 : Dd := ⟨"is_even_chain", defArgs (top 21), defBody (top 21), defScope (top 21), ["box", "value", "k", "point"], ["box", "value"], d11⟩
def D12 : Dd := ⟨"takes_chains", defArgs (top 22), defBody (top 22), defScope (top 22), ["box", "value", "points", "chain", "point"], ["box", "value"], d12⟩
def D13 : Dd := ⟨"middle_points", defArgs (top 23), defBody (top 23), defScope (top 23), ["box", "half", "point"], ["box"], d13⟩
def D14 : Dd := ⟨"many_without_order", defArgs (top 24), defBody (top 24), defScope (top 24), ["box"], ["box"], d14⟩
def D15 : Dd := ⟨"chain_through", defArgs (top 25), defBody (top 25), defScope (top 25), ["box", "point", "chain"], ["box", "point"], d15⟩
def D16 : Dd := ⟨"_law_draw", defArgs (top 27), defBody (top 27), defScope (top 27), ["script", "seed", "cell"], ["script"], d16⟩
def D17 : Dd := ⟨"_law_take", defArgs (top 28), defBody (top 28), defScope (top 28), ["draw", "many", "found"], ["draw", "many"], d17⟩
def D18 : Dd := ⟨"_law_whole", defArgs (top 29), defBody (top 29), defScope (top 29), ["value"], ["value"], d18⟩
def D19 : Dd := ⟨"_law_box", defArgs (top 30), defBody (top 30), defScope (top 30), ["draw", "box", "points", "turn", "side"], ["draw"], d19⟩
def D20 : Dd := ⟨"_law_points", defArgs (top 31), defBody (top 31), defScope (top 31), ["box", "found", "side", "longer", "point", "k"], ["box"], d20⟩
def D21 : Dd := ⟨"_law_under", defArgs (top 32), defBody (top 32), defScope (top 32), ["one", "two", "k"], ["one", "two"], d21⟩
def D22 : Dd := ⟨"_law_is_point", defArgs (top 33), defBody (top 33), defScope (top 33), ["box", "value", "k", "item"], ["box", "value"], d22⟩
def D23 : Dd := ⟨"_law_not_box", defArgs (top 34), defBody (top 34), defScope (top 34), ["draw", "box", "found"], ["draw", "box"], d23⟩
def D24 : Dd := ⟨"_law_call", defArgs (top 35), defBody (top 35), defScope (top 35), ["call", "which", "box", "point"], ["call"], d24⟩
def D25 : Dd := ⟨"_law_word", defArgs (top 36), defBody (top 36), defScope (top 36), ["call", "e"], ["call"], d25⟩
def D26 : Dd := ⟨"_law_are_chains", defArgs (top 37), defBody (top 37), defScope (top 37), ["box", "value", "seen", "chain", "k", "point"], ["box", "value"], d26⟩
def D27 : Dd := ⟨"_law_bent", defArgs (top 38), defBody (top 38), defScope (top 38), ["draw", "chains", "k", "chain", "j", "point", "i", "other", "row", "parted", "found"], ["draw", "chains"], d27⟩
def D28 : Dd := ⟨"law", defArgs (top 39), defBody (top 39), defScope (top 39), ["script", "draw", "box", "points", "whole", "row", "middle", "chains", "point", "values", "value", "bad", "odd", "calls", "said", "k", "turn", "which", "call", "chain"], ["script"], d28⟩
def dds : List Dd := [D0, D1, D2, D3, D4, D5, D6, D7, D8, D9, D10, D11, D12, D13, D14, D15, D16, D17, D18, D19, D20, D21, D22, D23, D24, D25, D26, D27, D28]
def tb : Tab where
  rz := [1]
  fnm := dds.map (·.x)
  gnm := ["MOST_SIDES", "MOST_SIDE", "MOST_POINTS"]
  cnm := ["Fault", "Malformed", "Refused"]
def sub (c h : Nat) : Option Bool := match c, h with
  | 1, 0 => some true
  | 1, 1 => some true
  | 1, 2 => some false
  | _, _ => none
def pg : Prog where
  df := dds.map (·.df)
  glo := [(.int 5), (.int 4), (.int 400)]
  sub := sub
theorem ck0 : ckDd tb D0 = true := by decide +kernel
theorem ck1 : ckDd tb D1 = true := by decide +kernel
theorem ck2 : ckDd tb D2 = true := by decide +kernel
theorem ck3 : ckDd tb D3 = true := by decide +kernel
theorem ck4 : ckDd tb D4 = true := by decide +kernel
theorem ck5 : ckDd tb D5 = true := by decide +kernel
theorem ck6 : ckDd tb D6 = true := by decide +kernel
theorem ck7 : ckDd tb D7 = true := by decide +kernel
theorem ck8 : ckDd tb D8 = true := by decide +kernel
theorem ck9 : ckDd tb D9 = true := by decide +kernel
theorem ck10 : ckDd tb D10 = true := by decide +kernel
theorem ck11 : ckDd tb D11 = true := by decide +kernel
theorem ck12 : ckDd tb D12 = true := by decide +kernel
theorem ck13 : ckDd tb D13 = true := by decide +kernel
theorem ck14 : ckDd tb D14 = true := by decide +kernel
theorem ck15 : ckDd tb D15 = true := by decide +kernel
theorem ck16 : ckDd tb D16 = true := by decide +kernel
theorem ck17 : ckDd tb D17 = true := by decide +kernel
theorem ck18 : ckDd tb D18 = true := by decide +kernel
theorem ck19 : ckDd tb D19 = true := by decide +kernel
theorem ck20 : ckDd tb D20 = true := by decide +kernel
theorem ck21 : ckDd tb D21 = true := by decide +kernel
theorem ck22 : ckDd tb D22 = true := by decide +kernel
theorem ck23 : ckDd tb D23 = true := by decide +kernel
theorem ck24 : ckDd tb D24 = true := by decide +kernel
theorem ck25 : ckDd tb D25 = true := by decide +kernel
theorem ck26 : ckDd tb D26 = true := by decide +kernel
theorem ck27 : ckDd tb D27 = true := by decide +kernel
theorem ck28 : ckDd tb D28 = true := by decide +kernel
theorem ck : ∀ (i : Nat) (d : Dd), dds[i]? = some d → ckDd tb d = true
  | 0, d, h => (Option.some.inj (show some D0 = some d from h)) ▸ ck0
  | 1, d, h => (Option.some.inj (show some D1 = some d from h)) ▸ ck1
  | 2, d, h => (Option.some.inj (show some D2 = some d from h)) ▸ ck2
  | 3, d, h => (Option.some.inj (show some D3 = some d from h)) ▸ ck3
  | 4, d, h => (Option.some.inj (show some D4 = some d from h)) ▸ ck4
  | 5, d, h => (Option.some.inj (show some D5 = some d from h)) ▸ ck5
  | 6, d, h => (Option.some.inj (show some D6 = some d from h)) ▸ ck6
  | 7, d, h => (Option.some.inj (show some D7 = some d from h)) ▸ ck7
  | 8, d, h => (Option.some.inj (show some D8 = some d from h)) ▸ ck8
  | 9, d, h => (Option.some.inj (show some D9 = some d from h)) ▸ ck9
  | 10, d, h => (Option.some.inj (show some D10 = some d from h)) ▸ ck10
  | 11, d, h => (Option.some.inj (show some D11 = some d from h)) ▸ ck11
  | 12, d, h => (Option.some.inj (show some D12 = some d from h)) ▸ ck12
  | 13, d, h => (Option.some.inj (show some D13 = some d from h)) ▸ ck13
  | 14, d, h => (Option.some.inj (show some D14 = some d from h)) ▸ ck14
  | 15, d, h => (Option.some.inj (show some D15 = some d from h)) ▸ ck15
  | 16, d, h => (Option.some.inj (show some D16 = some d from h)) ▸ ck16
  | 17, d, h => (Option.some.inj (show some D17 = some d from h)) ▸ ck17
  | 18, d, h => (Option.some.inj (show some D18 = some d from h)) ▸ ck18
  | 19, d, h => (Option.some.inj (show some D19 = some d from h)) ▸ ck19
  | 20, d, h => (Option.some.inj (show some D20 = some d from h)) ▸ ck20
  | 21, d, h => (Option.some.inj (show some D21 = some d from h)) ▸ ck21
  | 22, d, h => (Option.some.inj (show some D22 = some d from h)) ▸ ck22
  | 23, d, h => (Option.some.inj (show some D23 = some d from h)) ▸ ck23
  | 24, d, h => (Option.some.inj (show some D24 = some d from h)) ▸ ck24
  | 25, d, h => (Option.some.inj (show some D25 = some d from h)) ▸ ck25
  | 26, d, h => (Option.some.inj (show some D26 = some d from h)) ▸ ck26
  | 27, d, h => (Option.some.inj (show some D27 = some d from h)) ▸ ck27
  | 28, d, h => (Option.some.inj (show some D28 = some d from h)) ▸ ck28
  | _ + 29, d, h => by cases h
theorem bn0 : ∀ (kV doc pm : Value) (an : Option Addr) (cdv ct : Value) (us : List Value), us.length = D0.ps.length → bindArgs (PySem.W.fnOf D0.x D0.x D0.params D0.body D0.scope .none kV doc pm an cdv ct) ⟨us, []⟩ = pure (D0.ps.zip us) := fun _ _ _ _ _ _ us hl => match us, hl with | [_], _ => rfl
theorem bn1 : ∀ (kV doc pm : Value) (an : Option Addr) (cdv ct : Value) (us : List Value), us.length = D1.ps.length → bindArgs (PySem.W.fnOf D1.x D1.x D1.params D1.body D1.scope .none kV doc pm an cdv ct) ⟨us, []⟩ = pure (D1.ps.zip us) := fun _ _ _ _ _ _ us hl => match us, hl with | [_, _], _ => rfl
theorem bn2 : ∀ (kV doc pm : Value) (an : Option Addr) (cdv ct : Value) (us : List Value), us.length = D2.ps.length → bindArgs (PySem.W.fnOf D2.x D2.x D2.params D2.body D2.scope .none kV doc pm an cdv ct) ⟨us, []⟩ = pure (D2.ps.zip us) := fun _ _ _ _ _ _ us hl => match us, hl with | [_], _ => rfl
theorem bn3 : ∀ (kV doc pm : Value) (an : Option Addr) (cdv ct : Value) (us : List Value), us.length = D3.ps.length → bindArgs (PySem.W.fnOf D3.x D3.x D3.params D3.body D3.scope .none kV doc pm an cdv ct) ⟨us, []⟩ = pure (D3.ps.zip us) := fun _ _ _ _ _ _ us hl => match us, hl with | [_], _ => rfl
theorem bn4 : ∀ (kV doc pm : Value) (an : Option Addr) (cdv ct : Value) (us : List Value), us.length = D4.ps.length → bindArgs (PySem.W.fnOf D4.x D4.x D4.params D4.body D4.scope .none kV doc pm an cdv ct) ⟨us, []⟩ = pure (D4.ps.zip us) := fun _ _ _ _ _ _ us hl => match us, hl with | [_, _], _ => rfl
theorem bn5 : ∀ (kV doc pm : Value) (an : Option Addr) (cdv ct : Value) (us : List Value), us.length = D5.ps.length → bindArgs (PySem.W.fnOf D5.x D5.x D5.params D5.body D5.scope .none kV doc pm an cdv ct) ⟨us, []⟩ = pure (D5.ps.zip us) := fun _ _ _ _ _ _ us hl => match us, hl with | [_], _ => rfl
theorem bn6 : ∀ (kV doc pm : Value) (an : Option Addr) (cdv ct : Value) (us : List Value), us.length = D6.ps.length → bindArgs (PySem.W.fnOf D6.x D6.x D6.params D6.body D6.scope .none kV doc pm an cdv ct) ⟨us, []⟩ = pure (D6.ps.zip us) := fun _ _ _ _ _ _ us hl => match us, hl with | [_], _ => rfl
theorem bn7 : ∀ (kV doc pm : Value) (an : Option Addr) (cdv ct : Value) (us : List Value), us.length = D7.ps.length → bindArgs (PySem.W.fnOf D7.x D7.x D7.params D7.body D7.scope .none kV doc pm an cdv ct) ⟨us, []⟩ = pure (D7.ps.zip us) := fun _ _ _ _ _ _ us hl => match us, hl with | [_], _ => rfl
theorem bn8 : ∀ (kV doc pm : Value) (an : Option Addr) (cdv ct : Value) (us : List Value), us.length = D8.ps.length → bindArgs (PySem.W.fnOf D8.x D8.x D8.params D8.body D8.scope .none kV doc pm an cdv ct) ⟨us, []⟩ = pure (D8.ps.zip us) := fun _ _ _ _ _ _ us hl => match us, hl with | [_, _], _ => rfl
theorem bn9 : ∀ (kV doc pm : Value) (an : Option Addr) (cdv ct : Value) (us : List Value), us.length = D9.ps.length → bindArgs (PySem.W.fnOf D9.x D9.x D9.params D9.body D9.scope .none kV doc pm an cdv ct) ⟨us, []⟩ = pure (D9.ps.zip us) := fun _ _ _ _ _ _ us hl => match us, hl with | [_], _ => rfl
theorem bn10 : ∀ (kV doc pm : Value) (an : Option Addr) (cdv ct : Value) (us : List Value), us.length = D10.ps.length → bindArgs (PySem.W.fnOf D10.x D10.x D10.params D10.body D10.scope .none kV doc pm an cdv ct) ⟨us, []⟩ = pure (D10.ps.zip us) := fun _ _ _ _ _ _ us hl => match us, hl with | [_, _], _ => rfl
theorem bn11 : ∀ (kV doc pm : Value) (an : Option Addr) (cdv ct : Value) (us : List Value), us.length = D11.ps.length → bindArgs (PySem.W.fnOf D11.x D11.x D11.params D11.body D11.scope .none kV doc pm an cdv ct) ⟨us, []⟩ = pure (D11.ps.zip us) := fun _ _ _ _ _ _ us hl => match us, hl with | [_, _], _ => rfl
theorem bn12 : ∀ (kV doc pm : Value) (an : Option Addr) (cdv ct : Value) (us : List Value), us.length = D12.ps.length → bindArgs (PySem.W.fnOf D12.x D12.x D12.params D12.body D12.scope .none kV doc pm an cdv ct) ⟨us, []⟩ = pure (D12.ps.zip us) := fun _ _ _ _ _ _ us hl => match us, hl with | [_, _], _ => rfl
theorem bn13 : ∀ (kV doc pm : Value) (an : Option Addr) (cdv ct : Value) (us : List Value), us.length = D13.ps.length → bindArgs (PySem.W.fnOf D13.x D13.x D13.params D13.body D13.scope .none kV doc pm an cdv ct) ⟨us, []⟩ = pure (D13.ps.zip us) := fun _ _ _ _ _ _ us hl => match us, hl with | [_], _ => rfl
theorem bn14 : ∀ (kV doc pm : Value) (an : Option Addr) (cdv ct : Value) (us : List Value), us.length = D14.ps.length → bindArgs (PySem.W.fnOf D14.x D14.x D14.params D14.body D14.scope .none kV doc pm an cdv ct) ⟨us, []⟩ = pure (D14.ps.zip us) := fun _ _ _ _ _ _ us hl => match us, hl with | [_], _ => rfl
theorem bn15 : ∀ (kV doc pm : Value) (an : Option Addr) (cdv ct : Value) (us : List Value), us.length = D15.ps.length → bindArgs (PySem.W.fnOf D15.x D15.x D15.params D15.body D15.scope .none kV doc pm an cdv ct) ⟨us, []⟩ = pure (D15.ps.zip us) := fun _ _ _ _ _ _ us hl => match us, hl with | [_, _], _ => rfl
theorem bn16 : ∀ (kV doc pm : Value) (an : Option Addr) (cdv ct : Value) (us : List Value), us.length = D16.ps.length → bindArgs (PySem.W.fnOf D16.x D16.x D16.params D16.body D16.scope .none kV doc pm an cdv ct) ⟨us, []⟩ = pure (D16.ps.zip us) := fun _ _ _ _ _ _ us hl => match us, hl with | [_], _ => rfl
theorem bn17 : ∀ (kV doc pm : Value) (an : Option Addr) (cdv ct : Value) (us : List Value), us.length = D17.ps.length → bindArgs (PySem.W.fnOf D17.x D17.x D17.params D17.body D17.scope .none kV doc pm an cdv ct) ⟨us, []⟩ = pure (D17.ps.zip us) := fun _ _ _ _ _ _ us hl => match us, hl with | [_, _], _ => rfl
theorem bn18 : ∀ (kV doc pm : Value) (an : Option Addr) (cdv ct : Value) (us : List Value), us.length = D18.ps.length → bindArgs (PySem.W.fnOf D18.x D18.x D18.params D18.body D18.scope .none kV doc pm an cdv ct) ⟨us, []⟩ = pure (D18.ps.zip us) := fun _ _ _ _ _ _ us hl => match us, hl with | [_], _ => rfl
theorem bn19 : ∀ (kV doc pm : Value) (an : Option Addr) (cdv ct : Value) (us : List Value), us.length = D19.ps.length → bindArgs (PySem.W.fnOf D19.x D19.x D19.params D19.body D19.scope .none kV doc pm an cdv ct) ⟨us, []⟩ = pure (D19.ps.zip us) := fun _ _ _ _ _ _ us hl => match us, hl with | [_], _ => rfl
theorem bn20 : ∀ (kV doc pm : Value) (an : Option Addr) (cdv ct : Value) (us : List Value), us.length = D20.ps.length → bindArgs (PySem.W.fnOf D20.x D20.x D20.params D20.body D20.scope .none kV doc pm an cdv ct) ⟨us, []⟩ = pure (D20.ps.zip us) := fun _ _ _ _ _ _ us hl => match us, hl with | [_], _ => rfl
theorem bn21 : ∀ (kV doc pm : Value) (an : Option Addr) (cdv ct : Value) (us : List Value), us.length = D21.ps.length → bindArgs (PySem.W.fnOf D21.x D21.x D21.params D21.body D21.scope .none kV doc pm an cdv ct) ⟨us, []⟩ = pure (D21.ps.zip us) := fun _ _ _ _ _ _ us hl => match us, hl with | [_, _], _ => rfl
theorem bn22 : ∀ (kV doc pm : Value) (an : Option Addr) (cdv ct : Value) (us : List Value), us.length = D22.ps.length → bindArgs (PySem.W.fnOf D22.x D22.x D22.params D22.body D22.scope .none kV doc pm an cdv ct) ⟨us, []⟩ = pure (D22.ps.zip us) := fun _ _ _ _ _ _ us hl => match us, hl with | [_, _], _ => rfl
theorem bn23 : ∀ (kV doc pm : Value) (an : Option Addr) (cdv ct : Value) (us : List Value), us.length = D23.ps.length → bindArgs (PySem.W.fnOf D23.x D23.x D23.params D23.body D23.scope .none kV doc pm an cdv ct) ⟨us, []⟩ = pure (D23.ps.zip us) := fun _ _ _ _ _ _ us hl => match us, hl with | [_, _], _ => rfl
theorem bn24 : ∀ (kV doc pm : Value) (an : Option Addr) (cdv ct : Value) (us : List Value), us.length = D24.ps.length → bindArgs (PySem.W.fnOf D24.x D24.x D24.params D24.body D24.scope .none kV doc pm an cdv ct) ⟨us, []⟩ = pure (D24.ps.zip us) := fun _ _ _ _ _ _ us hl => match us, hl with | [_], _ => rfl
theorem bn25 : ∀ (kV doc pm : Value) (an : Option Addr) (cdv ct : Value) (us : List Value), us.length = D25.ps.length → bindArgs (PySem.W.fnOf D25.x D25.x D25.params D25.body D25.scope .none kV doc pm an cdv ct) ⟨us, []⟩ = pure (D25.ps.zip us) := fun _ _ _ _ _ _ us hl => match us, hl with | [_], _ => rfl
theorem bn26 : ∀ (kV doc pm : Value) (an : Option Addr) (cdv ct : Value) (us : List Value), us.length = D26.ps.length → bindArgs (PySem.W.fnOf D26.x D26.x D26.params D26.body D26.scope .none kV doc pm an cdv ct) ⟨us, []⟩ = pure (D26.ps.zip us) := fun _ _ _ _ _ _ us hl => match us, hl with | [_, _], _ => rfl
theorem bn27 : ∀ (kV doc pm : Value) (an : Option Addr) (cdv ct : Value) (us : List Value), us.length = D27.ps.length → bindArgs (PySem.W.fnOf D27.x D27.x D27.params D27.body D27.scope .none kV doc pm an cdv ct) ⟨us, []⟩ = pure (D27.ps.zip us) := fun _ _ _ _ _ _ us hl => match us, hl with | [_, _], _ => rfl
theorem bn28 : ∀ (kV doc pm : Value) (an : Option Addr) (cdv ct : Value) (us : List Value), us.length = D28.ps.length → bindArgs (PySem.W.fnOf D28.x D28.x D28.params D28.body D28.scope .none kV doc pm an cdv ct) ⟨us, []⟩ = pure (D28.ps.zip us) := fun _ _ _ _ _ _ us hl => match us, hl with | [_], _ => rfl
theorem bn : ∀ (i : Nat) (d : Dd), dds[i]? = some d → ∀ (kV doc pm : Value) (an : Option Addr) (cdv ct : Value) (us : List Value), us.length = d.ps.length → bindArgs (PySem.W.fnOf d.x d.x d.params d.body d.scope .none kV doc pm an cdv ct) ⟨us, []⟩ = pure (d.ps.zip us)
  | 0, d, h => (Option.some.inj (show some D0 = some d from h)) ▸ bn0
  | 1, d, h => (Option.some.inj (show some D1 = some d from h)) ▸ bn1
  | 2, d, h => (Option.some.inj (show some D2 = some d from h)) ▸ bn2
  | 3, d, h => (Option.some.inj (show some D3 = some d from h)) ▸ bn3
  | 4, d, h => (Option.some.inj (show some D4 = some d from h)) ▸ bn4
  | 5, d, h => (Option.some.inj (show some D5 = some d from h)) ▸ bn5
  | 6, d, h => (Option.some.inj (show some D6 = some d from h)) ▸ bn6
  | 7, d, h => (Option.some.inj (show some D7 = some d from h)) ▸ bn7
  | 8, d, h => (Option.some.inj (show some D8 = some d from h)) ▸ bn8
  | 9, d, h => (Option.some.inj (show some D9 = some d from h)) ▸ bn9
  | 10, d, h => (Option.some.inj (show some D10 = some d from h)) ▸ bn10
  | 11, d, h => (Option.some.inj (show some D11 = some d from h)) ▸ bn11
  | 12, d, h => (Option.some.inj (show some D12 = some d from h)) ▸ bn12
  | 13, d, h => (Option.some.inj (show some D13 = some d from h)) ▸ bn13
  | 14, d, h => (Option.some.inj (show some D14 = some d from h)) ▸ bn14
  | 15, d, h => (Option.some.inj (show some D15 = some d from h)) ▸ bn15
  | 16, d, h => (Option.some.inj (show some D16 = some d from h)) ▸ bn16
  | 17, d, h => (Option.some.inj (show some D17 = some d from h)) ▸ bn17
  | 18, d, h => (Option.some.inj (show some D18 = some d from h)) ▸ bn18
  | 19, d, h => (Option.some.inj (show some D19 = some d from h)) ▸ bn19
  | 20, d, h => (Option.some.inj (show some D20 = some d from h)) ▸ bn20
  | 21, d, h => (Option.some.inj (show some D21 = some d from h)) ▸ bn21
  | 22, d, h => (Option.some.inj (show some D22 = some d from h)) ▸ bn22
  | 23, d, h => (Option.some.inj (show some D23 = some d from h)) ▸ bn23
  | 24, d, h => (Option.some.inj (show some D24 = some d from h)) ▸ bn24
  | 25, d, h => (Option.some.inj (show some D25 = some d from h)) ▸ bn25
  | 26, d, h => (Option.some.inj (show some D26 = some d from h)) ▸ bn26
  | 27, d, h => (Option.some.inj (show some D27 = some d from h)) ▸ bn27
  | 28, d, h => (Option.some.inj (show some D28 = some d from h)) ▸ bn28
  | _ + 29, d, h => by cases h
theorem still : Still tb pg dds := ⟨rfl, rfl, ck, bn⟩
abbrev Rw : PySem.W.OpenRow := PySem.W.OpenLaw.row PySem.Challenge.rw_risesonce_k82_whole_even_chains
abbrev qv : Program := PySem.W.view Rw.prog [39]
def nm0 : List PySem.Str := ["Fault", "Malformed", "Refused", "is_whole", "times_of", "MOST_SIDES", "MOST_SIDE", "MOST_POINTS", "is_box", "check_box", "is_point", "points_of", "rank_items", "rank_row", "longer_chains", "even_chains", "is_step_up", "is_even_chain", "takes_chains", "middle_points", "many_without_order", "chain_through", "_law_draw", "_law_take", "_law_whole", "_law_box", "_law_points", "_law_under", "_law_is_point", "_law_not_box"]
def nm1 : List PySem.Str := ["_law_call", "_law_word", "_law_are_chains", "_law_bent"]
def names : List PySem.Str := nm0 ++ nm1
abbrev dp : Nat := 4
theorem run (w : World) : HandSHeadRun.RunEq Rw qv (hookR dp tb pg dds) (obR dp tb pg dds) 4000 names w := by
  intro os
  kernel_rfl
end Ri.G
set_option maxHeartbeats 1000000
namespace Ri.G
open Ri PySem
open Ri.Enc (enc)
abbrev FU : Nat := 1000
abbrev Fn (n i : Nat) (bs : List Nat) (ds : List D) (S : Sto) : R D := callF pg FU n i bs ds S
abbrev pt (p : List Int) : D := .tup (p.map D.int)
abbrev bx (b : List Nat) : D := .tup (b.map fun (n : Nat) => D.int n)
theorem bx_pt (b : List Nat) : bx b = pt (b.map fun (n : Nat) => (n : Int)) := by unfold bx pt; rw [List.map_map] <;> rfl
theorem f0 (n : Nat) (bs : List Nat) (S : Sto) {d : D} (h : isDt d = true) : Fn (n + 1) 0 bs [d] S = .ok (.bl (isW d)) S := whole_run (cN pg FU n) bs S h
theorem f18 (n : Nat) (bs : List Nat) (S : Sto) {d : D} (h : isDt d = true) : Fn (n + 1) 18 bs [d] S = .ok (.bl (isW d)) S := whole_run (cN pg FU n) bs S h
/-- a step up -/
def stepUp (p q : List Int) : Bool := q.sum == p.sum + 1 && (p.zip q).all fun z => decide (z.1 ≤ z.2)
theorem f10 (n : Nat) (bs : List Nat) (S : Sto) (p q : List Int) (h : p.length ≤ 1000) : Fn (n + 1) 10 bs [pt p, pt q] S = .ok (.bl (stepUp p q)) S := by
  refine run_dt (C := cN pg FU n) (f := d10) rfl rfl rfl (v := [some (pt p), some (pt q), none, none]) ?_ rfl
  have e1 : evC (cN pg FU n) d10c0 ⟨S.length :: bs, [some (pt p), some (pt q), none, none]⟩ S = .ok ((p.zip q).map fun z => .bl (decide (z.1 ≤ z.2))) S :=
    lc_map (e := fun z : Int × Int => .tup [.int z.1, .int z.2]) (xs := p.zip q) (by simp [zipL_map]) (fun z _ => by simp [cB_tp2]) (by simp [LIM]; omega)
  simp [d10, e1, stepUp]
/-- a place in a box -/
def inB : D → Nat → Bool
  | .int i, m => decide (0 ≤ i) && decide (i ≤ m)
  | _, _ => false
def isPt (box : List Nat) : D → Bool
  | .tup l => l.length == box.length && l.all isW && (l.zip box).all fun z => inB z.1 z.2
  | _ => false
theorem f4 (n : Nat) (bs : List Nat) (S : Sto) {b : List Nat} {d : D} (hb : b.length ≤ 1000) (h : isDt d = true) (hl : ∀ l, d = .tup l → l.length ≤ LIM) : Fn (n + 2) 4 bs [bx b, d] S = .ok (.bl (isPt b d)) S := by
  refine run_dt (C := cN pg FU (n + 1)) (f := d4) rfl rfl rfl (v := [some (bx b), some d, none, none]) ?_ rfl
  cases hd : d with
  | tup l =>
    subst hd
    have hl := hl l rfl
    have e1 : evC (cN pg FU (n + 1)) d4c1 ⟨S.length :: bs, [some (bx b), some (.tup l), none, none]⟩ S = .ok (l.map fun z => .bl (isW z)) S :=
      lc_map (e := id) (xs := l) (by simp) (fun z hz => by simp [cB_nm, f0 n _ _ (dts_iff.mp h z hz)]) hl
    by_cases h1 : l.length = b.length
    · by_cases h2 : l.all isW = true
      · have e2 : evC (cN pg FU (n + 1)) d4c0 ⟨S.length :: bs, [some (bx b), some (.tup l), none, none]⟩ S = .ok ((l.zip b).map fun z => .bl (inB z.1 z.2)) S := by
          obtain ⟨ps, rfl⟩ := whole_ints h2
          exact lc_map (e := fun z : D × Nat => .tup [z.1, .int z.2]) (xs := (ps.map D.int).zip b) (by simp [zipL_id]) (fun z hz => by
            obtain ⟨i, _, e⟩ := List.mem_map.mp (List.of_mem_zip hz).1
            obtain ⟨z1, z2⟩ := z
            have e : D.int i = z1 := e
            subst e
            simp [cB_tp2, inB]) (by simp [LIM]; omega)
        simp [d4, e1, e2, p_isi_tuple S h, h1, h2, isPt]
      · simp [d4, e1, p_isi_tuple S h, h1, h2, isPt]
    · have h1' : (l.length == b.length) = false := by simpa using h1
      simp [d4, e1, p_isi_tuple S h, h1', isPt]
  | _ => subst hd; simp [d4, p_isi_tuple S h, isPt, isTu]
def grow (found : List (List Int)) (side : Nat) : List (List Int) := found.flatMap fun p => (List.range (side + 1)).map fun (k : Nat) => p ++ [(k : Int)]
def ptsFrom (f : List (List Int)) (box : List Nat) : List (List Int) := box.foldl grow f
def ptsOf (box : List Nat) : List (List Int) := ptsFrom [[]] box
def size : List Nat → Nat
  | [] => 1
  | s :: r => (s + 1) * size r
theorem size_pos : ∀ b, 0 < size b
  | [] => Nat.one_pos
  | s :: r => Nat.mul_pos (Nat.succ_pos s) (size_pos r)
theorem grow_length (f : List (List Int)) (s : Nat) : (grow f s).length = f.length * (s + 1) := by
  unfold grow
  rw [List.length_flatMap]
  induction f with
  | nil => simp
  | cons x r ih => simp at ih; simp [ih]; rw [Nat.add_mul]; omega
theorem pt_grow (p : List Int) (k : Int) (S : Sto) (h : p.length ≤ 1000) : arith S .add (pt p) (.tup [.int k]) = some (pt (p ++ [k])) := by
  show arith S .add (.tup (p.map D.int)) (.tup [.int k]) = _
  rw [ar_tup S (by simp [LIM]; omega)]
  simp [pt]
theorem lc5 (C : Ctx) (bs : List Nat) (S : Sto) (f : List (List Int)) (s : Nat) (a b c : Option D) (hf : ∀ p ∈ f, p.length ≤ 1000) (hs : s ≤ 1000) (hl : f.length * (s + 1) ≤ LIM) :
    evC C d5c0 ⟨bs, [a, some (.lst (f.map pt)), some (.int s), b, c]⟩ S = .ok ((grow f s).map pt) S := by
  have e0 : (grow f s).map pt = f.flatMap fun p => (List.range (s + 1)).map fun (k : Nat) => pt (p ++ [(k : Int)]) := by
    unfold grow
    rw [List.map_flatMap]
    simp [Function.comp_def]
  rw [e0]
  refine lc_two (e := pt) (xs := f) (by simp) (fun p hp => ⟨[a, some (.lst (f.map pt)), some (.int s), some (pt p), none], (List.range (s + 1)).map fun (k : Nat) => D.int k, fun x => match x with | .int k => some (pt (p ++ [k])) | _ => none, rfl, rfl, ?_, ?_, ?_⟩) ?_
  · have := rg1_of S (n := s + 1) (by omega)
    simpa using this
  · intro x hx
    obtain ⟨k, _, rfl⟩ := List.mem_map.mp hx
    simp [cB_nm, pt_grow p k S (hf p hp)]
  · rw [List.filterMap_map]
    exact congrFun List.filterMap_eq_map' _
  · have := grow_length f s
    rw [← e0, List.length_map, this]
    exact hl
theorem size_le {n s : Nat} {r : List Nat} (h : n * size (s :: r) ≤ 1000) : n * (s + 1) ≤ 1000 ∧ n * (s + 1) * size r ≤ 1000 := by
  have e : n * (s + 1) * size r ≤ 1000 := by rw [Nat.mul_assoc]; exact h
  exact ⟨Nat.le_trans (Nat.le_mul_of_pos_right _ (size_pos r)) e, e⟩
theorem side_le {n s : Nat} (h : n * (s + 1) ≤ 1000) (hn : 0 < n) : s ≤ 1000 := Nat.le_trans (Nat.le_trans (Nat.le_succ s) (Nat.le_mul_of_pos_left _ hn)) h
theorem grow_len {f : List (List Int)} {s k : Nat} (h : ∀ p ∈ f, p.length = k) : ∀ p ∈ grow f s, p.length = k + 1 := fun p hp => by
  obtain ⟨q, hq, hp⟩ := List.mem_flatMap.mp hp
  obtain ⟨i, _, rfl⟩ := List.mem_map.mp hp
  rw [List.length_append, h q hq] <;> rfl
theorem for5 (C : Ctx) (bs : List Nat) (S : Sto) (x : Option D) : ∀ (xs : List Nat) (f : List (List Int)) (k : Nat) (a b c : Option D), (∀ p ∈ f, p.length = k) → k + xs.length ≤ 1000 → 0 < f.length → f.length * size xs ≤ 1000 →
    ∃ a' b' c', forGo (fun x v => match bindT v (.nm 2) x with
      | some v => xss C bs d5b0 v
      | none => bad) (xs.map fun (n : Nat) => D.int n) [x, some (.lst (f.map pt)), a, b, c] S = .ok (.nx, [x, some (.lst ((ptsFrom f xs).map pt)), a', b', c']) S
  | [], f, k, a, b, c, _, _, _, _ => ⟨a, b, c, rfl⟩
  | s :: xs, f, k, a, b, c, hk, hx, h0, hl => by
    obtain ⟨h1, h2⟩ := size_le hl
    have g1 := grow_length f s
    obtain ⟨a', b', c', e⟩ := for5 C bs S x xs (grow f s) (k + 1) (some (.int s)) b c (grow_len hk) (by simp at hx; omega) (by rw [g1]; exact Nat.mul_pos h0 (Nat.succ_pos s)) (by rw [g1]; exact h2)
    refine ⟨a', b', c', (forGo_nx ?_).trans e⟩
    show xss C bs d5b0 [x, some (.lst (f.map pt)), some (.int s), b, c] S = _
    simp [d5b0, lc5 C bs S f s x b c (fun p hp => by rw [hk p hp]; omega) (side_le h1 h0) (Nat.le_trans h1 (by decide))]
theorem dts_pts (f : List (List Int)) : isDts (f.map pt) = true := dts_map (α := List Int) f
theorem f5 (n : Nat) (bs : List Nat) (S : Sto) {b : List Nat} (hb : b.length ≤ 1000) (h : size b ≤ 1000) : Fn (n + 1) 5 bs [bx b] S = .ok (.lst ((ptsOf b).map pt)) S := by
  obtain ⟨a', b', c', e⟩ := for5 (cN pg FU n) (S.length :: bs) S (some (bx b)) b [[]] 0 none none none (by simp) (by omega) (by simp) (by simpa using h)
  refine run_dt (C := cN pg FU n) (f := d5) (v := [some (bx b), some (.lst ((ptsOf b).map pt)), a', b', c']) rfl rfl rfl ?_ (dts_pts _)
  have e1 : xs (cN pg FU n) (S.length :: bs) d5f0 [some (bx b), some (.lst [.tup []]), none, none, none] S = .ok (.nx, [some (bx b), some (.lst ((ptsOf b).map pt)), a', b', c']) S := s_for (by simp) e
  simp [d5, e1]
end Ri.G
set_option maxHeartbeats 1000000
namespace Ri.G
open Ri PySem
open Ri.Enc (enc)
def grow1 (s : Nat) (p : List Int) : List (List Int) := (List.range (s + 1)).map fun (k : Nat) => p ++ [(k : Int)]
theorem grow_eq (f : List (List Int)) (s : Nat) : grow f s = f.flatMap (grow1 s) := rfl
theorem lc20 (C : Ctx) (bs : List Nat) (S : Sto) (p : List Int) (s : Nat) (x y z c : Option D) (hp : p.length ≤ 1000) (hs : s ≤ 1000) :
    evC C d20c0 ⟨bs, [x, y, some (.int s), z, some (pt p), c]⟩ S = .ok ((grow1 s p).map pt) S := by
  unfold grow1
  rw [List.map_map]
  refine lc_map (e := fun (k : Nat) => D.int k) (xs := List.range (s + 1)) ?_ (fun k _ => ?_) (by simp [LIM]; omega)
  · simpa using rg1_of S (n := s + 1) (by omega)
  · simp [cB_nm, pt_grow p k S hp]
theorem for20 (C : Ctx) (bs : List Nat) (S : Sto) (x y : Option D) (s : Nat) (hs : s ≤ 1000) : ∀ (f acc : List (List Int)) (a b : Option D), (∀ p ∈ f, p.length ≤ 1000) → acc.length + f.length * (s + 1) ≤ 100000 →
    ∃ a' b', forGo (fun x v => match bindT v (.nm 4) x with
      | some v => xss C bs d20b0 v
      | none => bad) (f.map pt) [x, y, some (.int s), some (.lst (acc.map pt)), a, b] S = .ok (.nx, [x, y, some (.int s), some (.lst ((acc ++ grow f s).map pt)), a', b']) S
  | [], acc, a, b, _, _ => ⟨a, b, by simp [grow] <;> rfl⟩
  | p :: f, acc, a, b, hp, hl => by
    have hg : (grow1 s p).length = s + 1 := by simp [grow1]
    have hl' : acc.length + (s + 1) + f.length * (s + 1) ≤ 100000 := by simp [Nat.add_mul] at hl; omega
    obtain ⟨a', b', e⟩ := for20 C bs S x y s hs f (acc ++ grow1 s p) (some (pt p)) b (fun q hq => hp q (List.mem_cons_of_mem _ hq)) (by rw [List.length_append, hg]; exact hl')
    refine ⟨a', b', (forGo_nx ?_).trans (e.trans ?_)⟩
    · show xss C bs d20b0 [x, y, some (.int s), some (.lst (acc.map pt)), some (pt p), b] S = _
      have := ar_lst S (l := acc.map pt) (k := (grow1 s p).map pt) (by simp [hg, LIM]; omega)
      simp [d20b0, lc20 C bs S p s x y (some (.lst (acc.map pt))) b (hp p List.mem_cons_self) hs, this]
    · rw [List.append_assoc] <;> rfl
theorem for20b (C : Ctx) (bs : List Nat) (S : Sto) (x : Option D) : ∀ (ys : List Nat) (f : List (List Int)) (k : Nat) (a b c d : Option D), (∀ p ∈ f, p.length = k) → k + ys.length ≤ 1000 → 0 < f.length → f.length * size ys ≤ 1000 →
    ∃ a' b' c' d', forGo (fun x v => match bindT v (.nm 2) x with
      | some v => xss C bs d20b1 v
      | none => bad) (ys.map fun (n : Nat) => D.int n) [x, some (.lst (f.map pt)), a, b, c, d] S = .ok (.nx, [x, some (.lst ((ptsFrom f ys).map pt)), a', b', c', d']) S
  | [], f, k, a, b, c, d, _, _, _, _ => ⟨a, b, c, d, rfl⟩
  | s :: ys, f, k, a, b, c, d, hk, hx, h0, hl => by
    obtain ⟨h1, h2⟩ := size_le hl
    have g1 := grow_length f s
    obtain ⟨a1, b1, e1⟩ := for20 C bs S x (some (.lst (f.map pt))) s (side_le h1 h0) f [] c d (fun p hp => by rw [hk p hp]; omega) (by simp; omega)
    obtain ⟨a', b', c', d', e⟩ := for20b C bs S x ys (grow f s) (k + 1) (some (.int s)) (some (.lst ((grow f s).map pt))) a1 b1 (grow_len hk) (by simp at hx; omega) (by rw [g1]; exact Nat.mul_pos h0 (Nat.succ_pos s)) (by rw [g1]; exact h2)
    refine ⟨a', b', c', d', (forGo_nx ?_).trans e⟩
    show xss C bs d20b1 [x, some (.lst (f.map pt)), some (.int s), b, c, d] S = _
    have e2 : xs C bs d20f0 [x, some (.lst (f.map pt)), some (.int s), some (.lst []), c, d] S = .ok (.nx, [x, some (.lst (f.map pt)), some (.int s), some (.lst ((grow f s).map pt)), a1, b1]) S := s_for (by simp) e1
    simp [d20b1, e2]
theorem f20 (n : Nat) (bs : List Nat) (S : Sto) {b : List Nat} (hb : b.length ≤ 1000) (h : size b ≤ 1000) : Fn (n + 1) 20 bs [bx b] S = .ok (.lst ((ptsOf b).map pt)) S := by
  obtain ⟨a', b', c', d', e⟩ := for20b (cN pg FU n) (S.length :: bs) S (some (bx b)) b [[]] 0 none none none none (by simp) (by omega) (by simp) (by simpa using h)
  refine run_dt (C := cN pg FU n) (f := d20) (v := [some (bx b), some (.lst ((ptsOf b).map pt)), a', b', c', d']) rfl rfl rfl ?_ (dts_pts _)
  have e1 : xs (cN pg FU n) (S.length :: bs) d20f1 [some (bx b), some (.lst [.tup []]), none, none, none, none] S = .ok (.nx, [some (bx b), some (.lst ((ptsOf b).map pt)), a', b', c', d']) S := s_for (by simp) e
  simp [d20, e1]
abbrev Ch : Type := List (List Int)
abbrev ch (c : Ch) : D := .tup (c.map pt)
def hook (c : Ch) (side start : Nat) : Ch := (c.take (c.length - start)).map (fun p => p ++ [(start : Int)]) ++ (List.range (side - start)).map fun (t : Nat) => c.getD (c.length - 1 - start) [] ++ [((start + 1 + t : Nat) : Int)]
def hooks (side : Nat) (c : Ch) : List Ch := (List.range (min (c.length - 1) side + 1)).map (hook c side)
def longer (chains : List Ch) (side : Nat) : List Ch := chains.flatMap (hooks side)
theorem sli_to (S : Sto) (l : List D) (k : Nat) : sliD S (.tup l) none (some (k : Int)) = some (.tup (l.take k)) := by
  show some (D.tup ((l.drop 0).take (Nat.min k l.length - 0))) = _
  rw [List.drop_zero, Nat.sub_zero]
  congr 2
  by_cases h : k ≤ l.length
  · rw [show Nat.min k l.length = k from Nat.min_eq_left h]
  · rw [show Nat.min k l.length = l.length from Nat.min_eq_right (by omega), List.take_length, List.take_of_length_le (by omega)]
theorem idx_tup (S : Sto) (l : List D) (k : Nat) (d : D) (h : l[k]? = some d) : idxD S (.tup l) (.int k) = some d := h
theorem idx_lst (S : Sto) (l : List D) (k : Nat) (d : D) (h : l[k]? = some d) : idxD S (.lst l) (.int k) = some d := h
theorem turn8 (C : Ctx) (bs : List Nat) (S : Sto) (x w u z y : Option D) (acc : List Ch) (c : Ch) (side start : Nat) (h1 : start < c.length) (h2 : start ≤ side) (hc : c.length + side ≤ 1000) (hp : ∀ p ∈ c, p.length ≤ 1000) (ha : acc.length ≤ 100000) :
    ∃ u' z', xss C bs d8b0 [x, some (.int side), some (.ref S.length), some (ch c), some (.int start), u, z, y, w] (S ++ [.lst (acc.map ch)]) =
      .ok (.nx, [x, some (.int side), some (.ref S.length), some (ch c), some (.int start), u', z', y, w]) (S ++ [.lst ((acc ++ [hook c side start]).map ch)]) := by
  have i1 : (c.length : Int) - 1 - start = ((c.length - 1 - start : Nat) : Int) := by omega
  have i2 : ((c.length - 1 - start : Nat) : Int) + 1 = ((c.length - start : Nat) : Int) := by omega
  have e1 : evC C d8c1 ⟨bs, [x, some (.int side), some (.ref S.length), some (ch c), some (.int start), some (.int ((c.length - 1 - start : Nat) : Int)), z, y, w]⟩ (S ++ [.lst (acc.map ch)]) = .ok ((c.take (c.length - start)).map fun p => pt (p ++ [(start : Int)])) (S ++ [.lst (acc.map ch)]) := by
    refine lc_map (e := pt) (xs := c.take (c.length - start)) ?_ (fun p hp' => ?_) (by simp [LIM]; omega)
    · simp [i2, sli_to, ← List.map_take]
    · simp [cB_nm, pt_grow p start _ (hp p (List.mem_of_mem_take hp'))]
  have l1 : (c.length - 1 - start) < c.length := by omega
  have i3 : ((side : Int) + 1 - ((start : Int) + 1)).toNat = side - start := by omega
  have g1 : (c.map pt)[c.length - 1 - start]? = some (pt (c.getD (c.length - 1 - start) [])) := by
    rw [List.getElem?_map, List.getElem?_eq_getElem l1, List.getD_eq_getElem?_getD, List.getElem?_eq_getElem l1] <;> rfl
  have lp : (c.getD (c.length - 1 - start) []).length ≤ 1000 := by
    rw [List.getD_eq_getElem?_getD, List.getElem?_eq_getElem l1]
    exact hp _ (List.getElem_mem l1)
  have hd : hook c side start = (c.take (c.length - start)).map (fun p => p ++ [(start : Int)]) ++ (List.range (side - start)).map fun (t : Nat) => c.getD (c.length - 1 - start) [] ++ [((start + 1 + t : Nat) : Int)] := rfl
  generalize c.getD (c.length - 1 - start) [] = q at g1 lp hd
  have e2 : ∀ z, evC C d8c0 ⟨bs, [x, some (.int side), some (.ref S.length), some (ch c), some (.int start), some (.int ((c.length - 1 - start : Nat) : Int)), z, y, w]⟩ (S ++ [.lst (acc.map ch)]) = .ok ((List.range (side - start)).map fun (t : Nat) => pt (q ++ [((start + 1 + t : Nat) : Int)])) (S ++ [.lst (acc.map ch)]) := by
    intro z
    refine lc_map (e := fun (k : Nat) => D.int ((start : Int) + 1 + k)) (xs := List.range (side - start)) ?_ (fun k _ => ?_) (by simp [LIM]; omega)
    · have := rg2_of (S ++ [.lst (acc.map ch)]) (lo := (start : Int) + 1) (hi := (side : Int) + 1) (by omega) (by omega)
      rw [i3] at this
      simpa using this
    · have := pt_grow q ((start : Int) + 1 + k) (S ++ [.lst (acc.map ch)]) lp
      have i4 : ((start : Int) + 1 + (k : Int)) = ((start + 1 + k : Nat) : Int) := by omega
      simp [cB_nm, idx_tup _ _ _ _ g1]
      rw [i4] at this ⊢
      rw [this] <;> rfl
  refine ⟨some (.int ((c.length - 1 - start : Nat) : Int)), some (.lst ((c.take (c.length - start)).map fun p => pt (p ++ [(start : Int)]))), ?_⟩
  have e3 : ∀ S', arith S' .add (.lst ((c.take (c.length - start)).map fun p => pt (p ++ [(start : Int)]))) (.lst ((List.range (side - start)).map fun (t : Nat) => pt (q ++ [((start + 1 + t : Nat) : Int)]))) = some (.lst ((hook c side start).map pt)) := by
    intro S'
    rw [ar_lst S' (by simp [LIM]; omega)]
    congr 2
    rw [hd, List.map_append, List.map_map, List.map_map] <;> rfl
  have e4 := e_app (C := C) (ρ := ⟨bs, [x, some (.int side), some (.ref S.length), some (ch c), some (.int start), some (.int ((c.length - 1 - start : Nat) : Int)), some (.lst ((c.take (c.length - start)).map fun p => pt (p ++ [(start : Int)]))), y, w]⟩) (S := S) (i := 2)
    (e := .pri .tuple (.cons (.bin .add (.var 6) (.lc d8c0)) .nil)) (l := acc.map ch) (d := ch (hook c side start)) (by simp) (by simp only [b_ok, b_ex, b_bad, bnd_b, ret_ap, bad_ap, ofO_some, ofO_none, getV_cons, getV_zero, nxt_nx, nxt_ret, nxt_brk, nxt_cnt, s_nil, s_cons, s_asg, a_nm, s_ex, s_ret, s_retN, s_iff, s_pas, s_brk, s_cnt, s_rai, e_var, e_cst, e_glo, e_bin, negD_int, e_neg, e_cmp, e_chn, notD_bl, e_not, isB_bl, e_and, e_or, and_nil, and_cons, or_nil, or_cons, e_ite, e_tup, limM_b, e_ls, e_mk, l_ls, l_cat, repD_int, l_rep, l_lc, l_of, e_call, e_pri, e_idx, e_lc, e_rev, revTD_tup, e_revT, toI_int, o_none, o_some, e_sli, es_nil, es_cons, t_cmp, t_chn, t_var, t_call, t_pri, t_cst, t_not, t_and, t_or, tand_nil, tand_cons, tor_nil, tor_cons, cond_none, cond_some, tru_bl, tru_int, itOf_lst, itOf_tup, i_seq, i_rg1, i_rg2, enD_lst, enD_tup, i_enum, zipD_lst, zipD_tup, i_zip, s_fr, c_eqI, c_neI, c_ltI, c_leI, c_gtI, c_geI, c_is, c_isn, ar_add, ar_sub, p_lenT, p_lenL, p_tuple, p_tupleT, p_list, p_listL, p_sorted, p_min2, p_max2, p_sumT, p_sumL, p_all, p_any, k_and, k_or, k_andT, k_orT, k_opt, k_lim, beq_nat, lim1, lim0, lim2, lim3, lim4, isTu_tup, isW_int, List.set_cons_zero, List.set_cons_succ, Option.map_some, Option.map_none, cond_true, cond_false, Bool.not_true, Bool.not_false, List.length_cons, List.length_nil, List.length_map, reduceIte, Bool.true_and, Bool.and_true, Bool.false_and, Bool.and_false, Bool.or_true, Bool.true_or, Bool.false_or, Bool.or_false, Bool.false_eq_true, e2, e3]) (Enc.dt (α := List (List Int)) (hook c side start)) (by simp [LIM]; omega)
  simp only [d8b0, b_ok, b_ex, b_bad, bnd_b, ret_ap, bad_ap, ofO_some, ofO_none, getV_cons, getV_zero, nxt_nx, nxt_ret, nxt_brk, nxt_cnt, s_nil, s_cons, s_asg, a_nm, s_ex, s_ret, s_retN, s_iff, s_pas, s_brk, s_cnt, s_rai, e_var, e_cst, e_glo, e_bin, negD_int, e_neg, e_cmp, e_chn, notD_bl, e_not, isB_bl, e_and, e_or, and_nil, and_cons, or_nil, or_cons, e_ite, e_tup, limM_b, e_ls, e_mk, l_ls, l_cat, repD_int, l_rep, l_lc, l_of, e_call, e_pri, e_idx, e_lc, e_rev, revTD_tup, e_revT, toI_int, o_none, o_some, e_sli, es_nil, es_cons, t_cmp, t_chn, t_var, t_call, t_pri, t_cst, t_not, t_and, t_or, tand_nil, tand_cons, tor_nil, tor_cons, cond_none, cond_some, tru_bl, tru_int, itOf_lst, itOf_tup, i_seq, i_rg1, i_rg2, enD_lst, enD_tup, i_enum, zipD_lst, zipD_tup, i_zip, s_fr, c_eqI, c_neI, c_ltI, c_leI, c_gtI, c_geI, c_is, c_isn, ar_add, ar_sub, p_lenT, p_lenL, p_tuple, p_tupleT, p_list, p_listL, p_sorted, p_min2, p_max2, p_sumT, p_sumL, p_all, p_any, k_and, k_or, k_andT, k_orT, k_opt, k_lim, beq_nat, lim1, lim0, lim2, lim3, lim4, isTu_tup, isW_int, List.set_cons_zero, List.set_cons_succ, Option.map_some, Option.map_none, cond_true, cond_false, Bool.not_true, Bool.not_false, List.length_cons, List.length_nil, List.length_map, reduceIte, Bool.true_and, Bool.and_true, Bool.false_and, Bool.and_false, Bool.or_true, Bool.true_or, Bool.false_or, Bool.or_false, Bool.false_eq_true, i1, e1, e4, List.map_append, List.map_cons, List.map_nil]
theorem for8a (C : Ctx) (bs : List Nat) (S : Sto) (x w y : Option D) (c : Ch) (side : Nat) (hc : c.length + side ≤ 1000) (hp : ∀ p ∈ c, p.length ≤ 1000) : ∀ (st : List Nat) (acc : List Ch) (s u z : Option D), (∀ k ∈ st, k < c.length ∧ k ≤ side) → acc.length + st.length ≤ 100000 →
    ∃ s' u' z', forGo (fun x v => match bindT v (.nm 4) x with
      | some v => xss C bs d8b0 v
      | none => bad) (st.map fun (n : Nat) => D.int n) [x, some (.int side), some (.ref S.length), some (ch c), s, u, z, y, w] (S ++ [.lst (acc.map ch)]) =
      .ok (.nx, [x, some (.int side), some (.ref S.length), some (ch c), s', u', z', y, w]) (S ++ [.lst ((acc ++ st.map (hook c side)).map ch)])
  | [], acc, s, u, z, _, _ => ⟨s, u, z, by simp <;> rfl⟩
  | k :: st, acc, s, u, z, hk, hl => by
    obtain ⟨h1, h2⟩ := hk k List.mem_cons_self
    obtain ⟨u1, z1, e1⟩ := turn8 C bs S x w u z y acc c side k h1 h2 hc hp (by simp at hl; omega)
    obtain ⟨s', u', z', e⟩ := for8a C bs S x w y c side hc hp st (acc ++ [hook c side k]) (some (.int k)) u1 z1 (fun j hj => hk j (List.mem_cons_of_mem _ hj)) (by simp at hl ⊢; omega)
    refine ⟨s', u', z', (forGo_nx e1).trans (e.trans ?_)⟩
    rw [List.append_assoc] <;> rfl
theorem hooks_length (side : Nat) (c : Ch) : (hooks side c).length ≤ side + 1 := by
  unfold hooks
  simp
  omega
theorem for8b (C : Ctx) (bs : List Nat) (S : Sto) (x w y : Option D) (side : Nat) : ∀ (cs acc : List Ch) (c s u z : Option D), (∀ c ∈ cs, c ≠ [] ∧ c.length + side ≤ 1000 ∧ ∀ p ∈ c, p.length ≤ 1000) → acc.length + cs.length * (side + 1) ≤ 100000 →
    ∃ c' s' u' z', forGo (fun x v => match bindT v (.nm 3) x with
      | some v => xss C bs d8b1 v
      | none => bad) (cs.map ch) [x, some (.int side), some (.ref S.length), c, s, u, z, y, w] (S ++ [.lst (acc.map ch)]) =
      .ok (.nx, [x, some (.int side), some (.ref S.length), c', s', u', z', y, w]) (S ++ [.lst ((acc ++ longer cs side).map ch)])
  | [], acc, c, s, u, z, _, _ => ⟨c, s, u, z, by simp [longer] <;> rfl⟩
  | c :: cs, acc, c0, s, u, z, hk, hl => by
    obtain ⟨h0, h1, h2⟩ := hk c List.mem_cons_self
    have h0 : 0 < c.length := List.length_pos_iff.mpr h0
    have hh := hooks_length side c
    have hl : acc.length + (side + 1) + cs.length * (side + 1) ≤ 100000 := by simp [Nat.add_mul] at hl; omega
    obtain ⟨s1, u1, z1, e1⟩ := for8a C bs S x w y c side h1 h2 (List.range (min (c.length - 1) side + 1)) acc s u z (fun k hk => by have := List.mem_range.mp hk; omega) (by simp; omega)
    obtain ⟨c', s', u', z', e⟩ := for8b C bs S x w y side cs (acc ++ hooks side c) (some (ch c)) s1 u1 z1 (fun j hj => hk j (List.mem_cons_of_mem _ hj)) (by rw [List.length_append]; omega)
    refine ⟨c', s', u', z', (forGo_nx ?_).trans (e.trans ?_)⟩
    · show xss C bs d8b1 [x, some (.int side), some (.ref S.length), some (ch c), s, u, z, y, w] (S ++ [.lst (acc.map ch)]) = _
      have i1 : min ((c.length : Int) - 1) (side : Int) + 1 = ((min (c.length - 1) side + 1 : Nat) : Int) := by omega
      have r1 := rg1_of (S ++ [.lst (acc.map ch)]) (n := min (c.length - 1) side + 1) (by omega)
      have e2 : xs C bs d8f0 [x, some (.int side), some (.ref S.length), some (ch c), s, u, z, y, w] (S ++ [.lst (acc.map ch)]) = .ok (.nx, [x, some (.int side), some (.ref S.length), some (ch c), s1, u1, z1, y, w]) (S ++ [.lst ((acc ++ hooks side c).map ch)]) :=
        s_for (S1 := S ++ [.lst (acc.map ch)]) (by simp only [b_ok, b_ex, b_bad, bnd_b, ret_ap, bad_ap, ofO_some, ofO_none, getV_cons, getV_zero, nxt_nx, nxt_ret, nxt_brk, nxt_cnt, s_nil, s_cons, s_asg, a_nm, s_ex, s_ret, s_retN, s_iff, s_pas, s_brk, s_cnt, s_rai, e_var, e_cst, e_glo, e_bin, negD_int, e_neg, e_cmp, e_chn, notD_bl, e_not, isB_bl, e_and, e_or, and_nil, and_cons, or_nil, or_cons, e_ite, e_tup, limM_b, e_ls, e_mk, l_ls, l_cat, repD_int, l_rep, l_lc, l_of, e_call, e_pri, e_idx, e_lc, e_rev, revTD_tup, e_revT, toI_int, o_none, o_some, e_sli, es_nil, es_cons, t_cmp, t_chn, t_var, t_call, t_pri, t_cst, t_not, t_and, t_or, tand_nil, tand_cons, tor_nil, tor_cons, cond_none, cond_some, tru_bl, tru_int, itOf_lst, itOf_tup, i_seq, i_rg1, i_rg2, enD_lst, enD_tup, i_enum, zipD_lst, zipD_tup, i_zip, s_fr, c_eqI, c_neI, c_ltI, c_leI, c_gtI, c_geI, c_is, c_isn, ar_add, ar_sub, p_lenT, p_lenL, p_tuple, p_tupleT, p_list, p_listL, p_sorted, p_min2, p_max2, p_sumT, p_sumL, p_all, p_any, k_and, k_or, k_andT, k_orT, k_opt, k_lim, beq_nat, lim1, lim0, lim2, lim3, lim4, isTu_tup, isW_int, List.set_cons_zero, List.set_cons_succ, Option.map_some, Option.map_none, cond_true, cond_false, Bool.not_true, Bool.not_false, List.length_cons, List.length_nil, List.length_map, reduceIte, Bool.true_and, Bool.and_true, Bool.false_and, Bool.and_false, Bool.or_true, Bool.true_or, Bool.false_or, Bool.or_false, Bool.false_eq_true, i1, r1]) e1
      simp [d8b1, e2]
    · rw [List.append_assoc] <;> rfl
theorem dts_chs (f : List Ch) : isDts (f.map ch) = true := dts_map (α := List (List Int)) f
theorem f8 (n : Nat) (bs : List Nat) (S : Sto) {cs : List Ch} {side : Nat} (h : ∀ c ∈ cs, c ≠ [] ∧ c.length + side ≤ 1000 ∧ ∀ p ∈ c, p.length ≤ 1000) (hl : cs.length * (side + 1) ≤ 100000) :
    Fn (n + 1) 8 bs [.lst (cs.map ch), .int side] S = .ok (.lst ((longer cs side).map ch)) S := by
  obtain ⟨c', s', u', z', e⟩ := for8b (cN pg FU n) (S.length :: bs) S (some (.lst (cs.map ch))) none none side cs [] none none none none h (by simpa using hl)
  refine run_last (C := cN pg FU n) (f := d8) (v := [some (.lst (cs.map ch)), some (.int side), some (.ref S.length), c', s', u', z', none, none]) rfl rfl rfl ?_ (dts_chs _)
  have e1 : xs (cN pg FU n) (S.length :: bs) d8f1 [some (.lst (cs.map ch)), some (.int side), some (.ref S.length), none, none, none, none, none, none] (S ++ [.lst []]) = .ok (.nx, [some (.lst (cs.map ch)), some (.int side), some (.ref S.length), c', s', u', z', none, none]) (S ++ [.lst ((longer cs side).map ch)]) := s_for (S1 := S ++ [.lst []]) (by simp) e
  simp [d8, e1]
end Ri.G
set_option maxHeartbeats 1000000
namespace Ri.G
open Ri PySem
open Ri.Enc (enc)
def prodI (n : Int) : List Int → Int
  | [] => n
  | i :: r => prodI (n * (i + 1)) r
def boxI (ps : List Int) : Bool := ps.all (fun i => decide (0 ≤ i) && decide (i ≤ 4)) && decide (prodI 1 ps ≤ 400)
theorem for2 (C : Ctx) (bs : List Nat) (S : Sto) (x : Option D) : ∀ (ps : List Int) (n : Int) (a : Option D), (∀ i ∈ ps, -10 ≤ i ∧ i ≤ 10) → n.natAbs * 11 ^ ps.length ≤ 1000000 →
    ∃ a', forGo (fun x v => match bindT v (.nm 2) x with
      | some v => xss C bs d2b0 v
      | none => bad) (ps.map D.int) [x, some (.int n), a] S = .ok (.nx, [x, some (.int (prodI n ps)), a']) S
  | [], n, a, _, _ => ⟨a, rfl⟩
  | i :: ps, n, a, hi, hn => by
    have h1 := hi i List.mem_cons_self
    have h2 : n.natAbs * 11 ^ ps.length * 11 ≤ 1000000 := by rw [Nat.mul_assoc, ← Nat.pow_succ]; exact hn
    have h3 : 1 ≤ 11 ^ ps.length := Nat.one_le_pow _ _ (by decide)
    have h4 : (i + 1).natAbs ≤ 11 := by omega
    have h5 : (n * (i + 1)).natAbs * 11 ^ ps.length ≤ 1000000 := by
      rw [Int.natAbs_mul, Nat.mul_right_comm]
      exact Nat.le_trans (Nat.mul_le_mul_left _ h4) h2
    have h6 : n.natAbs ≤ n.natAbs * 11 ^ ps.length := Nat.le_mul_of_pos_right _ (by omega)
    obtain ⟨a', e⟩ := for2 C bs S x ps (n * (i + 1)) (some (.int i)) (fun j hj => hi j (List.mem_cons_of_mem _ hj)) h5
    refine ⟨a', (forGo_nx ?_).trans e⟩
    show xss C bs d2b0 [x, some (.int n), some (.int i)] S = _
    simp only [d2b0, b_ok, b_ex, b_bad, bnd_b, ret_ap, bad_ap, ofO_some, ofO_none, getV_cons, getV_zero, nxt_nx, nxt_ret, nxt_brk, nxt_cnt, s_nil, s_cons, s_asg, a_nm, s_ex, s_ret, s_retN, s_iff, s_pas, s_brk, s_cnt, s_rai, e_var, e_cst, e_glo, e_bin, negD_int, e_neg, e_cmp, e_chn, notD_bl, e_not, isB_bl, e_and, e_or, and_nil, and_cons, or_nil, or_cons, e_ite, e_tup, limM_b, e_ls, e_mk, l_ls, l_cat, repD_int, l_rep, l_lc, l_of, e_call, e_pri, e_idx, e_lc, e_rev, revTD_tup, e_revT, toI_int, o_none, o_some, e_sli, es_nil, es_cons, t_cmp, t_chn, t_var, t_call, t_pri, t_cst, t_not, t_and, t_or, tand_nil, tand_cons, tor_nil, tor_cons, cond_none, cond_some, tru_bl, tru_int, itOf_lst, itOf_tup, i_seq, i_rg1, i_rg2, enD_lst, enD_tup, i_enum, zipD_lst, zipD_tup, i_zip, s_fr, c_eqI, c_neI, c_ltI, c_leI, c_gtI, c_geI, c_is, c_isn, ar_add, ar_sub, p_lenT, p_lenL, p_tuple, p_tupleT, p_list, p_listL, p_sorted, p_min2, p_max2, p_sumT, p_sumL, p_all, p_any, k_and, k_or, k_andT, k_orT, k_opt, k_lim, beq_nat, lim1, lim0, lim2, lim3, lim4, isTu_tup, isW_int, List.set_cons_zero, List.set_cons_succ, Option.map_some, Option.map_none, cond_true, cond_false, Bool.not_true, Bool.not_false, List.length_cons, List.length_nil, List.length_map, reduceIte, Bool.true_and, Bool.and_true, Bool.false_and, Bool.and_false, Bool.or_true, Bool.true_or, Bool.false_or, Bool.or_false, Bool.false_eq_true, s_aug, aug_mul (i := n) (j := i + 1) (by omega) (by omega)]
def isBoxD : D → Bool
  | .tup l => decide (1 ≤ l.length) && decide (l.length ≤ 5) && l.all isW && boxI ((intsOf l).getD [])
  | _ => false
theorem glo0 : pg.glo[0]? = some (.int 5) := rfl
theorem glo1 : pg.glo[1]? = some (.int 4) := rfl
theorem glo2 : pg.glo[2]? = some (.int 400) := rfl
theorem f2x (n : Nat) (bs : List Nat) (S : Sto) {d : D} (h : isDt d = true) (ht : isTu d = false) : Fn (n + 2) 2 bs [d] S = .ok (.bl false) S := by
  refine run_dt (C := cN pg FU (n + 1)) (f := d2) rfl rfl rfl (v0 := [some d, none, none]) (v := [some d, none, none]) ?_ rfl
  simp only [d2, b_ok, b_ex, b_bad, bnd_b, ret_ap, bad_ap, ofO_some, ofO_none, getV_cons, getV_zero, nxt_nx, nxt_ret, nxt_brk, nxt_cnt, s_nil, s_cons, s_asg, a_nm, s_ex, s_ret, s_retN, s_iff, s_pas, s_brk, s_cnt, s_rai, e_var, e_cst, e_glo, e_bin, negD_int, e_neg, e_cmp, e_chn, notD_bl, e_not, isB_bl, e_and, e_or, and_nil, and_cons, or_nil, or_cons, e_ite, e_tup, limM_b, e_ls, e_mk, l_ls, l_cat, repD_int, l_rep, l_lc, l_of, e_call, e_pri, e_idx, e_lc, e_rev, revTD_tup, e_revT, toI_int, o_none, o_some, e_sli, es_nil, es_cons, t_cmp, t_chn, t_var, t_call, t_pri, t_cst, t_not, t_and, t_or, tand_nil, tand_cons, tor_nil, tor_cons, cond_none, cond_some, tru_bl, tru_int, itOf_lst, itOf_tup, i_seq, i_rg1, i_rg2, enD_lst, enD_tup, i_enum, zipD_lst, zipD_tup, i_zip, s_fr, c_eqI, c_neI, c_ltI, c_leI, c_gtI, c_geI, c_is, c_isn, ar_add, ar_sub, p_lenT, p_lenL, p_tuple, p_tupleT, p_list, p_listL, p_sorted, p_min2, p_max2, p_sumT, p_sumL, p_all, p_any, k_and, k_or, k_andT, k_orT, k_opt, k_lim, beq_nat, lim1, lim0, lim2, lim3, lim4, isTu_tup, isW_int, List.set_cons_zero, List.set_cons_succ, Option.map_some, Option.map_none, cond_true, cond_false, Bool.not_true, Bool.not_false, List.length_cons, List.length_nil, List.length_map, reduceIte, Bool.true_and, Bool.and_true, Bool.false_and, Bool.and_false, Bool.or_true, Bool.true_or, Bool.false_or, Bool.or_false, Bool.false_eq_true, p_isi_tuple S h, ht]
theorem f2 (n : Nat) (bs : List Nat) (S : Sto) {d : D} (h : isDt d = true) (hl : ∀ l, d = .tup l → l.length ≤ 1000 ∧ ∀ i, D.int i ∈ l → -10 ≤ i ∧ i ≤ 10) : Fn (n + 2) 2 bs [d] S = .ok (.bl (isBoxD d)) S := by
  cases hd : d with
  | tup l =>
    subst hd
    obtain ⟨hl, hi⟩ := hl l rfl
    have e1 : ∀ a b, evC (cN pg FU (n + 1)) d2c1 ⟨S.length :: bs, [some (.tup l), a, b]⟩ S = .ok (l.map fun z => .bl (isW z)) S := fun a b =>
      lc_map (e := id) (xs := l) (by simp) (fun z hz => by simp [cB_nm, f0 n _ _ (dts_iff.mp h z hz)]) (Nat.le_trans hl (by decide))
    by_cases h1 : 1 ≤ l.length ∧ l.length ≤ 5
    · by_cases h2 : l.all isW = true
      · obtain ⟨ps, e0⟩ := whole_ints h2
        have hp : ps.length ≤ 5 := by rw [e0] at h1; simpa using h1.2
        have hi' : ∀ i ∈ ps, -10 ≤ i ∧ i ≤ 10 := fun i hm => hi i (by rw [e0]; exact List.mem_map_of_mem hm)
        obtain ⟨a', e2⟩ := for2 (cN pg FU (n + 1)) (S.length :: bs) S (some (.tup l)) ps 1 none hi' (by
          have : 11 ^ ps.length ≤ 11 ^ 5 := Nat.pow_le_pow_right (by decide) hp
          have : (11 : Nat) ^ 5 = 161051 := by decide
          simp; omega)
        have e3 : xs (cN pg FU (n + 1)) (S.length :: bs) d2f0 [some (.tup l), some (.int 1), none] S = _ := s_for (S1 := S) (l := ps.map D.int) (by rw [← e0]; simp only [b_ok, b_ex, b_bad, bnd_b, ret_ap, bad_ap, ofO_some, ofO_none, getV_cons, getV_zero, nxt_nx, nxt_ret, nxt_brk, nxt_cnt, s_nil, s_cons, s_asg, a_nm, s_ex, s_ret, s_retN, s_iff, s_pas, s_brk, s_cnt, s_rai, e_var, e_cst, e_glo, e_bin, negD_int, e_neg, e_cmp, e_chn, notD_bl, e_not, isB_bl, e_and, e_or, and_nil, and_cons, or_nil, or_cons, e_ite, e_tup, limM_b, e_ls, e_mk, l_ls, l_cat, repD_int, l_rep, l_lc, l_of, e_call, e_pri, e_idx, e_lc, e_rev, revTD_tup, e_revT, toI_int, o_none, o_some, e_sli, es_nil, es_cons, t_cmp, t_chn, t_var, t_call, t_pri, t_cst, t_not, t_and, t_or, tand_nil, tand_cons, tor_nil, tor_cons, cond_none, cond_some, tru_bl, tru_int, itOf_lst, itOf_tup, i_seq, i_rg1, i_rg2, enD_lst, enD_tup, i_enum, zipD_lst, zipD_tup, i_zip, s_fr, c_eqI, c_neI, c_ltI, c_leI, c_gtI, c_geI, c_is, c_isn, ar_add, ar_sub, p_lenT, p_lenL, p_tuple, p_tupleT, p_list, p_listL, p_sorted, p_min2, p_max2, p_sumT, p_sumL, p_all, p_any, k_and, k_or, k_andT, k_orT, k_opt, k_lim, beq_nat, lim1, lim0, lim2, lim3, lim4, isTu_tup, isW_int, List.set_cons_zero, List.set_cons_succ, Option.map_some, Option.map_none, cond_true, cond_false, Bool.not_true, Bool.not_false, List.length_cons, List.length_nil, List.length_map, reduceIte, Bool.true_and, Bool.and_true, Bool.false_and, Bool.and_false, Bool.or_true, Bool.true_or, Bool.false_or, Bool.or_false, Bool.false_eq_true]) e2
        have e4 : evC (cN pg FU (n + 1)) d2c0 ⟨S.length :: bs, [some (.tup l), some (.int (prodI 1 ps)), a']⟩ S = .ok (ps.map fun i => .bl (decide (0 ≤ i) && decide (i ≤ 4))) S :=
          lc_map (e := D.int) (xs := ps) (by rw [← e0]; simp only [b_ok, b_ex, b_bad, bnd_b, ret_ap, bad_ap, ofO_some, ofO_none, getV_cons, getV_zero, nxt_nx, nxt_ret, nxt_brk, nxt_cnt, s_nil, s_cons, s_asg, a_nm, s_ex, s_ret, s_retN, s_iff, s_pas, s_brk, s_cnt, s_rai, e_var, e_cst, e_glo, e_bin, negD_int, e_neg, e_cmp, e_chn, notD_bl, e_not, isB_bl, e_and, e_or, and_nil, and_cons, or_nil, or_cons, e_ite, e_tup, limM_b, e_ls, e_mk, l_ls, l_cat, repD_int, l_rep, l_lc, l_of, e_call, e_pri, e_idx, e_lc, e_rev, revTD_tup, e_revT, toI_int, o_none, o_some, e_sli, es_nil, es_cons, t_cmp, t_chn, t_var, t_call, t_pri, t_cst, t_not, t_and, t_or, tand_nil, tand_cons, tor_nil, tor_cons, cond_none, cond_some, tru_bl, tru_int, itOf_lst, itOf_tup, i_seq, i_rg1, i_rg2, enD_lst, enD_tup, i_enum, zipD_lst, zipD_tup, i_zip, s_fr, c_eqI, c_neI, c_ltI, c_leI, c_gtI, c_geI, c_is, c_isn, ar_add, ar_sub, p_lenT, p_lenL, p_tuple, p_tupleT, p_list, p_listL, p_sorted, p_min2, p_max2, p_sumT, p_sumL, p_all, p_any, k_and, k_or, k_andT, k_orT, k_opt, k_lim, beq_nat, lim1, lim0, lim2, lim3, lim4, isTu_tup, isW_int, List.set_cons_zero, List.set_cons_succ, Option.map_some, Option.map_none, cond_true, cond_false, Bool.not_true, Bool.not_false, List.length_cons, List.length_nil, List.length_map, reduceIte, Bool.true_and, Bool.and_true, Bool.false_and, Bool.and_false, Bool.or_true, Bool.true_or, Bool.false_or, Bool.or_false, Bool.false_eq_true]) (fun z _ => by simp only [cB_nm, b_ok, b_ex, b_bad, bnd_b, ret_ap, bad_ap, ofO_some, ofO_none, getV_cons, getV_zero, nxt_nx, nxt_ret, nxt_brk, nxt_cnt, s_nil, s_cons, s_asg, a_nm, s_ex, s_ret, s_retN, s_iff, s_pas, s_brk, s_cnt, s_rai, e_var, e_cst, e_glo, e_bin, negD_int, e_neg, e_cmp, e_chn, notD_bl, e_not, isB_bl, e_and, e_or, and_nil, and_cons, or_nil, or_cons, e_ite, e_tup, limM_b, e_ls, e_mk, l_ls, l_cat, repD_int, l_rep, l_lc, l_of, e_call, e_pri, e_idx, e_lc, e_rev, revTD_tup, e_revT, toI_int, o_none, o_some, e_sli, es_nil, es_cons, t_cmp, t_chn, t_var, t_call, t_pri, t_cst, t_not, t_and, t_or, tand_nil, tand_cons, tor_nil, tor_cons, cond_none, cond_some, tru_bl, tru_int, itOf_lst, itOf_tup, i_seq, i_rg1, i_rg2, enD_lst, enD_tup, i_enum, zipD_lst, zipD_tup, i_zip, s_fr, c_eqI, c_neI, c_ltI, c_leI, c_gtI, c_geI, c_is, c_isn, ar_add, ar_sub, p_lenT, p_lenL, p_tuple, p_tupleT, p_list, p_listL, p_sorted, p_min2, p_max2, p_sumT, p_sumL, p_all, p_any, k_and, k_or, k_andT, k_orT, k_opt, k_lim, beq_nat, lim1, lim0, lim2, lim3, lim4, isTu_tup, isW_int, List.set_cons_zero, List.set_cons_succ, Option.map_some, Option.map_none, cond_true, cond_false, Bool.not_true, Bool.not_false, List.length_cons, List.length_nil, List.length_map, reduceIte, Bool.true_and, Bool.and_true, Bool.false_and, Bool.and_false, Bool.or_true, Bool.true_or, Bool.false_or, Bool.or_false, Bool.false_eq_true, glo1]) (by simp [LIM]; omega)
        have e5 : isBoxD (.tup l) = boxI ps := by
          show (decide (1 ≤ l.length) && decide (l.length ≤ 5) && l.all isW && boxI ((intsOf l).getD [])) = _
          rw [decide_eq_true h1.1, decide_eq_true h1.2, h2, e0, intsOf_map] <;> rfl
        refine run_dt (C := cN pg FU (n + 1)) (f := d2) rfl rfl rfl (v0 := [some (.tup l), none, none]) (v := [some (.tup l), some (.int (prodI 1 ps)), a']) ?_ rfl
        have g1 : decide ((1 : Int) ≤ (l.length : Int)) = true := decide_eq_true (by omega)
        have g2 : decide ((l.length : Int) ≤ 5) = true := decide_eq_true (by omega)
        simp only [d2, b_ok, b_ex, b_bad, bnd_b, ret_ap, bad_ap, ofO_some, ofO_none, getV_cons, getV_zero, nxt_nx, nxt_ret, nxt_brk, nxt_cnt, s_nil, s_cons, s_asg, a_nm, s_ex, s_ret, s_retN, s_iff, s_pas, s_brk, s_cnt, s_rai, e_var, e_cst, e_glo, e_bin, negD_int, e_neg, e_cmp, e_chn, notD_bl, e_not, isB_bl, e_and, e_or, and_nil, and_cons, or_nil, or_cons, e_ite, e_tup, limM_b, e_ls, e_mk, l_ls, l_cat, repD_int, l_rep, l_lc, l_of, e_call, e_pri, e_idx, e_lc, e_rev, revTD_tup, e_revT, toI_int, o_none, o_some, e_sli, es_nil, es_cons, t_cmp, t_chn, t_var, t_call, t_pri, t_cst, t_not, t_and, t_or, tand_nil, tand_cons, tor_nil, tor_cons, cond_none, cond_some, tru_bl, tru_int, itOf_lst, itOf_tup, i_seq, i_rg1, i_rg2, enD_lst, enD_tup, i_enum, zipD_lst, zipD_tup, i_zip, s_fr, c_eqI, c_neI, c_ltI, c_leI, c_gtI, c_geI, c_is, c_isn, ar_add, ar_sub, p_lenT, p_lenL, p_tuple, p_tupleT, p_list, p_listL, p_sorted, p_min2, p_max2, p_sumT, p_sumL, p_all, p_any, k_and, k_or, k_andT, k_orT, k_opt, k_lim, beq_nat, lim1, lim0, lim2, lim3, lim4, isTu_tup, isW_int, List.set_cons_zero, List.set_cons_succ, Option.map_some, Option.map_none, cond_true, cond_false, Bool.not_true, Bool.not_false, List.length_cons, List.length_nil, List.length_map, reduceIte, Bool.true_and, Bool.and_true, Bool.false_and, Bool.and_false, Bool.or_true, Bool.true_or, Bool.false_or, Bool.or_false, Bool.false_eq_true, e1, p_isi_tuple S h, h2, glo0, glo2, g1, g2, e3, e4, e5, boxI]
      · have h2 : l.all isW = false := by simpa using h2
        have e5 : isBoxD (.tup l) = false := by
          show (decide (1 ≤ l.length) && decide (l.length ≤ 5) && l.all isW && boxI ((intsOf l).getD [])) = _
          rw [h2] <;> simp
        refine run_dt (C := cN pg FU (n + 1)) (f := d2) rfl rfl rfl (v0 := [some (.tup l), none, none]) (v := [some (.tup l), none, none]) ?_ rfl
        have g1 : decide ((1 : Int) ≤ (l.length : Int)) = true := decide_eq_true (by omega)
        have g2 : decide ((l.length : Int) ≤ 5) = true := decide_eq_true (by omega)
        simp only [d2, b_ok, b_ex, b_bad, bnd_b, ret_ap, bad_ap, ofO_some, ofO_none, getV_cons, getV_zero, nxt_nx, nxt_ret, nxt_brk, nxt_cnt, s_nil, s_cons, s_asg, a_nm, s_ex, s_ret, s_retN, s_iff, s_pas, s_brk, s_cnt, s_rai, e_var, e_cst, e_glo, e_bin, negD_int, e_neg, e_cmp, e_chn, notD_bl, e_not, isB_bl, e_and, e_or, and_nil, and_cons, or_nil, or_cons, e_ite, e_tup, limM_b, e_ls, e_mk, l_ls, l_cat, repD_int, l_rep, l_lc, l_of, e_call, e_pri, e_idx, e_lc, e_rev, revTD_tup, e_revT, toI_int, o_none, o_some, e_sli, es_nil, es_cons, t_cmp, t_chn, t_var, t_call, t_pri, t_cst, t_not, t_and, t_or, tand_nil, tand_cons, tor_nil, tor_cons, cond_none, cond_some, tru_bl, tru_int, itOf_lst, itOf_tup, i_seq, i_rg1, i_rg2, enD_lst, enD_tup, i_enum, zipD_lst, zipD_tup, i_zip, s_fr, c_eqI, c_neI, c_ltI, c_leI, c_gtI, c_geI, c_is, c_isn, ar_add, ar_sub, p_lenT, p_lenL, p_tuple, p_tupleT, p_list, p_listL, p_sorted, p_min2, p_max2, p_sumT, p_sumL, p_all, p_any, k_and, k_or, k_andT, k_orT, k_opt, k_lim, beq_nat, lim1, lim0, lim2, lim3, lim4, isTu_tup, isW_int, List.set_cons_zero, List.set_cons_succ, Option.map_some, Option.map_none, cond_true, cond_false, Bool.not_true, Bool.not_false, List.length_cons, List.length_nil, List.length_map, reduceIte, Bool.true_and, Bool.and_true, Bool.false_and, Bool.and_false, Bool.or_true, Bool.true_or, Bool.false_or, Bool.or_false, Bool.false_eq_true, e1, p_isi_tuple S h, h2, glo0, g1, g2, e5]
    · have e5 : isBoxD (.tup l) = false := by
        show (decide (1 ≤ l.length) && decide (l.length ≤ 5) && l.all isW && boxI ((intsOf l).getD [])) = _
        rw [← Bool.decide_and, decide_eq_false h1] <;> rfl
      refine run_dt (C := cN pg FU (n + 1)) (f := d2) rfl rfl rfl (v0 := [some (.tup l), none, none]) (v := [some (.tup l), none, none]) ?_ rfl
      have g : (cond (decide ((1 : Int) ≤ (l.length : Int))) (R.ok (D.bl (decide ((l.length : Int) ≤ 5))) S) (R.ok (D.bl false) S)) = .ok (.bl false) S := by
        by_cases q : 1 ≤ l.length
        · rw [decide_eq_true (by omega), decide_eq_false (by omega)] <;> rfl
        · rw [decide_eq_false (by omega)] <;> rfl
      have g : (decide ((1 : Int) ≤ (l.length : Int)) && decide ((l.length : Int) ≤ 5)) = false := by
        rw [← Bool.decide_and]
        exact decide_eq_false (by omega)
      simp only [d2, b_ok, b_ex, b_bad, bnd_b, ret_ap, bad_ap, ofO_some, ofO_none, getV_cons, getV_zero, nxt_nx, nxt_ret, nxt_brk, nxt_cnt, s_nil, s_cons, s_asg, a_nm, s_ex, s_ret, s_retN, s_iff, s_pas, s_brk, s_cnt, s_rai, e_var, e_cst, e_glo, e_bin, negD_int, e_neg, e_cmp, e_chn, notD_bl, e_not, isB_bl, e_and, e_or, and_nil, and_cons, or_nil, or_cons, e_ite, e_tup, limM_b, e_ls, e_mk, l_ls, l_cat, repD_int, l_rep, l_lc, l_of, e_call, e_pri, e_idx, e_lc, e_rev, revTD_tup, e_revT, toI_int, o_none, o_some, e_sli, es_nil, es_cons, t_cmp, t_chn, t_var, t_call, t_pri, t_cst, t_not, t_and, t_or, tand_nil, tand_cons, tor_nil, tor_cons, cond_none, cond_some, tru_bl, tru_int, itOf_lst, itOf_tup, i_seq, i_rg1, i_rg2, enD_lst, enD_tup, i_enum, zipD_lst, zipD_tup, i_zip, s_fr, c_eqI, c_neI, c_ltI, c_leI, c_gtI, c_geI, c_is, c_isn, ar_add, ar_sub, p_lenT, p_lenL, p_tuple, p_tupleT, p_list, p_listL, p_sorted, p_min2, p_max2, p_sumT, p_sumL, p_all, p_any, k_and, k_or, k_andT, k_orT, k_opt, k_lim, beq_nat, lim1, lim0, lim2, lim3, lim4, isTu_tup, isW_int, List.set_cons_zero, List.set_cons_succ, Option.map_some, Option.map_none, cond_true, cond_false, Bool.not_true, Bool.not_false, List.length_cons, List.length_nil, List.length_map, reduceIte, Bool.true_and, Bool.and_true, Bool.false_and, Bool.and_false, Bool.or_true, Bool.true_or, Bool.false_or, Bool.or_false, Bool.false_eq_true, p_isi_tuple S h, glo0, g, e5]
  | _ =>
    subst hd
    exact f2x n bs S h rfl
theorem f3 (n : Nat) (bs : List Nat) (S : Sto) {d : D} (h : isDt d = true) (hl : ∀ l, d = .tup l → l.length ≤ 1000 ∧ ∀ i, D.int i ∈ l → -10 ≤ i ∧ i ≤ 10) (hb : isBoxD d = true) : Fn (n + 3) 3 bs [d] S = .ok .non S := by
  refine run_of (C := cN pg FU (n + 2)) (f := d3) (v0 := [some d]) (v := [some d]) (T := []) (p := .nx) (d := .non) rfl rfl rfl ?_ rfl rfl
  simp only [d3, b_ok, b_ex, b_bad, bnd_b, ret_ap, bad_ap, ofO_some, ofO_none, getV_cons, getV_zero, nxt_nx, nxt_ret, nxt_brk, nxt_cnt, s_nil, s_cons, s_asg, a_nm, s_ex, s_ret, s_retN, s_iff, s_pas, s_brk, s_cnt, s_rai, e_var, e_cst, e_glo, e_bin, negD_int, e_neg, e_cmp, e_chn, notD_bl, e_not, isB_bl, e_and, e_or, and_nil, and_cons, or_nil, or_cons, e_ite, e_tup, limM_b, e_ls, e_mk, l_ls, l_cat, repD_int, l_rep, l_lc, l_of, e_call, e_pri, e_idx, e_lc, e_rev, revTD_tup, e_revT, toI_int, o_none, o_some, e_sli, es_nil, es_cons, t_cmp, t_chn, t_var, t_call, t_pri, t_cst, t_not, t_and, t_or, tand_nil, tand_cons, tor_nil, tor_cons, cond_none, cond_some, tru_bl, tru_int, itOf_lst, itOf_tup, i_seq, i_rg1, i_rg2, enD_lst, enD_tup, i_enum, zipD_lst, zipD_tup, i_zip, s_fr, c_eqI, c_neI, c_ltI, c_leI, c_gtI, c_geI, c_is, c_isn, ar_add, ar_sub, p_lenT, p_lenL, p_tuple, p_tupleT, p_list, p_listL, p_sorted, p_min2, p_max2, p_sumT, p_sumL, p_all, p_any, k_and, k_or, k_andT, k_orT, k_opt, k_lim, beq_nat, lim1, lim0, lim2, lim3, lim4, isTu_tup, isW_int, List.set_cons_zero, List.set_cons_succ, Option.map_some, Option.map_none, cond_true, cond_false, Bool.not_true, Bool.not_false, List.length_cons, List.length_nil, List.length_map, reduceIte, Bool.true_and, Bool.and_true, Bool.false_and, Bool.and_false, Bool.or_true, Bool.true_or, Bool.false_or, Bool.or_false, Bool.false_eq_true, f2 n (S.length :: bs) S h hl, hb, List.append_nil]
theorem f3x (n : Nat) (bs : List Nat) (S : Sto) {d : D} (h : isDt d = true) (hl : ∀ l, d = .tup l → l.length ≤ 1000 ∧ ∀ i, D.int i ∈ l → -10 ≤ i ∧ i ≤ 10) (hb : isBoxD d = false) : Fn (n + 3) 3 bs [d] S = .ex 1 .non S := by
  refine run_ex (C := cN pg FU (n + 2)) (f := d3) (v0 := [some d]) (T := []) rfl rfl rfl ?_
  simp only [d3, b_ok, b_ex, b_bad, bnd_b, ret_ap, bad_ap, ofO_some, ofO_none, getV_cons, getV_zero, nxt_nx, nxt_ret, nxt_brk, nxt_cnt, s_nil, s_cons, s_asg, a_nm, s_ex, s_ret, s_retN, s_iff, s_pas, s_brk, s_cnt, s_rai, e_var, e_cst, e_glo, e_bin, negD_int, e_neg, e_cmp, e_chn, notD_bl, e_not, isB_bl, e_and, e_or, and_nil, and_cons, or_nil, or_cons, e_ite, e_tup, limM_b, e_ls, e_mk, l_ls, l_cat, repD_int, l_rep, l_lc, l_of, e_call, e_pri, e_idx, e_lc, e_rev, revTD_tup, e_revT, toI_int, o_none, o_some, e_sli, es_nil, es_cons, t_cmp, t_chn, t_var, t_call, t_pri, t_cst, t_not, t_and, t_or, tand_nil, tand_cons, tor_nil, tor_cons, cond_none, cond_some, tru_bl, tru_int, itOf_lst, itOf_tup, i_seq, i_rg1, i_rg2, enD_lst, enD_tup, i_enum, zipD_lst, zipD_tup, i_zip, s_fr, c_eqI, c_neI, c_ltI, c_leI, c_gtI, c_geI, c_is, c_isn, ar_add, ar_sub, p_lenT, p_lenL, p_tuple, p_tupleT, p_list, p_listL, p_sorted, p_min2, p_max2, p_sumT, p_sumL, p_all, p_any, k_and, k_or, k_andT, k_orT, k_opt, k_lim, beq_nat, lim1, lim0, lim2, lim3, lim4, isTu_tup, isW_int, List.set_cons_zero, List.set_cons_succ, Option.map_some, Option.map_none, cond_true, cond_false, Bool.not_true, Bool.not_false, List.length_cons, List.length_nil, List.length_map, reduceIte, Bool.true_and, Bool.and_true, Bool.false_and, Bool.and_false, Bool.or_true, Bool.true_or, Bool.false_or, Bool.or_false, Bool.false_eq_true, f2 n (S.length :: bs) S h hl, hb, List.append_nil]
end Ri.G
set_option maxHeartbeats 1000000
namespace Ri.G
open Ri PySem
open Ri.Enc (enc)
def growN (f : List (List Int)) (n : Nat) : List (List Int) := f.flatMap fun p => (List.range n).map fun (k : Nat) => p ++ [(k : Int)]
def cnt (f : List (List Int)) (k : Int) : Nat := f.countP fun p => p.sum == k
theorem cnt_append (f g : List (List Int)) (k : Int) : cnt (f ++ g) k = cnt f k + cnt g k := List.countP_append
theorem cnt_growN (n : Nat) (k : Int) : ∀ f : List (List Int), cnt (growN f (n + 1)) k = cnt (growN f n) k + cnt f (k - n)
  | [] => rfl
  | p :: f => by
    have e1 : growN (p :: f) (n + 1) = (((List.range n).map fun (k : Nat) => p ++ [(k : Int)]) ++ [p ++ [(n : Int)]]) ++ growN f (n + 1) := by
      show ((List.range (n + 1)).map fun (k : Nat) => p ++ [(k : Int)]) ++ growN f (n + 1) = _
      rw [List.range_succ, List.map_append] <;> rfl
    have e2 : growN (p :: f) n = ((List.range n).map fun (k : Nat) => p ++ [(k : Int)]) ++ growN f n := rfl
    have e3 : cnt [p ++ [(n : Int)]] k = cnt [p] (k - n) := by
      unfold cnt
      rw [List.countP_singleton, List.countP_singleton]
      have : ((p ++ [(n : Int)]).sum == k) = (p.sum == k - n) := by
        rw [List.sum_append, Bool.eq_iff_iff, beq_iff_eq, beq_iff_eq]
        simp
        omega
      rw [this]
    have e4 : cnt (p :: f) (k - n) = cnt [p] (k - n) + cnt f (k - n) := cnt_append [p] f _
    rw [e1, e2, cnt_append, cnt_append, cnt_append, cnt_growN n k f, e3, e4]
    omega
theorem conv_ones (n : Nat) : ∀ (a : List Int) (m : Nat), conv a (List.replicate (n + 1) 1) m = conv a (List.replicate n 1) m + (if n ≤ m then a.getD (m - n) 0 else 0)
  | [], m => by
    show (0 : Int) = 0 + _
    split <;> simp
  | x :: a, 0 => by
    show x * (List.replicate (n + 1) (1 : Int)).getD 0 0 = x * (List.replicate n (1 : Int)).getD 0 0 + _
    cases n with
    | zero => simp
    | succ n => rw [if_neg (by omega)]; simp [List.replicate_succ]
  | x :: a, m + 1 => by
    show x * (List.replicate (n + 1) (1 : Int)).getD (m + 1) 0 + conv a _ m = x * (List.replicate n (1 : Int)).getD (m + 1) 0 + conv a _ m + _
    rw [conv_ones n a m]
    have g : ∀ j k : Nat, (List.replicate j (1 : Int)).getD k 0 = if k < j then 1 else 0 := fun j k => by
      rw [List.getD_eq_getElem?_getD, List.getElem?_replicate]
      split <;> rfl
    rw [g, g]
    by_cases h : n ≤ m
    · rw [if_neg (show ¬ m + 1 < n + 1 by omega), if_neg (show ¬ m + 1 < n by omega), if_pos h, if_pos (show n ≤ m + 1 by omega), show m + 1 - n = (m - n) + 1 by omega]
      show _ = x * 0 + _ + a.getD (m - n) 0
      omega
    · by_cases h2 : n = m + 1
      · subst h2
        rw [if_pos (show m + 1 < m + 1 + 1 by omega), if_neg (show ¬ m + 1 < m + 1 by omega), if_neg h, if_pos (Nat.le_refl _), Nat.sub_self]
        show x * 1 + _ = x * 0 + _ + x
        omega
      · rw [if_pos (show m + 1 < n + 1 by omega), if_pos (show m + 1 < n by omega), if_neg h, if_neg (show ¬ n ≤ m + 1 by omega)]
        omega
/-- a row tells how many have each sum -/
structure Ranks (f : List Int) (pts : List (List Int)) (w : Nat) : Prop where
  len : f.length = w + 1
  get : ∀ m : Nat, f.getD m 0 = cnt pts m
  low : ∀ p ∈ pts, 0 ≤ p.sum ∧ p.sum ≤ w
theorem cnt_zero {pts : List (List Int)} {k : Int} (h : ∀ p ∈ pts, p.sum ≠ k) : cnt pts k = 0 := by
  unfold cnt
  rw [List.countP_eq_zero]
  intro p hp
  simpa using h p hp
theorem ranks_ones {f : List Int} {pts : List (List Int)} {w : Nat} (r : Ranks f pts w) : ∀ (n m : Nat), conv f (List.replicate n 1) m = cnt (growN pts n) m
  | 0, m => by
    have e1 : ∀ (a : List Int) (m : Nat), conv a [] m = 0 := by
      intro a
      induction a with
      | nil => intro m; rfl
      | cons x a ih =>
        intro m
        cases m with
        | zero => show x * 0 = 0; omega
        | succ m => show x * 0 + conv a [] m = 0; rw [ih]; omega
    have e2 : growN pts 0 = [] := by unfold growN; simp
    rw [e2]
    exact e1 f m
  | n + 1, m => by
    rw [conv_ones, cnt_growN, ranks_ones r n m]
    by_cases h : n ≤ m
    · rw [if_pos h, r.get, show ((m : Int) - n) = ((m - n : Nat) : Int) by omega]
      omega
    · have z : cnt pts ((m : Int) - n) = 0 := cnt_zero fun p hp => by have := (r.low p hp).1; omega
      rw [if_neg h, z]
      omega
theorem sum_grow {pts : List (List Int)} {s : Nat} {q : List Int} (h : q ∈ grow pts s) : ∃ p ∈ pts, ∃ k : Nat, k ≤ s ∧ q = p ++ [(k : Int)] := by
  obtain ⟨p, hp, h⟩ := List.mem_flatMap.mp h
  obtain ⟨k, hk, rfl⟩ := List.mem_map.mp h
  exact ⟨p, hp, k, by have := List.mem_range.mp hk; omega, rfl⟩
theorem Ranks.grow {f : List Int} {pts : List (List Int)} {w : Nat} (r : Ranks f pts w) (s : Nat) : Ranks (mulP f (List.replicate (s + 1) 1)) (grow pts s) (w + s) where
  len := by rw [mulP_length, List.length_replicate, r.len]; omega
  get m := by
    rw [mulP_getD f _ m (by rw [r.len]; omega), ranks_ones r (s + 1) m] <;> rfl
  low q hq := by
    obtain ⟨p, hp, k, hk, rfl⟩ := sum_grow hq
    have := r.low p hp
    rw [List.sum_append]
    simp
    omega
def rkFrom (f : List Int) (box : List Nat) : List Int := box.foldl (fun f s => mulP f (List.replicate (s + 1) 1)) f
def rkOf (box : List Nat) : List Int := rkFrom [1] box
theorem Ranks.all : ∀ (box : List Nat) (f : List Int) (pts : List (List Int)) (w : Nat), Ranks f pts w → Ranks (rkFrom f box) (ptsFrom pts box) (w + box.sum)
  | [], f, pts, w, r => by simpa [rkFrom, ptsFrom] using r
  | s :: box, f, pts, w, r => by
    have z := Ranks.all box _ _ _ (r.grow s)
    rw [List.sum_cons, ← Nat.add_assoc]
    exact z
theorem ranks_nil : Ranks [1] [[]] 0 where
  len := rfl
  get m := by
    cases m with
    | zero => decide
    | succ m =>
      show (0 : Int) = _
      rw [cnt_zero (fun p hp => by
        rcases List.mem_singleton.mp hp with rfl
        simp
        omega)] <;> rfl
  low p hp := by
    rcases List.mem_singleton.mp hp with rfl
    simp
theorem ranks_of (box : List Nat) : Ranks (rkOf box) (ptsOf box) box.sum := by
  have z := Ranks.all box _ _ _ ranks_nil
  rwa [Nat.zero_add] at z
def at_ (c : Ch) (i : Nat) : List Int := c.getD i []
/-- p is under q -/
def le_ (p q : List Int) : Bool := (p.zip q).all fun z => decide (z.1 ≤ z.2)
structure Even (c : Ch) (w n : Nat) : Prop where
  ne : 0 < c.length
  up : ∀ i, i < c.length → (at_ c i).sum = (at_ c 0).sum + i
  le : ∀ i, i + 1 < c.length → le_ (at_ c i) (at_ c (i + 1)) = true
  end_ : 2 * (at_ c 0).sum + c.length = w + 1
  low : 0 ≤ (at_ c 0).sum
  len : ∀ i, i < c.length → (at_ c i).length = n
theorem le_snoc {p q : List Int} {i j : Int} (hl : p.length = q.length) (h : le_ p q = true) (k : i ≤ j) : le_ (p ++ [i]) (q ++ [j]) = true := by
  unfold le_ at h ⊢
  rw [List.zip_append hl, List.all_append, h]
  simp [k]
theorem le_refl (p : List Int) : le_ p p = true := by
  unfold le_
  rw [List.all_eq_true]
  intro z hz
  have : z.1 = z.2 := by
    induction p with
    | nil => cases hz
    | cons x r ih =>
      rcases List.mem_cons.mp hz with rfl | hz
      · rfl
      · exact ih hz
  simp [this]
theorem hook_length (c : Ch) (side start : Nat) (h1 : start < c.length) : (hook c side start).length = (c.length - start) + (side - start) := by
  unfold hook
  rw [List.length_append, List.length_map, List.length_map, List.length_take, List.length_range]
  omega
theorem hook_lo (c : Ch) (side start i : Nat) (h1 : start < c.length) (hi : i < c.length - start) : at_ (hook c side start) i = at_ c i ++ [(start : Int)] := by
  unfold at_ hook
  rw [List.getD_eq_getElem?_getD, List.getElem?_append_left (by rw [List.length_map, List.length_take]; omega), List.getElem?_map, List.getElem?_take_of_lt hi, List.getD_eq_getElem?_getD, List.getElem?_eq_getElem (by omega)] <;> rfl
theorem hook_hi (c : Ch) (side start t : Nat) (h1 : start < c.length) (ht : t < side - start) : at_ (hook c side start) (c.length - start + t) = at_ c (c.length - 1 - start) ++ [((start + 1 + t : Nat) : Int)] := by
  unfold at_ hook
  have e : ((c.take (c.length - start)).map (fun p => p ++ [(start : Int)])).length = c.length - start := by rw [List.length_map, List.length_take]; omega
  rw [List.getD_eq_getElem?_getD, List.getElem?_append_right (by rw [e]; omega), e, Nat.add_sub_cancel_left, List.getElem?_map, List.getElem?_range ht] <;> rfl
theorem sum_snoc (p : List Int) (i : Int) : (p ++ [i]).sum = p.sum + i := by rw [List.sum_append]; simp
theorem Even.hook {c : Ch} {w n : Nat} (e : Even c w n) (side start : Nat) (h1 : start < c.length) (h2 : start ≤ side) : Even (hook c side start) (w + side) (n + 1) := by
  have hl := hook_length c side start h1
  have h0 : at_ (G.hook c side start) 0 = at_ c 0 ++ [(start : Int)] := hook_lo c side start 0 h1 (by omega)
  refine ⟨by omega, fun i hi => ?_, fun i hi => ?_, ?_, ?_, fun i hi => ?_⟩
  · rw [h0, sum_snoc]
    by_cases q : i < c.length - start
    · rw [hook_lo c side start i h1 q, sum_snoc, e.up i (by omega)]
      omega
    · obtain ⟨t, rfl⟩ : ∃ t, i = c.length - start + t := ⟨i - (c.length - start), by omega⟩
      rw [hook_hi c side start t h1 (by omega), sum_snoc, e.up _ (by omega)]
      omega
  · by_cases q : i + 1 < c.length - start
    · rw [hook_lo c side start i h1 (by omega), hook_lo c side start (i + 1) h1 q]
      exact le_snoc (by rw [e.len i (by omega), e.len (i + 1) (by omega)]) (e.le i (by omega)) (Int.le_refl _)
    · by_cases q2 : i < c.length - start
      · have hi2 : i = c.length - 1 - start := by omega
        have z := hook_hi c side start 0 h1 (by omega)
        rw [Nat.add_zero, show c.length - start = i + 1 by omega] at z
        rw [hook_lo c side start i h1 q2, z, hi2]
        exact le_snoc rfl (le_refl _) (by omega)
      · obtain ⟨t, rfl⟩ : ∃ t, i = c.length - start + t := ⟨i - (c.length - start), by omega⟩
        rw [hook_hi c side start t h1 (by omega), show c.length - start + t + 1 = c.length - start + (t + 1) by omega, hook_hi c side start (t + 1) h1 (by omega)]
        exact le_snoc rfl (le_refl _) (by omega)
  · rw [h0, sum_snoc, hl]
    have := e.end_
    omega
  · rw [h0, sum_snoc]
    have := e.low
    omega
  · by_cases q : i < c.length - start
    · rw [hook_lo c side start i h1 q, List.length_append, e.len i (by omega)] <;> rfl
    · obtain ⟨t, rfl⟩ : ∃ t, i = c.length - start + t := ⟨i - (c.length - start), by omega⟩
      rw [hook_hi c side start t h1 (by omega), List.length_append, e.len _ (by omega)] <;> rfl
theorem Even.longer {cs : List Ch} {w n : Nat} (h : ∀ c ∈ cs, Even c w n) (side : Nat) : ∀ c ∈ longer cs side, Even c (w + side) (n + 1) := fun c hc => by
  obtain ⟨d, hd, hc⟩ := List.mem_flatMap.mp hc
  obtain ⟨k, hk, rfl⟩ := List.mem_map.mp hc
  have := List.mem_range.mp hk
  have h0 := (h d hd).ne
  exact (h d hd).hook side k (by omega) (by omega)
def grid (c : Ch) (side m s0 : Nat) : Ch := (c.take m).flatMap fun p => (List.range (side + 1 - s0)).map fun (t : Nat) => p ++ [((s0 + t : Nat) : Int)]
theorem flat_cons {α β : Type} (f : α → β) (g : α → List β) : ∀ l : List α, (l.flatMap fun p => f p :: g p).Perm (l.map f ++ l.flatMap g)
  | [] => .refl _
  | x :: l => by
    show (f x :: (g x ++ l.flatMap fun p => f p :: g p)).Perm (f x :: (l.map f ++ (g x ++ l.flatMap g)))
    refine List.Perm.cons _ (((flat_cons f g l).append_left (g x)).trans ?_)
    rw [← List.append_assoc, ← List.append_assoc]
    exact List.perm_append_comm.append_right _
theorem grid_step (c : Ch) (side j : Nat) (h1 : j < c.length) (h2 : j ≤ side) : (grid c side (c.length - j) j).Perm (hook c side j ++ grid c side (c.length - (j + 1)) (j + 1)) := by
  have lt : c.length - (j + 1) < c.length := by omega
  have e1 : c.take (c.length - j) = c.take (c.length - (j + 1)) ++ [at_ c (c.length - 1 - j)] := by
    have : c.length - j = (c.length - (j + 1)) + 1 := by omega
    rw [this, List.take_succ, List.getElem?_eq_getElem lt]
    unfold at_
    rw [List.getD_eq_getElem?_getD, show c.length - 1 - j = c.length - (j + 1) by omega, List.getElem?_eq_getElem lt] <;> rfl
  have e2 : ∀ p : List Int, ((List.range (side + 1 - j)).map fun (t : Nat) => p ++ [((j + t : Nat) : Int)]) = (p ++ [(j : Int)]) :: (List.range (side + 1 - (j + 1))).map fun (t : Nat) => p ++ [((j + 1 + t : Nat) : Int)] := fun p => by
    rw [show side + 1 - j = (side + 1 - (j + 1)) + 1 by omega, List.range_succ_eq_map, List.map_cons, List.map_map]
    refine congr (congrArg List.cons (by simp)) (List.map_congr_left fun t _ => ?_)
    show p ++ [((j + (t + 1) : Nat) : Int)] = _
    rw [show j + (t + 1) = j + 1 + t by omega]
  unfold grid hook
  rw [e1, List.flatMap_append, List.map_append]
  have e3 : ([at_ c (c.length - 1 - j)].flatMap fun p => (List.range (side + 1 - j)).map fun (t : Nat) => p ++ [((j + t : Nat) : Int)]) = [at_ c (c.length - 1 - j) ++ [(j : Int)]] ++ (List.range (side - j)).map fun (t : Nat) => at_ c (c.length - 1 - j) ++ [((j + 1 + t : Nat) : Int)] := by
    show ((List.range (side + 1 - j)).map fun (t : Nat) => at_ c (c.length - 1 - j) ++ [((j + t : Nat) : Int)]) ++ [] = _
    rw [List.append_nil, e2, show side + 1 - (j + 1) = side - j by omega] <;> rfl
  rw [e3]
  have e4 : ((c.take (c.length - (j + 1))).flatMap fun p => (List.range (side + 1 - j)).map fun (t : Nat) => p ++ [((j + t : Nat) : Int)]) = (c.take (c.length - (j + 1))).flatMap fun p => (p ++ [(j : Int)]) :: (List.range (side + 1 - (j + 1))).map fun (t : Nat) => p ++ [((j + 1 + t : Nat) : Int)] := by
    congr 1
    funext p
    exact e2 p
  rw [e4]
  refine ((flat_cons (fun p => p ++ [(j : Int)]) (fun p => (List.range (side + 1 - (j + 1))).map fun (t : Nat) => p ++ [((j + 1 + t : Nat) : Int)]) (c.take (c.length - (j + 1)))).append_right _).trans ?_
  show List.Perm ((_ ++ _) ++ (_ ++ _)) (((_ ++ [at_ c (c.length - 1 - j) ++ [(j : Int)]]) ++ _) ++ _)
  rw [List.append_assoc, List.append_assoc, List.append_assoc]
  refine List.Perm.append_left _ ?_
  refine List.perm_append_comm.trans ?_
  rw [List.append_assoc]
  exact .refl _
theorem hooks_grid (c : Ch) (side : Nat) : ∀ j, j ≤ min (c.length - 1) side + 1 → 0 < c.length → (grid c side c.length 0).Perm ((List.range j).flatMap (hook c side) ++ grid c side (c.length - j) j)
  | 0, _, _ => .refl _
  | j + 1, h, h0 => by
    refine (hooks_grid c side j (by omega) h0).trans ?_
    rw [List.range_succ, List.flatMap_append, List.append_assoc]
    refine List.Perm.append_left _ ?_
    have := grid_step c side j (by omega) (by omega)
    show (grid c side (c.length - j) j).Perm ((hook c side j ++ []) ++ _)
    rw [List.append_nil]
    exact this
theorem grid_grow (c : Ch) (side : Nat) : grid c side c.length 0 = grow c side := by
  unfold grid grow
  rw [List.take_length]
  congr 1
  funext p
  rw [Nat.sub_zero]
  refine List.map_congr_left fun t _ => ?_
  rw [Nat.zero_add]
theorem hooks_perm (c : Ch) (side : Nat) (h0 : 0 < c.length) : (hooks side c).flatten.Perm (grow c side) := by
  have z := hooks_grid c side (min (c.length - 1) side + 1) (Nat.le_refl _) h0
  have e : grid c side (c.length - (min (c.length - 1) side + 1)) (min (c.length - 1) side + 1) = [] := by
    unfold grid
    by_cases q : c.length - 1 ≤ side
    · rw [show c.length - (min (c.length - 1) side + 1) = 0 by omega, List.take_zero] <;> rfl
    · rw [show side + 1 - (min (c.length - 1) side + 1) = 0 by omega]
      simp
  rw [e, List.append_nil, grid_grow] at z
  exact z.symm
theorem grow_append (f g : List (List Int)) (s : Nat) : grow (f ++ g) s = grow f s ++ grow g s := List.flatMap_append
theorem longer_perm {cs : List Ch} (side : Nat) (h : ∀ c ∈ cs, 0 < c.length) : (longer cs side).flatten.Perm (grow cs.flatten side) := by
  induction cs with
  | nil => exact .refl _
  | cons c cs ih =>
    have e1 : longer (c :: cs) side = hooks side c ++ longer cs side := rfl
    rw [e1, List.flatten_append, List.flatten_cons, grow_append]
    exact (hooks_perm c side (h c List.mem_cons_self)).append (ih fun d hd => h d (List.mem_cons_of_mem _ hd))
theorem grow_perm {f g : List (List Int)} (h : f.Perm g) (s : Nat) : (grow f s).Perm (grow g s) := h.flatMap_right _
def chFrom (cs : List Ch) (box : List Nat) : List Ch := box.foldl longer cs
def chOf (box : List Nat) : List Ch := chFrom [[[]]] box
theorem ch_all : ∀ (box : List Nat) (cs : List Ch) (pts : List (List Int)) (w n : Nat), (∀ c ∈ cs, Even c w n) → cs.flatten.Perm pts → (∀ c ∈ chFrom cs box, Even c (w + box.sum) (n + box.length)) ∧ (chFrom cs box).flatten.Perm (ptsFrom pts box)
  | [], cs, pts, w, n, h, p => by simpa [chFrom, ptsFrom] using ⟨h, p⟩
  | s :: box, cs, pts, w, n, h, p => by
    have z := ch_all box (longer cs s) (grow pts s) (w + s) (n + 1) (Even.longer h s) ((longer_perm s fun c hc => (h c hc).ne).trans (grow_perm p s))
    rw [List.sum_cons, ← Nat.add_assoc, List.length_cons, show n + (box.length + 1) = n + 1 + box.length by omega]
    exact z
theorem even_nil : Even [[]] 0 0 where
  ne := by decide
  up i hi := by
    have : i = 0 := by simpa using hi
    subst this
    rfl
  le i hi := by simp at hi
  end_ := by decide
  low := by decide
  len i hi := by
    have : i = 0 := by simpa using hi
    subst this
    rfl
theorem chains_of (box : List Nat) : (∀ c ∈ chOf box, Even c box.sum box.length) ∧ (chOf box).flatten.Perm (ptsOf box) := by
  have z := ch_all box [[[]]] [[]] 0 0 (fun c hc => by rcases List.mem_singleton.mp hc with rfl; exact even_nil) (.refl _)
  rw [Nat.zero_add, Nat.zero_add] at z
  exact z
end Ri.G
set_option maxHeartbeats 1000000
namespace Ri.G
open Ri PySem
open Ri.Enc (enc)
/-- a chain goes through a rank -/
def cov (c : Ch) (k : Int) : Bool := decide ((at_ c 0).sum ≤ k) && decide (k < (at_ c 0).sum + c.length)
theorem cnt_run : ∀ (c : Ch) (lo k : Int), (∀ i, i < c.length → (at_ c i).sum = lo + i) → cnt c k = if lo ≤ k ∧ k < lo + c.length then 1 else 0
  | [], lo, k, _ => by rw [if_neg (show ¬ (lo ≤ k ∧ k < lo + (([] : Ch).length : Int)) by simp)] <;> rfl
  | p :: c, lo, k, h => by
    have h0 : p.sum = lo + (0 : Nat) := h 0 (by simp)
    have z := cnt_run c (lo + 1) k fun i hi => by
      have : (at_ (p :: c) (i + 1)).sum = lo + ((i + 1 : Nat) : Int) := h (i + 1) (by simpa using hi)
      show (at_ (p :: c) (i + 1)).sum = _
      rw [this]
      omega
    have e : cnt (p :: c) k = cnt c k + if p.sum == k then 1 else 0 := List.countP_cons
    rw [e, z]
    have hl : ((p :: c).length : Int) = c.length + 1 := by simp
    by_cases q : k = lo
    · have q2 : (p.sum == k) = true := by simp; omega
      rw [if_neg (show ¬ (lo + 1 ≤ k ∧ k < lo + 1 + (c.length : Int)) by omega), if_pos q2, if_pos (show lo ≤ k ∧ k < lo + ((p :: c).length : Int) by omega)]
    · have q2 : ¬ (p.sum == k) = true := by simp; omega
      rw [if_neg q2]
      by_cases r : lo + 1 ≤ k ∧ k < lo + 1 + (c.length : Int)
      · rw [if_pos r, if_pos (show lo ≤ k ∧ k < lo + ((p :: c).length : Int) by omega)]
      · rw [if_neg r, if_neg (show ¬ (lo ≤ k ∧ k < lo + ((p :: c).length : Int)) by omega)]
theorem cnt_flat (k : Int) {w n : Nat} : ∀ cs : List Ch, (∀ c ∈ cs, Even c w n) → cnt cs.flatten k = cs.countP fun c => cov c k
  | [], _ => rfl
  | c :: cs, h => by
    have e := h c List.mem_cons_self
    rw [List.flatten_cons, cnt_append, List.countP_cons, cnt_flat k cs (fun d hd => h d (List.mem_cons_of_mem _ hd)), cnt_run c (at_ c 0).sum k e.up, Nat.add_comm]
    congr 1
    unfold cov
    by_cases q : (at_ c 0).sum ≤ k ∧ k < (at_ c 0).sum + c.length
    · rw [if_pos q, decide_eq_true q.1, decide_eq_true q.2] <;> rfl
    · rw [if_neg q, ← Bool.decide_and, decide_eq_false q] <;> rfl
theorem cnt_perm {f g : List (List Int)} (h : f.Perm g) (k : Int) : cnt f k = cnt g k := h.countP_eq _
theorem cnt_pts (box : List Nat) (k : Int) : cnt (ptsOf box) k = (chOf box).countP fun c => cov c k := by
  obtain ⟨h, p⟩ := chains_of box
  rw [← cnt_perm p, cnt_flat k _ h]
theorem cnt_turn (box : List Nat) (k : Int) : cnt (ptsOf box) k = cnt (ptsOf box) (box.sum - k) := by
  rw [cnt_pts, cnt_pts]
  refine List.countP_congr fun c hc => ?_
  have e := (chains_of box).1 c hc
  have := e.end_
  unfold cov
  rw [← Bool.decide_and, ← Bool.decide_and, decide_eq_true_iff, decide_eq_true_iff]
  omega
theorem cnt_rise (box : List Nat) (k : Int) (h : 2 * (k + 1) ≤ box.sum) : cnt (ptsOf box) k ≤ cnt (ptsOf box) (k + 1) := by
  rw [cnt_pts, cnt_pts]
  refine List.countP_mono_left fun c hc q => ?_
  have e := (chains_of box).1 c hc
  have := e.end_
  unfold cov at q ⊢
  rw [← Bool.decide_and, decide_eq_true_iff] at q ⊢
  omega
theorem cnt_middle (box : List Nat) (k : Int) (h1 : 2 * k ≤ box.sum) (h2 : box.sum ≤ 2 * k + 1) : cnt (ptsOf box) k = (chOf box).length := by
  rw [cnt_pts, List.countP_eq_length]
  intro c hc
  have e := (chains_of box).1 c hc
  have := e.end_
  have := e.ne
  unfold cov
  rw [← Bool.decide_and, decide_eq_true_iff]
  omega
theorem cnt_most (box : List Nat) (k : Int) : cnt (ptsOf box) k ≤ (chOf box).length := by
  rw [cnt_pts]
  exact List.countP_le_length
theorem lt_snoc : ∀ {p q : List Int} (i j : Int), p.length = q.length → ltE p q = true → ltE (p ++ [i]) (q ++ [j]) = true
  | [], [], i, j, _, h => by have := Enc.irr ([] : List Int); unfold ltE at h; rw [this] at h; cases h
  | x :: p, y :: q, i, j, hl, h => by
    rcases (lts_cons x y p q).mp h with ⟨e, h'⟩ | h'
    · subst e
      exact (lts_cons x x (p ++ [i]) (q ++ [j])).mpr (.inl ⟨rfl, lt_snoc i j (by simpa using hl) h'⟩)
    · exact (lts_cons x y (p ++ [i]) (q ++ [j])).mpr (.inr h')
theorem lt_last : ∀ (p : List Int) {i j : Int}, i < j → ltE (p ++ [i]) (p ++ [j]) = true
  | [], i, j, h => (lts_cons i j [] []).mpr (.inr (decide_eq_true h))
  | x :: p, i, j, h => (lts_cons x x (p ++ [i]) (p ++ [j])).mpr (.inl ⟨rfl, lt_last p h⟩)
abbrev Up (l : List (List Int)) : Prop := l.Pairwise fun a b => ltE a b = true
theorem up_grow {f : List (List Int)} {n : Nat} (hn : ∀ p ∈ f, p.length = n) (h : Up f) (s : Nat) : Up (grow f s) := by
  show List.Pairwise _ (f.flatMap _)
  rw [List.pairwise_flatMap]
  refine ⟨fun p hp => ?_, ?_⟩
  · rw [List.pairwise_map]
    refine List.Pairwise.imp ?_ List.pairwise_lt_range
    intro a b hab
    exact lt_last p (by omega)
  · refine h.imp_of_mem fun {a b} ha hb hab x hx y hy => ?_
    obtain ⟨i, _, rfl⟩ := List.mem_map.mp hx
    obtain ⟨j, _, rfl⟩ := List.mem_map.mp hy
    exact lt_snoc i j (by rw [hn a ha, hn b hb]) hab
theorem up_from : ∀ (box : List Nat) (f : List (List Int)) (n : Nat), (∀ p ∈ f, p.length = n) → Up f → Up (ptsFrom f box)
  | [], _, _, _, h => h
  | s :: box, f, n, hn, h => up_from box (grow f s) (n + 1) (grow_len hn) (up_grow hn h s)
theorem up_pts (box : List Nat) : Up (ptsOf box) := up_from box _ 0 (by simp) (List.pairwise_singleton _ _)
theorem asc_pts (box : List Nat) : Asc (ptsOf box) := (up_pts box).imp fun h => ltE_asym h
theorem sort_pts (box : List Nat) : sortE (ptsOf box) = ptsOf box := sortE_of_asc (asc_pts box)
def okP (box : List Nat) (p : List Int) : Prop := p.length = box.length ∧ ((p.zip box).all fun z => decide (0 ≤ z.1) && decide (z.1 ≤ z.2)) = true
theorem okP_snoc {b : List Nat} {p : List Int} (h : okP b p) (s : Nat) {k : Nat} (hk : k ≤ s) : okP (b ++ [s]) (p ++ [(k : Int)]) := by
  refine ⟨by rw [List.length_append, List.length_append, h.1] <;> rfl, ?_⟩
  rw [List.zip_append h.1, List.all_append, h.2]
  simp
  omega
theorem okP_from : ∀ (box pre : List Nat) (f : List (List Int)), (∀ p ∈ f, okP pre p) → ∀ p ∈ ptsFrom f box, okP (pre ++ box) p
  | [], pre, f, h => by rw [List.append_nil]; exact h
  | s :: box, pre, f, h => by
    have e : pre ++ s :: box = (pre ++ [s]) ++ box := by rw [List.append_assoc] <;> rfl
    rw [e]
    refine okP_from box (pre ++ [s]) (grow f s) fun q hq => ?_
    obtain ⟨p, hp, k, hk, rfl⟩ := sum_grow hq
    exact okP_snoc (h p hp) s hk
theorem okP_pts (box : List Nat) : ∀ p ∈ ptsOf box, okP box p := okP_from box [] [[]] fun p hp => by
  rcases List.mem_singleton.mp hp with rfl
  exact ⟨rfl, rfl⟩
theorem pts_length : ∀ (box : List Nat) (f : List (List Int)), (ptsFrom f box).length = f.length * size box
  | [], f => by show f.length = f.length * 1; omega
  | s :: box, f => by
    show (ptsFrom (grow f s) box).length = _
    rw [pts_length box, grow_length, Nat.mul_assoc] <;> rfl
theorem pts_len (box : List Nat) : (ptsOf box).length = size box := by
  unfold ptsOf
  rw [pts_length, List.length_singleton, Nat.one_mul]
theorem rk_eq (box : List Nat) : rkOf box = (List.range (box.sum + 1)).map fun (k : Nat) => ((cnt (ptsOf box) k : Nat) : Int) := by
  have r := ranks_of box
  refine List.ext_getElem? fun m => ?_
  by_cases h : m < box.sum + 1
  · rw [List.getElem?_map, List.getElem?_range h, List.getElem?_eq_getElem (by rw [r.len]; exact h)]
    have := r.get m
    rw [List.getD_eq_getElem?_getD, List.getElem?_eq_getElem (by rw [r.len]; exact h)] at this
    exact congrArg some this
  · rw [List.getElem?_eq_none (by rw [r.len]; omega), List.getElem?_eq_none (by simp; omega)]
theorem maxI_le : ∀ (l : List Int) (a m : Int), a ≤ m → (∀ x ∈ l, x ≤ m) → maxI a l ≤ m
  | [], a, m, h, _ => h
  | x :: l, a, m, h, k => maxI_le l (max a x) m (Int.max_le.mpr ⟨h, k x List.mem_cons_self⟩) fun y hy => k y (List.mem_cons_of_mem _ hy)
theorem le_maxI : ∀ (l : List Int) (a : Int), a ≤ maxI a l ∧ ∀ x ∈ l, x ≤ maxI a l
  | [], a => ⟨Int.le_refl _, fun _ h => by cases h⟩
  | x :: l, a => by
    obtain ⟨h1, h2⟩ := le_maxI l (max a x)
    refine ⟨Int.le_trans (Int.le_max_left a x) h1, fun y hy => ?_⟩
    rcases List.mem_cons.mp hy with rfl | hy
    · exact Int.le_trans (Int.le_max_right a y) h1
    · exact h2 y hy
theorem maxI_eq {a m : Int} {l : List Int} (h : ∀ x ∈ a :: l, x ≤ m) (hm : m ∈ a :: l) : maxI a l = m := by
  obtain ⟨h1, h2⟩ := le_maxI l a
  refine Int.le_antisymm (maxI_le l a m (h a List.mem_cons_self) fun x hx => h x (List.mem_cons_of_mem _ hx)) ?_
  rcases List.mem_cons.mp hm with rfl | hm
  · exact h1
  · exact h2 m hm
theorem rk_max (box : List Nat) : ∃ a l, rkOf box = a :: l ∧ maxI a l = ((chOf box).length : Int) := by
  cases e : rkOf box with
  | nil =>
    have := (ranks_of box).len
    rw [e] at this
    simp at this
  | cons a l =>
    refine ⟨a, l, rfl, maxI_eq (fun x hx => ?_) ?_⟩
    · rw [← e, rk_eq] at hx
      obtain ⟨k, _, rfl⟩ := List.mem_map.mp hx
      have := cnt_most box k
      omega
    · rw [← e, rk_eq]
      exact List.mem_map.mpr ⟨box.sum / 2, List.mem_range.mpr (by omega), by rw [cnt_middle box _ (by omega) (by omega)]⟩
end Ri.G
set_option maxHeartbeats 1000000
namespace Ri.G
open Ri PySem
open Ri.Enc (enc)
structure Good (b : List Nat) : Prop where
  h1 : 1 ≤ b.length
  h5 : b.length ≤ 5
  side : ∀ s ∈ b, s ≤ 4
  size : size b ≤ 120
theorem prodI_size : ∀ (b : List Nat) (n : Nat), prodI n (b.map fun (s : Nat) => (s : Int)) = ((n * size b : Nat) : Int)
  | [], n => by show (n : Int) = ((n * 1 : Nat) : Int); omega
  | s :: b, n => by
    have e : (n : Int) * ((s : Int) + 1) = ((n * (s + 1) : Nat) : Int) := by simp
    show prodI ((n : Int) * ((s : Int) + 1)) (b.map fun (s : Nat) => (s : Int)) = _
    rw [e, prodI_size b, Nat.mul_assoc] <;> rfl
theorem Good.sum_le : ∀ {b : List Nat}, (∀ s ∈ b, s ≤ 4) → b.sum ≤ 4 * b.length
  | [], _ => Nat.le_refl _
  | s :: b, h => by
    have h1 := h s List.mem_cons_self
    have h2 := Good.sum_le fun t ht => h t (List.mem_cons_of_mem _ ht)
    simp only [List.sum_cons, List.length_cons]
    omega
theorem Good.box {b : List Nat} (g : Good b) : isBoxD (bx b) = true := by
  have e : bx b = .tup ((b.map fun (s : Nat) => (s : Int)).map D.int) := bx_pt b
  rw [e]
  show (decide (1 ≤ ((b.map fun (s : Nat) => (s : Int)).map D.int).length) && decide (((b.map fun (s : Nat) => (s : Int)).map D.int).length ≤ 5) && ((b.map fun (s : Nat) => (s : Int)).map D.int).all isW && boxI ((intsOf ((b.map fun (s : Nat) => (s : Int)).map D.int)).getD [])) = true
  rw [all_isW, intsOf_map]
  have h1 := g.h1
  have h2 := g.h5
  have h3 := g.size
  have z := prodI_size b 1
  have e2 : boxI (b.map fun (s : Nat) => (s : Int)) = true := by
    unfold boxI
    rw [Bool.and_eq_true]
    refine ⟨?_, ?_⟩
    · rw [List.all_map, List.all_eq_true]
      intro s hs
      have := g.side s hs
      simp
      omega
    · rw [decide_eq_true_iff]
      have z : prodI 1 (b.map fun (s : Nat) => (s : Int)) = ((1 * G.size b : Nat) : Int) := z
      omega
  simp [e2]
  omega
theorem bx_dt (b : List Nat) : isDt (bx b) = true := by rw [bx_pt]; exact Enc.dt (α := List Int) _
theorem Good.lim {b : List Nat} (g : Good b) : ∀ l, bx b = .tup l → l.length ≤ 1000 ∧ ∀ i, D.int i ∈ l → -10 ≤ i ∧ i ≤ 10 := fun l h => by
  cases h
  refine ⟨by have := g.h5; simp; omega, fun i hi => ?_⟩
  obtain ⟨s, hs, e⟩ := List.mem_map.mp hi
  cases e
  have := g.side s hs
  omega
theorem f2g (n : Nat) (bs : List Nat) (S : Sto) {b : List Nat} (g : Good b) : Fn (n + 2) 2 bs [bx b] S = .ok (.bl true) S := by
  rw [f2 n bs S (bx_dt b) g.lim, g.box]
theorem f3g (n : Nat) (bs : List Nat) (S : Sto) {b : List Nat} (g : Good b) : Fn (n + 3) 3 bs [bx b] S = .ok .non S := f3 n bs S (bx_dt b) g.lim g.box
theorem f1 (n : Nat) (bs : List Nat) (S : Sto) (a b : List Int) (ha : ∀ z ∈ a, z.natAbs ≤ 1000000000000) (hb : ∀ z ∈ b, z.natAbs ≤ 1000000000000) (h0 : 0 < a.length + b.length) (hl : a.length + b.length ≤ LIM) :
    Fn (n + 1) 1 bs [.lst (a.map D.int), .lst (b.map D.int)] S = .ok (.lst ((mulP a b).map D.int)) S := times_run (cN pg FU n) bs S a b ha hb h0 hl
theorem cnt_le (f : List (List Int)) (k : Int) : cnt f k ≤ f.length := List.countP_le_length
theorem Ranks.small {f : List Int} {pts : List (List Int)} {w : Nat} (r : Ranks f pts w) (h : pts.length ≤ 1000) : ∀ z ∈ f, z.natAbs ≤ 1000000000000 := fun z hz => by
  obtain ⟨i, hi, e⟩ := List.getElem_of_mem hz
  have := r.get i
  rw [List.getD_eq_getElem?_getD, List.getElem?_eq_getElem hi] at this
  have h2 := cnt_le pts i
  have : z = cnt pts i := by rw [← e]; exact this
  omega
theorem for6 (n : Nat) (bs : List Nat) (S : Sto) (x : Option D) : ∀ (ys : List Nat) (f : List Int) (pts : List (List Int)) (w : Nat) (a : Option D), Ranks f pts w → 0 < pts.length → pts.length * size ys ≤ 1000 → w + ys.sum ≤ 1000 →
    ∃ a', forGo (fun x v => match bindT v (.nm 2) x with
      | some v => xss (cN pg FU (n + 1)) bs d6b0 v
      | none => bad) (ys.map fun (n : Nat) => D.int n) [x, some (.lst (f.map D.int)), a] S = .ok (.nx, [x, some (.lst ((rkFrom f ys).map D.int)), a']) S
  | [], f, pts, w, a, _, _, _, _ => ⟨a, rfl⟩
  | s :: ys, f, pts, w, a, r, h0, hl, hw => by
    obtain ⟨h1, h2⟩ := size_le hl
    have h3 := side_le h1 h0
    have g1 := grow_length pts s
    have hw : w + (s + ys.sum) ≤ 1000 := by simpa using hw
    obtain ⟨a', e⟩ := for6 n bs S x ys (mulP f (List.replicate (s + 1) 1)) (grow pts s) (w + s) (some (.int s)) (r.grow s) (by rw [g1]; exact Nat.mul_pos h0 (Nat.succ_pos s)) (by rw [g1]; exact h2) (by omega)
    refine ⟨a', (forGo_nx ?_).trans e⟩
    show xss (cN pg FU (n + 1)) bs d6b0 [x, some (.lst (f.map D.int)), some (.int s)] S = _
    have e1 : arith S .mul (.lst [.int 1]) (.int ((s : Int) + 1)) = some (.lst ((List.replicate (s + 1) (1 : Int)).map D.int)) := by
      show (repM S (.lst [.int 1]) (((s + 1 : Nat) : Int))).map D.lst = _
      rw [repM_one S (.int 1) (n := s + 1) (by show s + 1 ≤ 1000000; omega), List.map_replicate] <;> rfl
    have e2 := f1 n bs S f (List.replicate (s + 1) 1) (r.small (Nat.le_trans (Nat.le_mul_of_pos_right _ (Nat.succ_pos s)) h1)) (fun z hz => by rw [(List.mem_replicate.mp hz).2]; decide) (by rw [r.len]; omega) (by rw [r.len, List.length_replicate]; show _ ≤ 1000000; omega)
    simp only [d6b0, b_ok, b_ex, b_bad, bnd_b, ret_ap, bad_ap, ofO_some, ofO_none, getV_cons, getV_zero, nxt_nx, nxt_ret, nxt_brk, nxt_cnt, s_nil, s_cons, s_asg, a_nm, s_ex, s_ret, s_retN, s_iff, s_pas, s_brk, s_cnt, s_rai, e_var, e_cst, e_glo, e_bin, negD_int, e_neg, e_cmp, e_chn, notD_bl, e_not, isB_bl, e_and, e_or, and_nil, and_cons, or_nil, or_cons, e_ite, e_tup, limM_b, e_ls, e_mk, l_ls, l_cat, repD_int, l_rep, l_lc, l_of, e_call, e_pri, e_idx, e_lc, e_rev, revTD_tup, e_revT, toI_int, o_none, o_some, e_sli, es_nil, es_cons, t_cmp, t_chn, t_var, t_call, t_pri, t_cst, t_not, t_and, t_or, tand_nil, tand_cons, tor_nil, tor_cons, cond_none, cond_some, tru_bl, tru_int, itOf_lst, itOf_tup, i_seq, i_rg1, i_rg2, enD_lst, enD_tup, i_enum, zipD_lst, zipD_tup, i_zip, s_fr, c_eqI, c_neI, c_ltI, c_leI, c_gtI, c_geI, c_is, c_isn, ar_add, ar_sub, p_lenT, p_lenL, p_tuple, p_tupleT, p_list, p_listL, p_sorted, p_min2, p_max2, p_sumT, p_sumL, p_all, p_any, k_and, k_or, k_andT, k_orT, k_opt, k_lim, beq_nat, lim1, lim0, lim2, lim3, lim4, isTu_tup, isW_int, List.set_cons_zero, List.set_cons_succ, Option.map_some, Option.map_none, cond_true, cond_false, Bool.not_true, Bool.not_false, List.length_cons, List.length_nil, List.length_map, reduceIte, Bool.true_and, Bool.and_true, Bool.false_and, Bool.and_false, Bool.or_true, Bool.true_or, Bool.false_or, Bool.or_false, Bool.false_eq_true, e1, e2]
theorem f6 (n : Nat) (bs : List Nat) (S : Sto) {b : List Nat} (g : Good b) : Fn (n + 2) 6 bs [bx b] S = .ok (.lst ((rkOf b).map D.int)) S := by
  have g1 := g.size
  have g2 := Good.sum_le g.side
  have g3 := g.h5
  obtain ⟨a', e⟩ := for6 n (S.length :: bs) S (some (bx b)) b [1] [[]] 0 none ranks_nil (by decide) (by simp; omega) (by omega)
  refine run_dt (C := cN pg FU (n + 1)) (f := d6) rfl rfl rfl (v0 := [some (bx b), none, none]) (v := [some (bx b), some (.lst ((rkOf b).map D.int)), a']) ?_ (dts_map (α := Int) _)
  have e1 : xs (cN pg FU (n + 1)) (S.length :: bs) d6f0 [some (bx b), some (.lst [.int 1]), none] S = _ := s_for (S1 := S) (l := b.map fun (n : Nat) => D.int n) (by simp only [b_ok, b_ex, b_bad, bnd_b, ret_ap, bad_ap, ofO_some, ofO_none, getV_cons, getV_zero, nxt_nx, nxt_ret, nxt_brk, nxt_cnt, s_nil, s_cons, s_asg, a_nm, s_ex, s_ret, s_retN, s_iff, s_pas, s_brk, s_cnt, s_rai, e_var, e_cst, e_glo, e_bin, negD_int, e_neg, e_cmp, e_chn, notD_bl, e_not, isB_bl, e_and, e_or, and_nil, and_cons, or_nil, or_cons, e_ite, e_tup, limM_b, e_ls, e_mk, l_ls, l_cat, repD_int, l_rep, l_lc, l_of, e_call, e_pri, e_idx, e_lc, e_rev, revTD_tup, e_revT, toI_int, o_none, o_some, e_sli, es_nil, es_cons, t_cmp, t_chn, t_var, t_call, t_pri, t_cst, t_not, t_and, t_or, tand_nil, tand_cons, tor_nil, tor_cons, cond_none, cond_some, tru_bl, tru_int, itOf_lst, itOf_tup, i_seq, i_rg1, i_rg2, enD_lst, enD_tup, i_enum, zipD_lst, zipD_tup, i_zip, s_fr, c_eqI, c_neI, c_ltI, c_leI, c_gtI, c_geI, c_is, c_isn, ar_add, ar_sub, p_lenT, p_lenL, p_tuple, p_tupleT, p_list, p_listL, p_sorted, p_min2, p_max2, p_sumT, p_sumL, p_all, p_any, k_and, k_or, k_andT, k_orT, k_opt, k_lim, beq_nat, lim1, lim0, lim2, lim3, lim4, isTu_tup, isW_int, List.set_cons_zero, List.set_cons_succ, Option.map_some, Option.map_none, cond_true, cond_false, Bool.not_true, Bool.not_false, List.length_cons, List.length_nil, List.length_map, reduceIte, Bool.true_and, Bool.and_true, Bool.false_and, Bool.and_false, Bool.or_true, Bool.true_or, Bool.false_or, Bool.or_false, Bool.false_eq_true]) e
  simp only [d6, b_ok, b_ex, b_bad, bnd_b, ret_ap, bad_ap, ofO_some, ofO_none, getV_cons, getV_zero, nxt_nx, nxt_ret, nxt_brk, nxt_cnt, s_nil, s_cons, s_asg, a_nm, s_ex, s_ret, s_retN, s_iff, s_pas, s_brk, s_cnt, s_rai, e_var, e_cst, e_glo, e_bin, negD_int, e_neg, e_cmp, e_chn, notD_bl, e_not, isB_bl, e_and, e_or, and_nil, and_cons, or_nil, or_cons, e_ite, e_tup, limM_b, e_ls, e_mk, l_ls, l_cat, repD_int, l_rep, l_lc, l_of, e_call, e_pri, e_idx, e_lc, e_rev, revTD_tup, e_revT, toI_int, o_none, o_some, e_sli, es_nil, es_cons, t_cmp, t_chn, t_var, t_call, t_pri, t_cst, t_not, t_and, t_or, tand_nil, tand_cons, tor_nil, tor_cons, cond_none, cond_some, tru_bl, tru_int, itOf_lst, itOf_tup, i_seq, i_rg1, i_rg2, enD_lst, enD_tup, i_enum, zipD_lst, zipD_tup, i_zip, s_fr, c_eqI, c_neI, c_ltI, c_leI, c_gtI, c_geI, c_is, c_isn, ar_add, ar_sub, p_lenT, p_lenL, p_tuple, p_tupleT, p_list, p_listL, p_sorted, p_min2, p_max2, p_sumT, p_sumL, p_all, p_any, k_and, k_or, k_andT, k_orT, k_opt, k_lim, beq_nat, lim1, lim0, lim2, lim3, lim4, isTu_tup, isW_int, List.set_cons_zero, List.set_cons_succ, Option.map_some, Option.map_none, cond_true, cond_false, Bool.not_true, Bool.not_false, List.length_cons, List.length_nil, List.length_map, reduceIte, Bool.true_and, Bool.and_true, Bool.false_and, Bool.and_false, Bool.or_true, Bool.true_or, Bool.false_or, Bool.or_false, Bool.false_eq_true, e1] <;> rfl
theorem f7 (n : Nat) (bs : List Nat) (S : Sto) {b : List Nat} (g : Good b) : Fn (n + 4) 7 bs [bx b] S = .ok (.tup ((rkOf b).map D.int)) S := by
  refine run_dt (C := cN pg FU (n + 3)) (f := d7) rfl rfl rfl (v0 := [some (bx b)]) (v := [some (bx b)]) ?_ (dts_map (α := Int) _)
  simp only [d7, b_ok, b_ex, b_bad, bnd_b, ret_ap, bad_ap, ofO_some, ofO_none, getV_cons, getV_zero, nxt_nx, nxt_ret, nxt_brk, nxt_cnt, s_nil, s_cons, s_asg, a_nm, s_ex, s_ret, s_retN, s_iff, s_pas, s_brk, s_cnt, s_rai, e_var, e_cst, e_glo, e_bin, negD_int, e_neg, e_cmp, e_chn, notD_bl, e_not, isB_bl, e_and, e_or, and_nil, and_cons, or_nil, or_cons, e_ite, e_tup, limM_b, e_ls, e_mk, l_ls, l_cat, repD_int, l_rep, l_lc, l_of, e_call, e_pri, e_idx, e_lc, e_rev, revTD_tup, e_revT, toI_int, o_none, o_some, e_sli, es_nil, es_cons, t_cmp, t_chn, t_var, t_call, t_pri, t_cst, t_not, t_and, t_or, tand_nil, tand_cons, tor_nil, tor_cons, cond_none, cond_some, tru_bl, tru_int, itOf_lst, itOf_tup, i_seq, i_rg1, i_rg2, enD_lst, enD_tup, i_enum, zipD_lst, zipD_tup, i_zip, s_fr, c_eqI, c_neI, c_ltI, c_leI, c_gtI, c_geI, c_is, c_isn, ar_add, ar_sub, p_lenT, p_lenL, p_tuple, p_tupleT, p_list, p_listL, p_sorted, p_min2, p_max2, p_sumT, p_sumL, p_all, p_any, k_and, k_or, k_andT, k_orT, k_opt, k_lim, beq_nat, lim1, lim0, lim2, lim3, lim4, isTu_tup, isW_int, List.set_cons_zero, List.set_cons_succ, Option.map_some, Option.map_none, cond_true, cond_false, Bool.not_true, Bool.not_false, List.length_cons, List.length_nil, List.length_map, reduceIte, Bool.true_and, Bool.and_true, Bool.false_and, Bool.and_false, Bool.or_true, Bool.true_or, Bool.false_or, Bool.or_false, Bool.false_eq_true, f3g n _ _ g, f6 (n + 1) _ _ g]
theorem f14 (n : Nat) (bs : List Nat) (S : Sto) {b : List Nat} (g : Good b) : Fn (n + 4) 14 bs [bx b] S = .ok (.int (chOf b).length) S := by
  refine run_dt (C := cN pg FU (n + 3)) (f := d14) rfl rfl rfl (v0 := [some (bx b)]) (v := [some (bx b)]) ?_ rfl
  obtain ⟨a, l, e1, e2⟩ := rk_max b
  have e3 : prim S .max1 [.lst ((rkOf b).map D.int)] = some (.int (chOf b).length) := by
    show headI maxI (intsOf ((rkOf b).map D.int)) = _
    rw [intsOf_map, e1]
    show some (D.int (maxI a l)) = _
    rw [e2]
  simp only [d14, b_ok, b_ex, b_bad, bnd_b, ret_ap, bad_ap, ofO_some, ofO_none, getV_cons, getV_zero, nxt_nx, nxt_ret, nxt_brk, nxt_cnt, s_nil, s_cons, s_asg, a_nm, s_ex, s_ret, s_retN, s_iff, s_pas, s_brk, s_cnt, s_rai, e_var, e_cst, e_glo, e_bin, negD_int, e_neg, e_cmp, e_chn, notD_bl, e_not, isB_bl, e_and, e_or, and_nil, and_cons, or_nil, or_cons, e_ite, e_tup, limM_b, e_ls, e_mk, l_ls, l_cat, repD_int, l_rep, l_lc, l_of, e_call, e_pri, e_idx, e_lc, e_rev, revTD_tup, e_revT, toI_int, o_none, o_some, e_sli, es_nil, es_cons, t_cmp, t_chn, t_var, t_call, t_pri, t_cst, t_not, t_and, t_or, tand_nil, tand_cons, tor_nil, tor_cons, cond_none, cond_some, tru_bl, tru_int, itOf_lst, itOf_tup, i_seq, i_rg1, i_rg2, enD_lst, enD_tup, i_enum, zipD_lst, zipD_tup, i_zip, s_fr, c_eqI, c_neI, c_ltI, c_leI, c_gtI, c_geI, c_is, c_isn, ar_add, ar_sub, p_lenT, p_lenL, p_tuple, p_tupleT, p_list, p_listL, p_sorted, p_min2, p_max2, p_sumT, p_sumL, p_all, p_any, k_and, k_or, k_andT, k_orT, k_opt, k_lim, beq_nat, lim1, lim0, lim2, lim3, lim4, isTu_tup, isW_int, List.set_cons_zero, List.set_cons_succ, Option.map_some, Option.map_none, cond_true, cond_false, Bool.not_true, Bool.not_false, List.length_cons, List.length_nil, List.length_map, reduceIte, Bool.true_and, Bool.and_true, Bool.false_and, Bool.and_false, Bool.or_true, Bool.true_or, Bool.false_or, Bool.or_false, Bool.false_eq_true, f3g n _ _ g, f6 (n + 1) _ _ g, e3]
theorem Even.points {c : Ch} {w n : Nat} (e : Even c w n) : ∀ p ∈ c, p.length = n := fun p hp => by
  obtain ⟨i, hi, rfl⟩ := List.getElem_of_mem hp
  have := e.len i hi
  unfold at_ at this
  rw [List.getD_eq_getElem?_getD, List.getElem?_eq_getElem hi] at this
  exact this
theorem longer_length (side : Nat) : ∀ cs : List Ch, (longer cs side).length ≤ cs.length * (side + 1)
  | [] => Nat.zero_le _
  | c :: cs => by
    have h1 := hooks_length side c
    have h2 := longer_length side cs
    show (hooks side c ++ longer cs side).length ≤ (cs.length + 1) * (side + 1)
    rw [List.length_append, Nat.add_mul]
    omega
theorem for9 (n : Nat) (bs : List Nat) (S : Sto) (x : Option D) : ∀ (ys : List Nat) (cs : List Ch) (w k : Nat) (a : Option D), (∀ c ∈ cs, Even c w k) → cs.length * size ys ≤ 1000 → w + ys.sum ≤ 900 → k + ys.length ≤ 900 →
    ∃ a', forGo (fun x v => match bindT v (.nm 2) x with
      | some v => xss (cN pg FU (n + 1)) bs d9b0 v
      | none => bad) (ys.map fun (n : Nat) => D.int n) [x, some (.lst (cs.map ch)), a] S = .ok (.nx, [x, some (.lst ((chFrom cs ys).map ch)), a']) S
  | [], cs, w, k, a, _, _, _, _ => ⟨a, rfl⟩
  | s :: ys, cs, w, k, a, hc, hl, hw, hk => by
    obtain ⟨h1, h2⟩ := size_le hl
    have hw : w + (s + ys.sum) ≤ 900 := by simpa using hw
    have hk : k + (ys.length + 1) ≤ 900 := hk
    obtain ⟨a', e⟩ := for9 n bs S x ys (longer cs s) (w + s) (k + 1) (some (.int s)) (Even.longer hc s) (Nat.le_trans (Nat.mul_le_mul_right _ (longer_length s cs)) h2) (by omega) (by omega)
    refine ⟨a', (forGo_nx ?_).trans e⟩
    show xss (cN pg FU (n + 1)) bs d9b0 [x, some (.lst (cs.map ch)), some (.int s)] S = _
    have e2 := f8 n bs S (cs := cs) (side := s) (fun c h => by
      have e := hc c h
      have := e.end_
      have := e.low
      refine ⟨List.length_pos_iff.mp e.ne, by omega, fun p hp => by rw [e.points p hp]; omega⟩) (by omega)
    simp only [d9b0, b_ok, b_ex, b_bad, bnd_b, ret_ap, bad_ap, ofO_some, ofO_none, getV_cons, getV_zero, nxt_nx, nxt_ret, nxt_brk, nxt_cnt, s_nil, s_cons, s_asg, a_nm, s_ex, s_ret, s_retN, s_iff, s_pas, s_brk, s_cnt, s_rai, e_var, e_cst, e_glo, e_bin, negD_int, e_neg, e_cmp, e_chn, notD_bl, e_not, isB_bl, e_and, e_or, and_nil, and_cons, or_nil, or_cons, e_ite, e_tup, limM_b, e_ls, e_mk, l_ls, l_cat, repD_int, l_rep, l_lc, l_of, e_call, e_pri, e_idx, e_lc, e_rev, revTD_tup, e_revT, toI_int, o_none, o_some, e_sli, es_nil, es_cons, t_cmp, t_chn, t_var, t_call, t_pri, t_cst, t_not, t_and, t_or, tand_nil, tand_cons, tor_nil, tor_cons, cond_none, cond_some, tru_bl, tru_int, itOf_lst, itOf_tup, i_seq, i_rg1, i_rg2, enD_lst, enD_tup, i_enum, zipD_lst, zipD_tup, i_zip, s_fr, c_eqI, c_neI, c_ltI, c_leI, c_gtI, c_geI, c_is, c_isn, ar_add, ar_sub, p_lenT, p_lenL, p_tuple, p_tupleT, p_list, p_listL, p_sorted, p_min2, p_max2, p_sumT, p_sumL, p_all, p_any, k_and, k_or, k_andT, k_orT, k_opt, k_lim, beq_nat, lim1, lim0, lim2, lim3, lim4, isTu_tup, isW_int, List.set_cons_zero, List.set_cons_succ, Option.map_some, Option.map_none, cond_true, cond_false, Bool.not_true, Bool.not_false, List.length_cons, List.length_nil, List.length_map, reduceIte, Bool.true_and, Bool.and_true, Bool.false_and, Bool.and_false, Bool.or_true, Bool.true_or, Bool.false_or, Bool.or_false, Bool.false_eq_true, e2]
theorem noEmp_ch {cs : List Ch} (h : ∀ c ∈ cs, 0 < c.length) : noEmp (cs.map ch) = true := by
  unfold noEmp
  rw [List.all_eq_true]
  intro d hd
  obtain ⟨c, hc, rfl⟩ := List.mem_map.mp hd
  cases c with
  | nil => exact absurd (h [] hc) (by simp)
  | cons p c => rfl
theorem ch_length : ∀ (box : List Nat) (cs : List Ch), (chFrom cs box).length ≤ cs.length * size box
  | [], cs => by show cs.length ≤ cs.length * 1; omega
  | s :: box, cs => by
    have z := ch_length box (longer cs s)
    show (chFrom (longer cs s) box).length ≤ cs.length * ((s + 1) * G.size box)
    rw [← Nat.mul_assoc]
    exact Nat.le_trans z (Nat.mul_le_mul_right _ (longer_length s cs))
theorem chOf_length (box : List Nat) : (chOf box).length ≤ size box := by
  have z := ch_length box [[[]]]
  rw [List.length_singleton, Nat.one_mul] at z
  exact z
theorem f9 (n : Nat) (bs : List Nat) (S : Sto) {b : List Nat} (g : Good b) : Fn (n + 4) 9 bs [bx b] S = .ok (.tup ((sortE (chOf b)).map ch)) S := by
  have g1 := g.size
  have g2 := Good.sum_le g.side
  have g3 := g.h5
  have g4 := chOf_length b
  obtain ⟨a', e⟩ := for9 (n + 2) (S.length :: bs) S (some (bx b)) b [[[]]] 0 0 none (fun c hc => by rcases List.mem_singleton.mp hc with rfl; exact even_nil) (by simp; omega) (by omega) (by omega)
  refine run_dt (C := cN pg FU (n + 3)) (f := d9) rfl rfl rfl (v0 := [some (bx b), none, none]) (v := [some (bx b), some (.lst ((chOf b).map ch)), a']) ?_ (dts_map (α := Ch) _)
  have e1 : xs (cN pg FU (n + 3)) (S.length :: bs) d9f0 [some (bx b), some (.lst [.tup [.tup []]]), none] S = _ := s_for (S1 := S) (l := b.map fun (n : Nat) => D.int n) (by simp only [b_ok, b_ex, b_bad, bnd_b, ret_ap, bad_ap, ofO_some, ofO_none, getV_cons, getV_zero, nxt_nx, nxt_ret, nxt_brk, nxt_cnt, s_nil, s_cons, s_asg, a_nm, s_ex, s_ret, s_retN, s_iff, s_pas, s_brk, s_cnt, s_rai, e_var, e_cst, e_glo, e_bin, negD_int, e_neg, e_cmp, e_chn, notD_bl, e_not, isB_bl, e_and, e_or, and_nil, and_cons, or_nil, or_cons, e_ite, e_tup, limM_b, e_ls, e_mk, l_ls, l_cat, repD_int, l_rep, l_lc, l_of, e_call, e_pri, e_idx, e_lc, e_rev, revTD_tup, e_revT, toI_int, o_none, o_some, e_sli, es_nil, es_cons, t_cmp, t_chn, t_var, t_call, t_pri, t_cst, t_not, t_and, t_or, tand_nil, tand_cons, tor_nil, tor_cons, cond_none, cond_some, tru_bl, tru_int, itOf_lst, itOf_tup, i_seq, i_rg1, i_rg2, enD_lst, enD_tup, i_enum, zipD_lst, zipD_tup, i_zip, s_fr, c_eqI, c_neI, c_ltI, c_leI, c_gtI, c_geI, c_is, c_isn, ar_add, ar_sub, p_lenT, p_lenL, p_tuple, p_tupleT, p_list, p_listL, p_sorted, p_min2, p_max2, p_sumT, p_sumL, p_all, p_any, k_and, k_or, k_andT, k_orT, k_opt, k_lim, beq_nat, lim1, lim0, lim2, lim3, lim4, isTu_tup, isW_int, List.set_cons_zero, List.set_cons_succ, Option.map_some, Option.map_none, cond_true, cond_false, Bool.not_true, Bool.not_false, List.length_cons, List.length_nil, List.length_map, reduceIte, Bool.true_and, Bool.and_true, Bool.false_and, Bool.and_false, Bool.or_true, Bool.true_or, Bool.false_or, Bool.or_false, Bool.false_eq_true]) e
  have e2 : sortedD S (.lst ((chOf b).map ch)) = some (.lst ((sortE (chOf b)).map ch)) := sorted_enc (α := Ch) (by decide) (by show _ ≤ 1000000; omega) (by
    have := noEmp_ch fun c hc => ((chains_of b).1 c hc).ne
    show (noEmp ((chOf b).map ch) || _) = true
    rw [this] <;> rfl)
  have e2 : sortedD S (.lst ((chFrom [[[]]] b).map ch)) = some (.lst ((sortE (chOf b)).map ch)) := e2
  simp only [d9, b_ok, b_ex, b_bad, bnd_b, ret_ap, bad_ap, ofO_some, ofO_none, getV_cons, getV_zero, nxt_nx, nxt_ret, nxt_brk, nxt_cnt, s_nil, s_cons, s_asg, a_nm, s_ex, s_ret, s_retN, s_iff, s_pas, s_brk, s_cnt, s_rai, e_var, e_cst, e_glo, e_bin, negD_int, e_neg, e_cmp, e_chn, notD_bl, e_not, isB_bl, e_and, e_or, and_nil, and_cons, or_nil, or_cons, e_ite, e_tup, limM_b, e_ls, e_mk, l_ls, l_cat, repD_int, l_rep, l_lc, l_of, e_call, e_pri, e_idx, e_lc, e_rev, revTD_tup, e_revT, toI_int, o_none, o_some, e_sli, es_nil, es_cons, t_cmp, t_chn, t_var, t_call, t_pri, t_cst, t_not, t_and, t_or, tand_nil, tand_cons, tor_nil, tor_cons, cond_none, cond_some, tru_bl, tru_int, itOf_lst, itOf_tup, i_seq, i_rg1, i_rg2, enD_lst, enD_tup, i_enum, zipD_lst, zipD_tup, i_zip, s_fr, c_eqI, c_neI, c_ltI, c_leI, c_gtI, c_geI, c_is, c_isn, ar_add, ar_sub, p_lenT, p_lenL, p_tuple, p_tupleT, p_list, p_listL, p_sorted, p_min2, p_max2, p_sumT, p_sumL, p_all, p_any, k_and, k_or, k_andT, k_orT, k_opt, k_lim, beq_nat, lim1, lim0, lim2, lim3, lim4, isTu_tup, isW_int, List.set_cons_zero, List.set_cons_succ, Option.map_some, Option.map_none, cond_true, cond_false, Bool.not_true, Bool.not_false, List.length_cons, List.length_nil, List.length_map, reduceIte, Bool.true_and, Bool.and_true, Bool.false_and, Bool.and_false, Bool.or_true, Bool.true_or, Bool.false_or, Bool.or_false, Bool.false_eq_true, f3g n _ _ g, e1, e2] <;> rfl
end Ri.G
set_option maxHeartbeats 1000000
namespace Ri.G
open Ri PySem
open Ri.Enc (enc)
theorem depL_le {l : List D} {n : Nat} : depL l ≤ n ↔ ∀ x ∈ l, depD x ≤ n := by
  induction l with
  | nil => simp [depL]
  | cons x r ih =>
    show Nat.max (depD x) (depL r) ≤ n ↔ _
    rw [show Nat.max (depD x) (depL r) ≤ n ↔ depD x ≤ n ∧ depL r ≤ n from Nat.max_le, ih]
    simp
theorem small_lst {l : List D} (h : ∀ x ∈ l, isDt x = true ∧ depD x ≤ 59) : small (.lst l) = true :=
  small_dt (show isDts l = true from dts_iff.mpr fun x hx => (h x hx).1) (Nat.succ_le_succ (depL_le.mpr fun x hx => (h x hx).2))
theorem small_tup {l : List D} (h : ∀ x ∈ l, isDt x = true ∧ depD x ≤ 59) : small (.tup l) = true :=
  small_dt (show isDts l = true from dts_iff.mpr fun x hx => (h x hx).1) (Nat.succ_le_succ (depL_le.mpr fun x hx => (h x hx).2))
theorem eq_nil (l : List D) : eqD (.lst l) (.lst []) = l.isEmpty := by cases l <;> rfl
theorem eq_tnil (l : List D) : eqD (.tup l) (.tup []) = l.isEmpty := by cases l <;> rfl
theorem c_eq_nil (S : Sto) {l : List D} (h : ∀ x ∈ l, isDt x = true ∧ depD x ≤ 59) : cmpD S .eq (.lst l) (.lst []) = some l.isEmpty := by
  show eqq S (.lst l) (.lst []) = _
  rw [eqq_small (small_lst h) (by rfl), eq_nil]
theorem c_ne_nil (S : Sto) {l : List D} (h : ∀ x ∈ l, isDt x = true ∧ depD x ≤ 59) : cmpD S .ne (.lst l) (.lst []) = some (!l.isEmpty) := by
  show (eqq S (.lst l) (.lst [])).map (!·) = _
  rw [eqq_small (small_lst h) (by rfl), eq_nil] <;> rfl
theorem c_eq_tnil (S : Sto) {l : List D} (h : ∀ x ∈ l, isDt x = true ∧ depD x ≤ 59) : cmpD S .eq (.tup l) (.tup []) = some l.isEmpty := by
  show eqq S (.tup l) (.tup []) = _
  rw [eqq_small (small_tup h) (by rfl), eq_tnil]
theorem filter_empty {α : Type} (p : α → Bool) (l : List α) : (l.filter fun z => !p z).isEmpty = l.all p := by
  rw [Bool.eq_iff_iff, List.isEmpty_iff, List.filter_eq_nil_iff, List.all_eq_true]
  simp
theorem int_ok {α : Type} (f : α → Int) (l : List α) : ∀ x ∈ l.map (fun a => D.int (f a)), isDt x = true ∧ depD x ≤ 59 := fun x hx => by
  obtain ⟨a, _, rfl⟩ := List.mem_map.mp hx
  exact ⟨rfl, Nat.zero_le _⟩
theorem zip_all_iff {α β : Type} (f : α × β → Bool) (a : α) (b : β) : ∀ (l : List α) (k : List β), l.length = k.length → ((l.zip k).all f = true ↔ ∀ i, i < l.length → f (l.getD i a, k.getD i b) = true)
  | [], [], _ => by simp
  | x :: l, y :: k, h => by
    rw [List.zip_cons_cons, List.all_cons, Bool.and_eq_true, zip_all_iff f a b l k (by simpa using h)]
    constructor
    · rintro ⟨h1, h2⟩ i hi
      cases i with
      | zero => exact h1
      | succ i => exact h2 i (by simpa using hi)
    · intro h
      exact ⟨h 0 (by simp), fun i hi => h (i + 1) (by simpa using hi)⟩
theorem range_all_iff (p : Nat → Bool) (n : Nat) : (List.range n).all p = true ↔ ∀ i, i < n → p i = true := by
  rw [List.all_eq_true]
  simp
theorem getE {p : List Int} {k : Nat} (h : k < p.length) : (p.map D.int)[k]? = some (.int (p.getD k 0)) := map_getD h
theorem f21 (n : Nat) (bs : List Nat) (S : Sto) (p q : List Int) (hl : p.length = q.length) (hn : p.length ≤ 1000) : Fn (n + 1) 21 bs [pt p, pt q] S = .ok (.bl (le_ p q)) S := by
  have e1 : evC (cN pg FU n) d21c0 ⟨S.length :: bs, [some (pt p), some (pt q), none]⟩ S = .ok (((List.range p.length).filter fun k => !decide (p.getD k 0 ≤ q.getD k 0)).map fun (k : Nat) => D.int k) S := by
    refine lc_fil (e := fun (k : Nat) => D.int k) (xs := List.range p.length) ?_ (fun k hk => ?_) (by simp [LIM]; omega)
    · have := rg1_of S (n := p.length) (by omega)
      simp only [b_ok, b_ex, b_bad, bnd_b, ret_ap, bad_ap, ofO_some, ofO_none, getV_cons, getV_zero, nxt_nx, nxt_ret, nxt_brk, nxt_cnt, s_nil, s_cons, s_asg, a_nm, s_ex, s_ret, s_retN, s_iff, s_pas, s_brk, s_cnt, s_rai, e_var, e_cst, e_glo, e_bin, negD_int, e_neg, e_cmp, e_chn, notD_bl, e_not, isB_bl, e_and, e_or, and_nil, and_cons, or_nil, or_cons, e_ite, e_tup, limM_b, e_ls, e_mk, l_ls, l_cat, repD_int, l_rep, l_lc, l_of, e_call, e_pri, e_idx, e_lc, e_rev, revTD_tup, e_revT, toI_int, o_none, o_some, e_sli, es_nil, es_cons, t_cmp, t_chn, t_var, t_call, t_pri, t_cst, t_not, t_and, t_or, tand_nil, tand_cons, tor_nil, tor_cons, cond_none, cond_some, tru_bl, tru_int, itOf_lst, itOf_tup, i_seq, i_rg1, i_rg2, enD_lst, enD_tup, i_enum, zipD_lst, zipD_tup, i_zip, s_fr, c_eqI, c_neI, c_ltI, c_leI, c_gtI, c_geI, c_is, c_isn, ar_add, ar_sub, p_lenT, p_lenL, p_tuple, p_tupleT, p_list, p_listL, p_sorted, p_min2, p_max2, p_sumT, p_sumL, p_all, p_any, k_and, k_or, k_andT, k_orT, k_opt, k_lim, beq_nat, lim1, lim0, lim2, lim3, lim4, isTu_tup, isW_int, List.set_cons_zero, List.set_cons_succ, Option.map_some, Option.map_none, cond_true, cond_false, Bool.not_true, Bool.not_false, List.length_cons, List.length_nil, List.length_map, reduceIte, Bool.true_and, Bool.and_true, Bool.false_and, Bool.and_false, Bool.or_true, Bool.true_or, Bool.false_or, Bool.or_false, Bool.false_eq_true, this]
    · have hk := List.mem_range.mp hk
      have i1 := idx_tup S (p.map D.int) k _ (getE hk)
      have i2 := idx_tup S (q.map D.int) k _ (getE (p := q) (by omega))
      have i3 : decide (q.getD k 0 < p.getD k 0) = !decide (p.getD k 0 ≤ q.getD k 0) := by
        rw [Bool.eq_iff_iff]
        simp
      simp only [cB_nm, b_ok, b_ex, b_bad, bnd_b, ret_ap, bad_ap, ofO_some, ofO_none, getV_cons, getV_zero, nxt_nx, nxt_ret, nxt_brk, nxt_cnt, s_nil, s_cons, s_asg, a_nm, s_ex, s_ret, s_retN, s_iff, s_pas, s_brk, s_cnt, s_rai, e_var, e_cst, e_glo, e_bin, negD_int, e_neg, e_cmp, e_chn, notD_bl, e_not, isB_bl, e_and, e_or, and_nil, and_cons, or_nil, or_cons, e_ite, e_tup, limM_b, e_ls, e_mk, l_ls, l_cat, repD_int, l_rep, l_lc, l_of, e_call, e_pri, e_idx, e_lc, e_rev, revTD_tup, e_revT, toI_int, o_none, o_some, e_sli, es_nil, es_cons, t_cmp, t_chn, t_var, t_call, t_pri, t_cst, t_not, t_and, t_or, tand_nil, tand_cons, tor_nil, tor_cons, cond_none, cond_some, tru_bl, tru_int, itOf_lst, itOf_tup, i_seq, i_rg1, i_rg2, enD_lst, enD_tup, i_enum, zipD_lst, zipD_tup, i_zip, s_fr, c_eqI, c_neI, c_ltI, c_leI, c_gtI, c_geI, c_is, c_isn, ar_add, ar_sub, p_lenT, p_lenL, p_tuple, p_tupleT, p_list, p_listL, p_sorted, p_min2, p_max2, p_sumT, p_sumL, p_all, p_any, k_and, k_or, k_andT, k_orT, k_opt, k_lim, beq_nat, lim1, lim0, lim2, lim3, lim4, isTu_tup, isW_int, List.set_cons_zero, List.set_cons_succ, Option.map_some, Option.map_none, cond_true, cond_false, Bool.not_true, Bool.not_false, List.length_cons, List.length_nil, List.length_map, reduceIte, Bool.true_and, Bool.and_true, Bool.false_and, Bool.and_false, Bool.or_true, Bool.true_or, Bool.false_or, Bool.or_false, Bool.false_eq_true, i1, i2, i3]
  refine run_dt (C := cN pg FU n) (f := d21) rfl rfl rfl (v0 := [some (pt p), some (pt q), none]) (v := [some (pt p), some (pt q), none]) ?_ rfl
  have e2 : ((List.range p.length).filter fun k => !decide (p.getD k 0 ≤ q.getD k 0)).isEmpty = le_ p q := by
    rw [filter_empty, Bool.eq_iff_iff, range_all_iff]
    unfold le_
    rw [zip_all_iff _ 0 0 p q hl]
  have e3 := c_eq_nil S (int_ok (fun (k : Nat) => (k : Int)) ((List.range p.length).filter fun k => !decide (p.getD k 0 ≤ q.getD k 0)))
  rw [List.isEmpty_map, e2] at e3
  simp only [d21, b_ok, b_ex, b_bad, bnd_b, ret_ap, bad_ap, ofO_some, ofO_none, getV_cons, getV_zero, nxt_nx, nxt_ret, nxt_brk, nxt_cnt, s_nil, s_cons, s_asg, a_nm, s_ex, s_ret, s_retN, s_iff, s_pas, s_brk, s_cnt, s_rai, e_var, e_cst, e_glo, e_bin, negD_int, e_neg, e_cmp, e_chn, notD_bl, e_not, isB_bl, e_and, e_or, and_nil, and_cons, or_nil, or_cons, e_ite, e_tup, limM_b, e_ls, e_mk, l_ls, l_cat, repD_int, l_rep, l_lc, l_of, e_call, e_pri, e_idx, e_lc, e_rev, revTD_tup, e_revT, toI_int, o_none, o_some, e_sli, es_nil, es_cons, t_cmp, t_chn, t_var, t_call, t_pri, t_cst, t_not, t_and, t_or, tand_nil, tand_cons, tor_nil, tor_cons, cond_none, cond_some, tru_bl, tru_int, itOf_lst, itOf_tup, i_seq, i_rg1, i_rg2, enD_lst, enD_tup, i_enum, zipD_lst, zipD_tup, i_zip, s_fr, c_eqI, c_neI, c_ltI, c_leI, c_gtI, c_geI, c_is, c_isn, ar_add, ar_sub, p_lenT, p_lenL, p_tuple, p_tupleT, p_list, p_listL, p_sorted, p_min2, p_max2, p_sumT, p_sumL, p_all, p_any, k_and, k_or, k_andT, k_orT, k_opt, k_lim, beq_nat, lim1, lim0, lim2, lim3, lim4, isTu_tup, isW_int, List.set_cons_zero, List.set_cons_succ, Option.map_some, Option.map_none, cond_true, cond_false, Bool.not_true, Bool.not_false, List.length_cons, List.length_nil, List.length_map, reduceIte, Bool.true_and, Bool.and_true, Bool.false_and, Bool.and_false, Bool.or_true, Bool.true_or, Bool.false_or, Bool.or_false, Bool.false_eq_true, e1, e3]
theorem dep_tup {l : List D} {n : Nat} (h : depD (.tup l) ≤ n + 1) : ∀ x ∈ l, depD x ≤ n := depL_le.mp (Nat.le_of_succ_le_succ h)
theorem f22 (n : Nat) (bs : List Nat) (S : Sto) {b : List Nat} {d : D} (hb : b.length ≤ 1000) (h : isDt d = true) (hd : depD d ≤ 50) (hl : ∀ l, d = .tup l → l.length ≤ LIM) : Fn (n + 2) 22 bs [bx b, d] S = .ok (.bl (isPt b d)) S := by
  refine run_dt (C := cN pg FU (n + 1)) (f := d22) rfl rfl rfl (v0 := [some (bx b), some d, none, none]) (v := [some (bx b), some d, none, none]) ?_ rfl
  cases hdd : d with
  | tup l =>
    subst hdd
    have hl := hl l rfl
    have hd := dep_tup (n := 49) hd
    have e1 : evC (cN pg FU (n + 1)) d22c1 ⟨S.length :: bs, [some (bx b), some (.tup l), none, none]⟩ S = .ok (l.filter fun z => !isW z) S := by
      have z := lc_fil (C := cN pg FU (n + 1)) (ρ := ⟨S.length :: bs, [some (bx b), some (.tup l), none, none]⟩) (S := S) (elt := .var 3) (t := .nm 3) (it := .seq (.var 1)) (c := .some (.not (.call 18 (.cons (.var 3) .nil)))) (e := id) (h := id) (p := fun z => !isW z) (xs := l) (by simp only [b_ok, b_ex, b_bad, bnd_b, ret_ap, bad_ap, ofO_some, ofO_none, getV_cons, getV_zero, nxt_nx, nxt_ret, nxt_brk, nxt_cnt, s_nil, s_cons, s_asg, a_nm, s_ex, s_ret, s_retN, s_iff, s_pas, s_brk, s_cnt, s_rai, e_var, e_cst, e_glo, e_bin, negD_int, e_neg, e_cmp, e_chn, notD_bl, e_not, isB_bl, e_and, e_or, and_nil, and_cons, or_nil, or_cons, e_ite, e_tup, limM_b, e_ls, e_mk, l_ls, l_cat, repD_int, l_rep, l_lc, l_of, e_call, e_pri, e_idx, e_lc, e_rev, revTD_tup, e_revT, toI_int, o_none, o_some, e_sli, es_nil, es_cons, t_cmp, t_chn, t_var, t_call, t_pri, t_cst, t_not, t_and, t_or, tand_nil, tand_cons, tor_nil, tor_cons, cond_none, cond_some, tru_bl, tru_int, itOf_lst, itOf_tup, i_seq, i_rg1, i_rg2, enD_lst, enD_tup, i_enum, zipD_lst, zipD_tup, i_zip, s_fr, c_eqI, c_neI, c_ltI, c_leI, c_gtI, c_geI, c_is, c_isn, ar_add, ar_sub, p_lenT, p_lenL, p_tuple, p_tupleT, p_list, p_listL, p_sorted, p_min2, p_max2, p_sumT, p_sumL, p_all, p_any, k_and, k_or, k_andT, k_orT, k_opt, k_lim, beq_nat, lim1, lim0, lim2, lim3, lim4, isTu_tup, isW_int, List.set_cons_zero, List.set_cons_succ, Option.map_some, Option.map_none, cond_true, cond_false, Bool.not_true, Bool.not_false, List.length_cons, List.length_nil, List.length_map, reduceIte, Bool.true_and, Bool.and_true, Bool.false_and, Bool.and_false, Bool.or_true, Bool.true_or, Bool.false_or, Bool.or_false, Bool.false_eq_true, List.map_id]) (fun z hz => by simp only [cB_nm, b_ok, b_ex, b_bad, bnd_b, ret_ap, bad_ap, ofO_some, ofO_none, getV_cons, getV_zero, nxt_nx, nxt_ret, nxt_brk, nxt_cnt, s_nil, s_cons, s_asg, a_nm, s_ex, s_ret, s_retN, s_iff, s_pas, s_brk, s_cnt, s_rai, e_var, e_cst, e_glo, e_bin, negD_int, e_neg, e_cmp, e_chn, notD_bl, e_not, isB_bl, e_and, e_or, and_nil, and_cons, or_nil, or_cons, e_ite, e_tup, limM_b, e_ls, e_mk, l_ls, l_cat, repD_int, l_rep, l_lc, l_of, e_call, e_pri, e_idx, e_lc, e_rev, revTD_tup, e_revT, toI_int, o_none, o_some, e_sli, es_nil, es_cons, t_cmp, t_chn, t_var, t_call, t_pri, t_cst, t_not, t_and, t_or, tand_nil, tand_cons, tor_nil, tor_cons, cond_none, cond_some, tru_bl, tru_int, itOf_lst, itOf_tup, i_seq, i_rg1, i_rg2, enD_lst, enD_tup, i_enum, zipD_lst, zipD_tup, i_zip, s_fr, c_eqI, c_neI, c_ltI, c_leI, c_gtI, c_geI, c_is, c_isn, ar_add, ar_sub, p_lenT, p_lenL, p_tuple, p_tupleT, p_list, p_listL, p_sorted, p_min2, p_max2, p_sumT, p_sumL, p_all, p_any, k_and, k_or, k_andT, k_orT, k_opt, k_lim, beq_nat, lim1, lim0, lim2, lim3, lim4, isTu_tup, isW_int, List.set_cons_zero, List.set_cons_succ, Option.map_some, Option.map_none, cond_true, cond_false, Bool.not_true, Bool.not_false, List.length_cons, List.length_nil, List.length_map, reduceIte, Bool.true_and, Bool.and_true, Bool.false_and, Bool.and_false, Bool.or_true, Bool.true_or, Bool.false_or, Bool.or_false, Bool.false_eq_true, id, f18 n _ _ (dts_iff.mp h z hz)]) hl
      rw [List.map_id] at z
      exact z
    have e2 := c_ne_nil S (l := l.filter fun z => !isW z) fun x hx => ⟨dts_iff.mp h x ((List.mem_filter.mp hx).1), Nat.le_trans (hd x ((List.mem_filter.mp hx).1)) (by decide)⟩
    rw [filter_empty] at e2
    have h0 := p_isi_tuple S h
    rw [isTu_tup] at h0
    by_cases h1 : l.length = b.length
    · have h1' : (l.length == b.length) = true := by simpa using h1
      by_cases h2 : l.all isW = true
      · have e3 : evC (cN pg FU (n + 1)) d22c0 ⟨S.length :: bs, [some (bx b), some (.tup l), none, none]⟩ S = .ok (((List.range b.length).filter fun k => !(inB (l.getD k .non) (b.getD k 0))).map fun (k : Nat) => D.int k) S := by
          refine lc_fil (e := fun (k : Nat) => D.int k) (xs := List.range b.length) ?_ (fun k hk => ?_) (by simp [LIM]; omega)
          · have := rg1_of S (n := b.length) (by omega)
            simp only [b_ok, b_ex, b_bad, bnd_b, ret_ap, bad_ap, ofO_some, ofO_none, getV_cons, getV_zero, nxt_nx, nxt_ret, nxt_brk, nxt_cnt, s_nil, s_cons, s_asg, a_nm, s_ex, s_ret, s_retN, s_iff, s_pas, s_brk, s_cnt, s_rai, e_var, e_cst, e_glo, e_bin, negD_int, e_neg, e_cmp, e_chn, notD_bl, e_not, isB_bl, e_and, e_or, and_nil, and_cons, or_nil, or_cons, e_ite, e_tup, limM_b, e_ls, e_mk, l_ls, l_cat, repD_int, l_rep, l_lc, l_of, e_call, e_pri, e_idx, e_lc, e_rev, revTD_tup, e_revT, toI_int, o_none, o_some, e_sli, es_nil, es_cons, t_cmp, t_chn, t_var, t_call, t_pri, t_cst, t_not, t_and, t_or, tand_nil, tand_cons, tor_nil, tor_cons, cond_none, cond_some, tru_bl, tru_int, itOf_lst, itOf_tup, i_seq, i_rg1, i_rg2, enD_lst, enD_tup, i_enum, zipD_lst, zipD_tup, i_zip, s_fr, c_eqI, c_neI, c_ltI, c_leI, c_gtI, c_geI, c_is, c_isn, ar_add, ar_sub, p_lenT, p_lenL, p_tuple, p_tupleT, p_list, p_listL, p_sorted, p_min2, p_max2, p_sumT, p_sumL, p_all, p_any, k_and, k_or, k_andT, k_orT, k_opt, k_lim, beq_nat, lim1, lim0, lim2, lim3, lim4, isTu_tup, isW_int, List.set_cons_zero, List.set_cons_succ, Option.map_some, Option.map_none, cond_true, cond_false, Bool.not_true, Bool.not_false, List.length_cons, List.length_nil, List.length_map, reduceIte, Bool.true_and, Bool.and_true, Bool.false_and, Bool.and_false, Bool.or_true, Bool.true_or, Bool.false_or, Bool.or_false, Bool.false_eq_true, this]
          · have hk := List.mem_range.mp hk
            obtain ⟨ps, e0⟩ := whole_ints h2
            have hk2 : k < ps.length := by rw [e0] at h1; simp at h1; omega
            have i1 := idx_tup S l k (.int (ps.getD k 0)) (by rw [e0]; exact getE hk2)
            have i2 := idx_tup S (b.map fun (n : Nat) => D.int n) k (.int (b.getD k 0)) (by rw [List.getElem?_map, List.getElem?_eq_getElem hk, List.getD_eq_getElem?_getD, List.getElem?_eq_getElem hk] <;> rfl)
            have i3 : l.getD k .non = .int (ps.getD k 0) := by rw [List.getD_eq_getElem?_getD, e0, getE hk2] <;> rfl
            simp only [cB_nm, b_ok, b_ex, b_bad, bnd_b, ret_ap, bad_ap, ofO_some, ofO_none, getV_cons, getV_zero, nxt_nx, nxt_ret, nxt_brk, nxt_cnt, s_nil, s_cons, s_asg, a_nm, s_ex, s_ret, s_retN, s_iff, s_pas, s_brk, s_cnt, s_rai, e_var, e_cst, e_glo, e_bin, negD_int, e_neg, e_cmp, e_chn, notD_bl, e_not, isB_bl, e_and, e_or, and_nil, and_cons, or_nil, or_cons, e_ite, e_tup, limM_b, e_ls, e_mk, l_ls, l_cat, repD_int, l_rep, l_lc, l_of, e_call, e_pri, e_idx, e_lc, e_rev, revTD_tup, e_revT, toI_int, o_none, o_some, e_sli, es_nil, es_cons, t_cmp, t_chn, t_var, t_call, t_pri, t_cst, t_not, t_and, t_or, tand_nil, tand_cons, tor_nil, tor_cons, cond_none, cond_some, tru_bl, tru_int, itOf_lst, itOf_tup, i_seq, i_rg1, i_rg2, enD_lst, enD_tup, i_enum, zipD_lst, zipD_tup, i_zip, s_fr, c_eqI, c_neI, c_ltI, c_leI, c_gtI, c_geI, c_is, c_isn, ar_add, ar_sub, p_lenT, p_lenL, p_tuple, p_tupleT, p_list, p_listL, p_sorted, p_min2, p_max2, p_sumT, p_sumL, p_all, p_any, k_and, k_or, k_andT, k_orT, k_opt, k_lim, beq_nat, lim1, lim0, lim2, lim3, lim4, isTu_tup, isW_int, List.set_cons_zero, List.set_cons_succ, Option.map_some, Option.map_none, cond_true, cond_false, Bool.not_true, Bool.not_false, List.length_cons, List.length_nil, List.length_map, reduceIte, Bool.true_and, Bool.and_true, Bool.false_and, Bool.and_false, Bool.or_true, Bool.true_or, Bool.false_or, Bool.or_false, Bool.false_eq_true, i1, i2, i3, inB]
        have e4 := c_eq_nil S (int_ok (fun (k : Nat) => (k : Int)) ((List.range b.length).filter fun k => !(inB (l.getD k .non) (b.getD k 0))))
        have e5 : ((List.range b.length).filter fun k => !(inB (l.getD k .non) (b.getD k 0))).isEmpty = (l.zip b).all fun z => inB z.1 z.2 := by
          rw [filter_empty, Bool.eq_iff_iff, range_all_iff, zip_all_iff _ .non 0 l b h1, h1]
        rw [List.isEmpty_map, e5] at e4
        simp only [d22, b_ok, b_ex, b_bad, bnd_b, ret_ap, bad_ap, ofO_some, ofO_none, getV_cons, getV_zero, nxt_nx, nxt_ret, nxt_brk, nxt_cnt, s_nil, s_cons, s_asg, a_nm, s_ex, s_ret, s_retN, s_iff, s_pas, s_brk, s_cnt, s_rai, e_var, e_cst, e_glo, e_bin, negD_int, e_neg, e_cmp, e_chn, notD_bl, e_not, isB_bl, e_and, e_or, and_nil, and_cons, or_nil, or_cons, e_ite, e_tup, limM_b, e_ls, e_mk, l_ls, l_cat, repD_int, l_rep, l_lc, l_of, e_call, e_pri, e_idx, e_lc, e_rev, revTD_tup, e_revT, toI_int, o_none, o_some, e_sli, es_nil, es_cons, t_cmp, t_chn, t_var, t_call, t_pri, t_cst, t_not, t_and, t_or, tand_nil, tand_cons, tor_nil, tor_cons, cond_none, cond_some, tru_bl, tru_int, itOf_lst, itOf_tup, i_seq, i_rg1, i_rg2, enD_lst, enD_tup, i_enum, zipD_lst, zipD_tup, i_zip, s_fr, c_eqI, c_neI, c_ltI, c_leI, c_gtI, c_geI, c_is, c_isn, ar_add, ar_sub, p_lenT, p_lenL, p_tuple, p_tupleT, p_list, p_listL, p_sorted, p_min2, p_max2, p_sumT, p_sumL, p_all, p_any, k_and, k_or, k_andT, k_orT, k_opt, k_lim, beq_nat, lim1, lim0, lim2, lim3, lim4, isTu_tup, isW_int, List.set_cons_zero, List.set_cons_succ, Option.map_some, Option.map_none, cond_true, cond_false, Bool.not_true, Bool.not_false, List.length_cons, List.length_nil, List.length_map, reduceIte, Bool.true_and, Bool.and_true, Bool.false_and, Bool.and_false, Bool.or_true, Bool.true_or, Bool.false_or, Bool.or_false, Bool.false_eq_true, e1, e2, h0, h1', h2, e3, e4, isPt]
      · have h2 : l.all isW = false := by simpa using h2
        simp only [d22, b_ok, b_ex, b_bad, bnd_b, ret_ap, bad_ap, ofO_some, ofO_none, getV_cons, getV_zero, nxt_nx, nxt_ret, nxt_brk, nxt_cnt, s_nil, s_cons, s_asg, a_nm, s_ex, s_ret, s_retN, s_iff, s_pas, s_brk, s_cnt, s_rai, e_var, e_cst, e_glo, e_bin, negD_int, e_neg, e_cmp, e_chn, notD_bl, e_not, isB_bl, e_and, e_or, and_nil, and_cons, or_nil, or_cons, e_ite, e_tup, limM_b, e_ls, e_mk, l_ls, l_cat, repD_int, l_rep, l_lc, l_of, e_call, e_pri, e_idx, e_lc, e_rev, revTD_tup, e_revT, toI_int, o_none, o_some, e_sli, es_nil, es_cons, t_cmp, t_chn, t_var, t_call, t_pri, t_cst, t_not, t_and, t_or, tand_nil, tand_cons, tor_nil, tor_cons, cond_none, cond_some, tru_bl, tru_int, itOf_lst, itOf_tup, i_seq, i_rg1, i_rg2, enD_lst, enD_tup, i_enum, zipD_lst, zipD_tup, i_zip, s_fr, c_eqI, c_neI, c_ltI, c_leI, c_gtI, c_geI, c_is, c_isn, ar_add, ar_sub, p_lenT, p_lenL, p_tuple, p_tupleT, p_list, p_listL, p_sorted, p_min2, p_max2, p_sumT, p_sumL, p_all, p_any, k_and, k_or, k_andT, k_orT, k_opt, k_lim, beq_nat, lim1, lim0, lim2, lim3, lim4, isTu_tup, isW_int, List.set_cons_zero, List.set_cons_succ, Option.map_some, Option.map_none, cond_true, cond_false, Bool.not_true, Bool.not_false, List.length_cons, List.length_nil, List.length_map, reduceIte, Bool.true_and, Bool.and_true, Bool.false_and, Bool.and_false, Bool.or_true, Bool.true_or, Bool.false_or, Bool.or_false, Bool.false_eq_true, e1, e2, h0, h1', h2, isPt]
    · have h1' : (l.length == b.length) = false := by simpa using h1
      simp only [d22, b_ok, b_ex, b_bad, bnd_b, ret_ap, bad_ap, ofO_some, ofO_none, getV_cons, getV_zero, nxt_nx, nxt_ret, nxt_brk, nxt_cnt, s_nil, s_cons, s_asg, a_nm, s_ex, s_ret, s_retN, s_iff, s_pas, s_brk, s_cnt, s_rai, e_var, e_cst, e_glo, e_bin, negD_int, e_neg, e_cmp, e_chn, notD_bl, e_not, isB_bl, e_and, e_or, and_nil, and_cons, or_nil, or_cons, e_ite, e_tup, limM_b, e_ls, e_mk, l_ls, l_cat, repD_int, l_rep, l_lc, l_of, e_call, e_pri, e_idx, e_lc, e_rev, revTD_tup, e_revT, toI_int, o_none, o_some, e_sli, es_nil, es_cons, t_cmp, t_chn, t_var, t_call, t_pri, t_cst, t_not, t_and, t_or, tand_nil, tand_cons, tor_nil, tor_cons, cond_none, cond_some, tru_bl, tru_int, itOf_lst, itOf_tup, i_seq, i_rg1, i_rg2, enD_lst, enD_tup, i_enum, zipD_lst, zipD_tup, i_zip, s_fr, c_eqI, c_neI, c_ltI, c_leI, c_gtI, c_geI, c_is, c_isn, ar_add, ar_sub, p_lenT, p_lenL, p_tuple, p_tupleT, p_list, p_listL, p_sorted, p_min2, p_max2, p_sumT, p_sumL, p_all, p_any, k_and, k_or, k_andT, k_orT, k_opt, k_lim, beq_nat, lim1, lim0, lim2, lim3, lim4, isTu_tup, isW_int, List.set_cons_zero, List.set_cons_succ, Option.map_some, Option.map_none, cond_true, cond_false, Bool.not_true, Bool.not_false, List.length_cons, List.length_nil, List.length_map, reduceIte, Bool.true_and, Bool.and_true, Bool.false_and, Bool.and_false, Bool.or_true, Bool.true_or, Bool.false_or, Bool.or_false, Bool.false_eq_true, h0, h1', isPt]
  | _ =>
    subst hdd
    simp only [d22, b_ok, b_ex, b_bad, bnd_b, ret_ap, bad_ap, ofO_some, ofO_none, getV_cons, getV_zero, nxt_nx, nxt_ret, nxt_brk, nxt_cnt, s_nil, s_cons, s_asg, a_nm, s_ex, s_ret, s_retN, s_iff, s_pas, s_brk, s_cnt, s_rai, e_var, e_cst, e_glo, e_bin, negD_int, e_neg, e_cmp, e_chn, notD_bl, e_not, isB_bl, e_and, e_or, and_nil, and_cons, or_nil, or_cons, e_ite, e_tup, limM_b, e_ls, e_mk, l_ls, l_cat, repD_int, l_rep, l_lc, l_of, e_call, e_pri, e_idx, e_lc, e_rev, revTD_tup, e_revT, toI_int, o_none, o_some, e_sli, es_nil, es_cons, t_cmp, t_chn, t_var, t_call, t_pri, t_cst, t_not, t_and, t_or, tand_nil, tand_cons, tor_nil, tor_cons, cond_none, cond_some, tru_bl, tru_int, itOf_lst, itOf_tup, i_seq, i_rg1, i_rg2, enD_lst, enD_tup, i_enum, zipD_lst, zipD_tup, i_zip, s_fr, c_eqI, c_neI, c_ltI, c_leI, c_gtI, c_geI, c_is, c_isn, ar_add, ar_sub, p_lenT, p_lenL, p_tuple, p_tupleT, p_list, p_listL, p_sorted, p_min2, p_max2, p_sumT, p_sumL, p_all, p_any, k_and, k_or, k_andT, k_orT, k_opt, k_lim, beq_nat, lim1, lim0, lim2, lim3, lim4, isTu_tup, isW_int, List.set_cons_zero, List.set_cons_succ, Option.map_some, Option.map_none, cond_true, cond_false, Bool.not_true, Bool.not_false, List.length_cons, List.length_nil, List.length_map, reduceIte, Bool.true_and, Bool.and_true, Bool.false_and, Bool.and_false, Bool.or_true, Bool.true_or, Bool.false_or, Bool.or_false, Bool.false_eq_true, p_isi_tuple S h, isPt, isTu]
end Ri.G
set_option maxHeartbeats 1000000
namespace Ri.G
open Ri PySem
open Ri.Enc (enc)
def ptIn : D → List Int
  | .tup ps => (intsOf ps).getD []
  | _ => []
def chIn : D → Ch
  | .tup l => l.map ptIn
  | _ => []
theorem ptIn_pt (p : List Int) : ptIn (pt p) = p := by
  show (intsOf (p.map D.int)).getD [] = p
  rw [intsOf_map] <;> rfl
theorem chIn_ch (c : Ch) : chIn (ch c) = c := by
  show (c.map pt).map ptIn = c
  rw [List.map_map]
  conv => rhs; rw [← List.map_id c]
  exact List.map_congr_left fun p _ => ptIn_pt p
def evenI (b : List Nat) (c : Ch) : Bool := ((List.range (c.length - 1)).all fun k => stepUp (at_ c k) (at_ c (k + 1))) && ((at_ c 0).sum + (at_ c (c.length - 1)).sum == (b.sum : Int))
def isEvenD (b : List Nat) : D → Bool
  | .tup l => !l.isEmpty && l.all (isPt b) && evenI b (chIn (.tup l))
  | _ => false
theorem isPt_inv {b : List Nat} {d : D} (h : isPt b d = true) : ∃ p, d = pt p ∧ okP b p := by
  cases d with
  | tup l =>
    have h : (l.length == b.length && l.all isW && (l.zip b).all fun z => inB z.1 z.2) = true := h
    rw [Bool.and_eq_true, Bool.and_eq_true] at h
    obtain ⟨⟨h1, h2⟩, h3⟩ := h
    obtain ⟨ps, rfl⟩ := whole_ints h2
    refine ⟨ps, rfl, by simpa using h1, ?_⟩
    rw [List.all_eq_true] at h3 ⊢
    intro z hz
    have : (D.int z.1, z.2) ∈ (ps.map D.int).zip b := by
      have e : (ps.map D.int).zip b = (ps.zip b).map fun z => (D.int z.1, z.2) := by
        rw [List.zip_map_left]
        rfl
      rw [e]
      exact List.mem_map.mpr ⟨z, hz, rfl⟩
    exact h3 _ this
  | _ => cases h
theorem isPt_pt {b : List Nat} {p : List Int} (h : okP b p) : isPt b (pt p) = true := by
  show ((p.map D.int).length == b.length && (p.map D.int).all isW && ((p.map D.int).zip b).all fun z => inB z.1 z.2) = true
  rw [all_isW, List.zip_map_left, List.all_map, List.length_map, h.1]
  simp only [beq_self_eq_true, Bool.true_and]
  exact h.2
theorem pts_inv {b : List Nat} : ∀ {l : List D}, l.all (isPt b) = true → ∃ c : Ch, l = c.map pt ∧ ∀ p ∈ c, okP b p
  | [], _ => ⟨[], rfl, fun _ h => by cases h⟩
  | d :: l, h => by
    rw [List.all_cons, Bool.and_eq_true] at h
    obtain ⟨p, rfl, hp⟩ := isPt_inv h.1
    obtain ⟨c, rfl, hc⟩ := pts_inv h.2
    exact ⟨p :: c, rfl, fun q hq => by rcases List.mem_cons.mp hq with rfl | hq; exact hp; exact hc q hq⟩
theorem bx_sum (S : Sto) (b : List Nat) : prim S .sum [bx b] = some (.int (b.sum : Nat)) := by
  rw [bx_pt]
  have : (b.map fun (n : Nat) => (n : Int)).sum = ((b.sum : Nat) : Int) := by
    induction b with
    | nil => rfl
    | cons x r ih => rw [List.map_cons, List.sum_cons, List.sum_cons, ih]; omega
  rw [← this]
  exact p_sumT S _
theorem at_get {c : Ch} {k : Nat} (h : k < c.length) : (c.map pt)[k]? = some (pt (at_ c k)) := by
  unfold at_
  rw [List.getElem?_map, List.getElem?_eq_getElem h, List.getD_eq_getElem?_getD, List.getElem?_eq_getElem h] <;> rfl
theorem at_mem {c : Ch} {k : Nat} (h : k < c.length) : at_ c k ∈ c := by
  unfold at_
  rw [List.getD_eq_getElem?_getD, List.getElem?_eq_getElem h]
  exact List.getElem_mem h
theorem idx_neg1 (S : Sto) (l : List D) (d : D) (h : 0 < l.length) (e : l[l.length - 1]? = some d) : idxD S (.tup l) (.int (-1)) = some d := by
  show (if Nat.ble 1 l.length then l[l.length - 1]? else none) = _
  rw [if_pos (Nat.ble_eq_true_of_le h), e]
theorem f11 (n : Nat) (bs : List Nat) (S : Sto) {b : List Nat} {d : D} (hb : b.length ≤ 1000) (h : isDt d = true) (hl : ∀ l, d = .tup l → l.length ≤ 1000 ∧ ∀ p ∈ l, ∀ q, p = .tup q → q.length ≤ 1000) : Fn (n + 3) 11 bs [bx b, d] S = .ok (.bl (isEvenD b d)) S := by
  refine run_dt (C := cN pg FU (n + 2)) (f := d11) rfl rfl rfl (v0 := [some (bx b), some d, none, none]) (v := [some (bx b), some d, none, none]) ?_ rfl
  have h0 := p_isi_tuple S h
  cases hdd : d with
  | tup l =>
    subst hdd
    rw [isTu_tup] at h0
    obtain ⟨hl1, hl2⟩ := hl l rfl
    have e1 : evC (cN pg FU (n + 2)) d11c1 ⟨S.length :: bs, [some (bx b), some (.tup l), none, none]⟩ S = .ok (l.map fun z => .bl (isPt b z)) S :=
      lc_map (e := id) (xs := l) (by simp only [b_ok, b_ex, b_bad, bnd_b, ret_ap, bad_ap, ofO_some, ofO_none, getV_cons, getV_zero, nxt_nx, nxt_ret, nxt_brk, nxt_cnt, s_nil, s_cons, s_asg, a_nm, s_ex, s_ret, s_retN, s_iff, s_pas, s_brk, s_cnt, s_rai, e_var, e_cst, e_glo, e_bin, negD_int, e_neg, e_cmp, e_chn, notD_bl, e_not, isB_bl, e_and, e_or, and_nil, and_cons, or_nil, or_cons, e_ite, e_tup, limM_b, e_ls, e_mk, l_ls, l_cat, repD_int, l_rep, l_lc, l_of, e_call, e_pri, e_idx, e_lc, e_rev, revTD_tup, e_revT, toI_int, o_none, o_some, e_sli, es_nil, es_cons, t_cmp, t_chn, t_var, t_call, t_pri, t_cst, t_not, t_and, t_or, tand_nil, tand_cons, tor_nil, tor_cons, cond_none, cond_some, tru_bl, tru_int, itOf_lst, itOf_tup, i_seq, i_rg1, i_rg2, enD_lst, enD_tup, i_enum, zipD_lst, zipD_tup, i_zip, s_fr, c_eqI, c_neI, c_ltI, c_leI, c_gtI, c_geI, c_is, c_isn, ar_add, ar_sub, p_lenT, p_lenL, p_tuple, p_tupleT, p_list, p_listL, p_sorted, p_min2, p_max2, p_sumT, p_sumL, p_all, p_any, k_and, k_or, k_andT, k_orT, k_opt, k_lim, beq_nat, lim1, lim0, lim2, lim3, lim4, isTu_tup, isW_int, List.set_cons_zero, List.set_cons_succ, Option.map_some, Option.map_none, cond_true, cond_false, Bool.not_true, Bool.not_false, List.length_cons, List.length_nil, List.length_map, reduceIte, Bool.true_and, Bool.and_true, Bool.false_and, Bool.and_false, Bool.or_true, Bool.true_or, Bool.false_or, Bool.or_false, Bool.false_eq_true, List.map_id]) (fun z hz => by simp only [cB_nm, b_ok, b_ex, b_bad, bnd_b, ret_ap, bad_ap, ofO_some, ofO_none, getV_cons, getV_zero, nxt_nx, nxt_ret, nxt_brk, nxt_cnt, s_nil, s_cons, s_asg, a_nm, s_ex, s_ret, s_retN, s_iff, s_pas, s_brk, s_cnt, s_rai, e_var, e_cst, e_glo, e_bin, negD_int, e_neg, e_cmp, e_chn, notD_bl, e_not, isB_bl, e_and, e_or, and_nil, and_cons, or_nil, or_cons, e_ite, e_tup, limM_b, e_ls, e_mk, l_ls, l_cat, repD_int, l_rep, l_lc, l_of, e_call, e_pri, e_idx, e_lc, e_rev, revTD_tup, e_revT, toI_int, o_none, o_some, e_sli, es_nil, es_cons, t_cmp, t_chn, t_var, t_call, t_pri, t_cst, t_not, t_and, t_or, tand_nil, tand_cons, tor_nil, tor_cons, cond_none, cond_some, tru_bl, tru_int, itOf_lst, itOf_tup, i_seq, i_rg1, i_rg2, enD_lst, enD_tup, i_enum, zipD_lst, zipD_tup, i_zip, s_fr, c_eqI, c_neI, c_ltI, c_leI, c_gtI, c_geI, c_is, c_isn, ar_add, ar_sub, p_lenT, p_lenL, p_tuple, p_tupleT, p_list, p_listL, p_sorted, p_min2, p_max2, p_sumT, p_sumL, p_all, p_any, k_and, k_or, k_andT, k_orT, k_opt, k_lim, beq_nat, lim1, lim0, lim2, lim3, lim4, isTu_tup, isW_int, List.set_cons_zero, List.set_cons_succ, Option.map_some, Option.map_none, cond_true, cond_false, Bool.not_true, Bool.not_false, List.length_cons, List.length_nil, List.length_map, reduceIte, Bool.true_and, Bool.and_true, Bool.false_and, Bool.and_false, Bool.or_true, Bool.true_or, Bool.false_or, Bool.or_false, Bool.false_eq_true, id, f4 n _ _ hb (dts_iff.mp h z hz) (fun q e => Nat.le_trans (hl2 z hz q e) (by decide))]) (Nat.le_trans hl1 (by decide))
    have g0 : ((l.length : Int) == 0) = l.isEmpty := by
      rw [Bool.eq_iff_iff, List.isEmpty_iff]
      simp
    cases hm : l.isEmpty with
    | true =>
      rw [hm] at g0
      simp only [d11, b_ok, b_ex, b_bad, bnd_b, ret_ap, bad_ap, ofO_some, ofO_none, getV_cons, getV_zero, nxt_nx, nxt_ret, nxt_brk, nxt_cnt, s_nil, s_cons, s_asg, a_nm, s_ex, s_ret, s_retN, s_iff, s_pas, s_brk, s_cnt, s_rai, e_var, e_cst, e_glo, e_bin, negD_int, e_neg, e_cmp, e_chn, notD_bl, e_not, isB_bl, e_and, e_or, and_nil, and_cons, or_nil, or_cons, e_ite, e_tup, limM_b, e_ls, e_mk, l_ls, l_cat, repD_int, l_rep, l_lc, l_of, e_call, e_pri, e_idx, e_lc, e_rev, revTD_tup, e_revT, toI_int, o_none, o_some, e_sli, es_nil, es_cons, t_cmp, t_chn, t_var, t_call, t_pri, t_cst, t_not, t_and, t_or, tand_nil, tand_cons, tor_nil, tor_cons, cond_none, cond_some, tru_bl, tru_int, itOf_lst, itOf_tup, i_seq, i_rg1, i_rg2, enD_lst, enD_tup, i_enum, zipD_lst, zipD_tup, i_zip, s_fr, c_eqI, c_neI, c_ltI, c_leI, c_gtI, c_geI, c_is, c_isn, ar_add, ar_sub, p_lenT, p_lenL, p_tuple, p_tupleT, p_list, p_listL, p_sorted, p_min2, p_max2, p_sumT, p_sumL, p_all, p_any, k_and, k_or, k_andT, k_orT, k_opt, k_lim, beq_nat, lim1, lim0, lim2, lim3, lim4, isTu_tup, isW_int, List.set_cons_zero, List.set_cons_succ, Option.map_some, Option.map_none, cond_true, cond_false, Bool.not_true, Bool.not_false, List.length_cons, List.length_nil, List.length_map, reduceIte, Bool.true_and, Bool.and_true, Bool.false_and, Bool.and_false, Bool.or_true, Bool.true_or, Bool.false_or, Bool.or_false, Bool.false_eq_true, h0, g0, isEvenD, hm]
    | false =>
      rw [hm] at g0
      cases h1 : l.all (isPt b) with
      | false => simp only [d11, b_ok, b_ex, b_bad, bnd_b, ret_ap, bad_ap, ofO_some, ofO_none, getV_cons, getV_zero, nxt_nx, nxt_ret, nxt_brk, nxt_cnt, s_nil, s_cons, s_asg, a_nm, s_ex, s_ret, s_retN, s_iff, s_pas, s_brk, s_cnt, s_rai, e_var, e_cst, e_glo, e_bin, negD_int, e_neg, e_cmp, e_chn, notD_bl, e_not, isB_bl, e_and, e_or, and_nil, and_cons, or_nil, or_cons, e_ite, e_tup, limM_b, e_ls, e_mk, l_ls, l_cat, repD_int, l_rep, l_lc, l_of, e_call, e_pri, e_idx, e_lc, e_rev, revTD_tup, e_revT, toI_int, o_none, o_some, e_sli, es_nil, es_cons, t_cmp, t_chn, t_var, t_call, t_pri, t_cst, t_not, t_and, t_or, tand_nil, tand_cons, tor_nil, tor_cons, cond_none, cond_some, tru_bl, tru_int, itOf_lst, itOf_tup, i_seq, i_rg1, i_rg2, enD_lst, enD_tup, i_enum, zipD_lst, zipD_tup, i_zip, s_fr, c_eqI, c_neI, c_ltI, c_leI, c_gtI, c_geI, c_is, c_isn, ar_add, ar_sub, p_lenT, p_lenL, p_tuple, p_tupleT, p_list, p_listL, p_sorted, p_min2, p_max2, p_sumT, p_sumL, p_all, p_any, k_and, k_or, k_andT, k_orT, k_opt, k_lim, beq_nat, lim1, lim0, lim2, lim3, lim4, isTu_tup, isW_int, List.set_cons_zero, List.set_cons_succ, Option.map_some, Option.map_none, cond_true, cond_false, Bool.not_true, Bool.not_false, List.length_cons, List.length_nil, List.length_map, reduceIte, Bool.true_and, Bool.and_true, Bool.false_and, Bool.and_false, Bool.or_true, Bool.true_or, Bool.false_or, Bool.or_false, Bool.false_eq_true, h0, g0, e1, h1, isEvenD, hm]
      | true =>
        obtain ⟨c, rfl, hc⟩ := pts_inv h1
        have hpos : 0 < c.length := by
          cases c with
          | nil => cases hm
          | cons p c => exact Nat.succ_pos _
        have hlen : c.length ≤ 1000 := by simpa using hl1
        have r1 := rg2_of S (lo := 1) (hi := (c.length : Int)) (by decide) (by omega)
        have r2 : ((c.length : Int) - 1).toNat = c.length - 1 := by omega
        rw [r2] at r1
        have e2 : evC (cN pg FU (n + 2)) d11c0 ⟨S.length :: bs, [some (bx b), some (.tup (c.map pt)), none, none]⟩ S = .ok ((List.range (c.length - 1)).map fun k => .bl (stepUp (at_ c k) (at_ c (k + 1)))) S := by
          refine lc_map (e := fun (k : Nat) => D.int (1 + k)) (xs := List.range (c.length - 1)) (by simp only [b_ok, b_ex, b_bad, bnd_b, ret_ap, bad_ap, ofO_some, ofO_none, getV_cons, getV_zero, nxt_nx, nxt_ret, nxt_brk, nxt_cnt, s_nil, s_cons, s_asg, a_nm, s_ex, s_ret, s_retN, s_iff, s_pas, s_brk, s_cnt, s_rai, e_var, e_cst, e_glo, e_bin, negD_int, e_neg, e_cmp, e_chn, notD_bl, e_not, isB_bl, e_and, e_or, and_nil, and_cons, or_nil, or_cons, e_ite, e_tup, limM_b, e_ls, e_mk, l_ls, l_cat, repD_int, l_rep, l_lc, l_of, e_call, e_pri, e_idx, e_lc, e_rev, revTD_tup, e_revT, toI_int, o_none, o_some, e_sli, es_nil, es_cons, t_cmp, t_chn, t_var, t_call, t_pri, t_cst, t_not, t_and, t_or, tand_nil, tand_cons, tor_nil, tor_cons, cond_none, cond_some, tru_bl, tru_int, itOf_lst, itOf_tup, i_seq, i_rg1, i_rg2, enD_lst, enD_tup, i_enum, zipD_lst, zipD_tup, i_zip, s_fr, c_eqI, c_neI, c_ltI, c_leI, c_gtI, c_geI, c_is, c_isn, ar_add, ar_sub, p_lenT, p_lenL, p_tuple, p_tupleT, p_list, p_listL, p_sorted, p_min2, p_max2, p_sumT, p_sumL, p_all, p_any, k_and, k_or, k_andT, k_orT, k_opt, k_lim, beq_nat, lim1, lim0, lim2, lim3, lim4, isTu_tup, isW_int, List.set_cons_zero, List.set_cons_succ, Option.map_some, Option.map_none, cond_true, cond_false, Bool.not_true, Bool.not_false, List.length_cons, List.length_nil, List.length_map, reduceIte, Bool.true_and, Bool.and_true, Bool.false_and, Bool.and_false, Bool.or_true, Bool.true_or, Bool.false_or, Bool.or_false, Bool.false_eq_true, r1]) (fun k hk => ?_) (by simp [LIM]; omega)
          have hk := List.mem_range.mp hk
          have i1 : (1 : Int) + k - 1 = (k : Nat) := by omega
          have i2 : (1 : Int) + k = ((k + 1 : Nat) : Int) := by omega
          have g1 := idx_tup S (c.map pt) k _ (at_get (by omega))
          have g2 := idx_tup S (c.map pt) (k + 1) _ (at_get (by omega))
          have i3 : ((k + 1 : Nat) : Int) - 1 = (k : Nat) := by omega
          have l1 : (at_ c k).length ≤ 1000 := by rw [(hc _ (at_mem (by omega))).1]; exact hb
          simp only [cB_nm, b_ok, b_ex, b_bad, bnd_b, ret_ap, bad_ap, ofO_some, ofO_none, getV_cons, getV_zero, nxt_nx, nxt_ret, nxt_brk, nxt_cnt, s_nil, s_cons, s_asg, a_nm, s_ex, s_ret, s_retN, s_iff, s_pas, s_brk, s_cnt, s_rai, e_var, e_cst, e_glo, e_bin, negD_int, e_neg, e_cmp, e_chn, notD_bl, e_not, isB_bl, e_and, e_or, and_nil, and_cons, or_nil, or_cons, e_ite, e_tup, limM_b, e_ls, e_mk, l_ls, l_cat, repD_int, l_rep, l_lc, l_of, e_call, e_pri, e_idx, e_lc, e_rev, revTD_tup, e_revT, toI_int, o_none, o_some, e_sli, es_nil, es_cons, t_cmp, t_chn, t_var, t_call, t_pri, t_cst, t_not, t_and, t_or, tand_nil, tand_cons, tor_nil, tor_cons, cond_none, cond_some, tru_bl, tru_int, itOf_lst, itOf_tup, i_seq, i_rg1, i_rg2, enD_lst, enD_tup, i_enum, zipD_lst, zipD_tup, i_zip, s_fr, c_eqI, c_neI, c_ltI, c_leI, c_gtI, c_geI, c_is, c_isn, ar_add, ar_sub, p_lenT, p_lenL, p_tuple, p_tupleT, p_list, p_listL, p_sorted, p_min2, p_max2, p_sumT, p_sumL, p_all, p_any, k_and, k_or, k_andT, k_orT, k_opt, k_lim, beq_nat, lim1, lim0, lim2, lim3, lim4, isTu_tup, isW_int, List.set_cons_zero, List.set_cons_succ, Option.map_some, Option.map_none, cond_true, cond_false, Bool.not_true, Bool.not_false, List.length_cons, List.length_nil, List.length_map, reduceIte, Bool.true_and, Bool.and_true, Bool.false_and, Bool.and_false, Bool.or_true, Bool.true_or, Bool.false_or, Bool.or_false, Bool.false_eq_true, i2, i3, g1, g2, f10 (n + 1) _ _ _ _ l1]
        have g1 := idx_tup S (c.map pt) 0 _ (at_get hpos)
        have g2 := idx_neg1 S (c.map pt) (pt (at_ c (c.length - 1))) (by simpa using hpos) (by rw [List.length_map]; exact at_get (by omega))
        have g3 : idxD S (.tup (c.map pt)) (.int 0) = some (pt (at_ c 0)) := g1
        have g4 : (-1 : Int) = -(1 : Int) := rfl
        have g5 : isEvenD b (.tup (c.map pt)) = evenI b c := by
          show (!(c.map pt).isEmpty && (c.map pt).all (isPt b) && evenI b (chIn (ch c))) = _
          rw [hm, h1, chIn_ch] <;> rfl
        cases h2 : (List.range (c.length - 1)).all fun k => stepUp (at_ c k) (at_ c (k + 1)) with
        | false =>
          have g6 : evenI b c = false := by unfold evenI; rw [h2] <;> rfl
          rw [List.length_map] at g0
          simp only [d11, b_ok, b_ex, b_bad, bnd_b, ret_ap, bad_ap, ofO_some, ofO_none, getV_cons, getV_zero, nxt_nx, nxt_ret, nxt_brk, nxt_cnt, s_nil, s_cons, s_asg, a_nm, s_ex, s_ret, s_retN, s_iff, s_pas, s_brk, s_cnt, s_rai, e_var, e_cst, e_glo, e_bin, negD_int, e_neg, e_cmp, e_chn, notD_bl, e_not, isB_bl, e_and, e_or, and_nil, and_cons, or_nil, or_cons, e_ite, e_tup, limM_b, e_ls, e_mk, l_ls, l_cat, repD_int, l_rep, l_lc, l_of, e_call, e_pri, e_idx, e_lc, e_rev, revTD_tup, e_revT, toI_int, o_none, o_some, e_sli, es_nil, es_cons, t_cmp, t_chn, t_var, t_call, t_pri, t_cst, t_not, t_and, t_or, tand_nil, tand_cons, tor_nil, tor_cons, cond_none, cond_some, tru_bl, tru_int, itOf_lst, itOf_tup, i_seq, i_rg1, i_rg2, enD_lst, enD_tup, i_enum, zipD_lst, zipD_tup, i_zip, s_fr, c_eqI, c_neI, c_ltI, c_leI, c_gtI, c_geI, c_is, c_isn, ar_add, ar_sub, p_lenT, p_lenL, p_tuple, p_tupleT, p_list, p_listL, p_sorted, p_min2, p_max2, p_sumT, p_sumL, p_all, p_any, k_and, k_or, k_andT, k_orT, k_opt, k_lim, beq_nat, lim1, lim0, lim2, lim3, lim4, isTu_tup, isW_int, List.set_cons_zero, List.set_cons_succ, Option.map_some, Option.map_none, cond_true, cond_false, Bool.not_true, Bool.not_false, List.length_cons, List.length_nil, List.length_map, reduceIte, Bool.true_and, Bool.and_true, Bool.false_and, Bool.and_false, Bool.or_true, Bool.true_or, Bool.false_or, Bool.or_false, Bool.false_eq_true, h0, g0, e1, h1, e2, h2, g5, g6]
        | true =>
          have g6 : evenI b c = ((at_ c 0).sum + (at_ c (c.length - 1)).sum == (b.sum : Int)) := by unfold evenI; rw [h2] <;> rfl
          rw [List.length_map] at g0
          simp only [d11, b_ok, b_ex, b_bad, bnd_b, ret_ap, bad_ap, ofO_some, ofO_none, getV_cons, getV_zero, nxt_nx, nxt_ret, nxt_brk, nxt_cnt, s_nil, s_cons, s_asg, a_nm, s_ex, s_ret, s_retN, s_iff, s_pas, s_brk, s_cnt, s_rai, e_var, e_cst, e_glo, e_bin, negD_int, e_neg, e_cmp, e_chn, notD_bl, e_not, isB_bl, e_and, e_or, and_nil, and_cons, or_nil, or_cons, e_ite, e_tup, limM_b, e_ls, e_mk, l_ls, l_cat, repD_int, l_rep, l_lc, l_of, e_call, e_pri, e_idx, e_lc, e_rev, revTD_tup, e_revT, toI_int, o_none, o_some, e_sli, es_nil, es_cons, t_cmp, t_chn, t_var, t_call, t_pri, t_cst, t_not, t_and, t_or, tand_nil, tand_cons, tor_nil, tor_cons, cond_none, cond_some, tru_bl, tru_int, itOf_lst, itOf_tup, i_seq, i_rg1, i_rg2, enD_lst, enD_tup, i_enum, zipD_lst, zipD_tup, i_zip, s_fr, c_eqI, c_neI, c_ltI, c_leI, c_gtI, c_geI, c_is, c_isn, ar_add, ar_sub, p_lenT, p_lenL, p_tuple, p_tupleT, p_list, p_listL, p_sorted, p_min2, p_max2, p_sumT, p_sumL, p_all, p_any, k_and, k_or, k_andT, k_orT, k_opt, k_lim, beq_nat, lim1, lim0, lim2, lim3, lim4, isTu_tup, isW_int, List.set_cons_zero, List.set_cons_succ, Option.map_some, Option.map_none, cond_true, cond_false, Bool.not_true, Bool.not_false, List.length_cons, List.length_nil, List.length_map, reduceIte, Bool.true_and, Bool.and_true, Bool.false_and, Bool.and_false, Bool.or_true, Bool.true_or, Bool.false_or, Bool.or_false, Bool.false_eq_true, h0, g0, e1, h1, e2, h2, g5, g6, g3, g2, bx_sum]
  | _ =>
    subst hdd
    simp only [d11, b_ok, b_ex, b_bad, bnd_b, ret_ap, bad_ap, ofO_some, ofO_none, getV_cons, getV_zero, nxt_nx, nxt_ret, nxt_brk, nxt_cnt, s_nil, s_cons, s_asg, a_nm, s_ex, s_ret, s_retN, s_iff, s_pas, s_brk, s_cnt, s_rai, e_var, e_cst, e_glo, e_bin, negD_int, e_neg, e_cmp, e_chn, notD_bl, e_not, isB_bl, e_and, e_or, and_nil, and_cons, or_nil, or_cons, e_ite, e_tup, limM_b, e_ls, e_mk, l_ls, l_cat, repD_int, l_rep, l_lc, l_of, e_call, e_pri, e_idx, e_lc, e_rev, revTD_tup, e_revT, toI_int, o_none, o_some, e_sli, es_nil, es_cons, t_cmp, t_chn, t_var, t_call, t_pri, t_cst, t_not, t_and, t_or, tand_nil, tand_cons, tor_nil, tor_cons, cond_none, cond_some, tru_bl, tru_int, itOf_lst, itOf_tup, i_seq, i_rg1, i_rg2, enD_lst, enD_tup, i_enum, zipD_lst, zipD_tup, i_zip, s_fr, c_eqI, c_neI, c_ltI, c_leI, c_gtI, c_geI, c_is, c_isn, ar_add, ar_sub, p_lenT, p_lenL, p_tuple, p_tupleT, p_list, p_listL, p_sorted, p_min2, p_max2, p_sumT, p_sumL, p_all, p_any, k_and, k_or, k_andT, k_orT, k_opt, k_lim, beq_nat, lim1, lim0, lim2, lim3, lim4, isTu_tup, isW_int, List.set_cons_zero, List.set_cons_succ, Option.map_some, Option.map_none, cond_true, cond_false, Bool.not_true, Bool.not_false, List.length_cons, List.length_nil, List.length_map, reduceIte, Bool.true_and, Bool.and_true, Bool.false_and, Bool.and_false, Bool.or_true, Bool.true_or, Bool.false_or, Bool.or_false, Bool.false_eq_true, h0, isEvenD, isTu]
def ptsAll (l : List D) : List (List Int) := l.flatMap chIn
def takesD (b : List Nat) : D → Bool
  | .tup l => l.all (isEvenD b) && decide (sortE (ptsAll l) = ptsOf b)
  | _ => false
/-- not too large -/
structure Fit (d : D) : Prop where
  dt : isDt d = true
  dep : depD d ≤ 40
  one : ∀ l, d = .tup l → l.length ≤ 500 ∧ ∀ c ∈ l, ∀ k, c = .tup k → k.length ≤ 500 ∧ ∀ p ∈ k, ∀ q, p = .tup q → q.length ≤ 500
theorem chs_inv {b : List Nat} : ∀ {l : List D}, l.all (isEvenD b) = true → ∃ cs : List Ch, l = cs.map ch ∧ ∀ c ∈ cs, 0 < c.length ∧ (∀ p ∈ c, okP b p) ∧ evenI b c = true
  | [], _ => ⟨[], rfl, fun _ h => by cases h⟩
  | d :: l, h => by
    rw [List.all_cons, Bool.and_eq_true] at h
    obtain ⟨cs, rfl, hc⟩ := chs_inv h.2
    cases d with
    | tup k =>
      have h1 : (!k.isEmpty && k.all (isPt b) && evenI b (chIn (.tup k))) = true := h.1
      rw [Bool.and_eq_true, Bool.and_eq_true] at h1
      obtain ⟨⟨h1, h2⟩, h3⟩ := h1
      obtain ⟨c, rfl, hp⟩ := pts_inv h2
      have h3 : evenI b (chIn (ch c)) = true := h3
      rw [chIn_ch] at h3
      refine ⟨c :: cs, rfl, fun q hq => ?_⟩
      rcases List.mem_cons.mp hq with rfl | hq
      · refine ⟨?_, hp, h3⟩
        cases q with
        | nil => cases h1
        | cons _ _ => exact Nat.succ_pos _
      · exact hc q hq
    | _ => cases h.1
theorem ptsAll_ch (cs : List Ch) : ptsAll (cs.map ch) = cs.flatten := by
  unfold ptsAll
  induction cs with
  | nil => rfl
  | cons c cs ih => rw [List.map_cons, List.flatMap_cons, ih, chIn_ch] <;> rfl
theorem noEmp_pt {f : List (List Int)} (h : ∀ p ∈ f, 0 < p.length) : noEmp (f.map pt) = true := by
  unfold noEmp
  rw [List.all_eq_true]
  intro d hd
  obtain ⟨c, hc, rfl⟩ := List.mem_map.mp hd
  cases c with
  | nil => exact absurd (h [] hc) (by simp)
  | cons p c => rfl
theorem sort_pt (S : Sto) {f : List (List Int)} (h : ∀ p ∈ f, 0 < p.length) (hl : f.length ≤ LIM) : sortedD S (.lst (f.map pt)) = some (.lst ((sortE f).map pt)) := sorted_enc (α := List Int) (by decide) hl (by
  show (noEmp (f.map pt) || _) = true
  rw [noEmp_pt h] <;> rfl)
theorem flatten_le {cs : List Ch} {m : Nat} (h : ∀ c ∈ cs, c.length ≤ m) : cs.flatten.length ≤ cs.length * m := by
  induction cs with
  | nil => simp
  | cons c cs ih =>
    have h1 := h c List.mem_cons_self
    have h2 := ih fun d hd => h d (List.mem_cons_of_mem _ hd)
    rw [List.flatten_cons, List.length_append, List.length_cons, Nat.add_mul]
    omega
theorem f12x (n : Nat) (bs : List Nat) (S : Sto) {b : List Nat} (g : Good b) {d : D} (h : isDt d = true) (ht : isTu d = false) : Fn (n + 4) 12 bs [bx b, d] S = .ok (.bl false) S := by
  refine run_dt (C := cN pg FU (n + 3)) (f := d12) rfl rfl rfl (v0 := [some (bx b), some d, none, none, none]) (v := [some (bx b), some d, none, none, none]) ?_ rfl
  simp only [d12, b_ok, b_ex, b_bad, bnd_b, ret_ap, bad_ap, ofO_some, ofO_none, getV_cons, getV_zero, nxt_nx, nxt_ret, nxt_brk, nxt_cnt, s_nil, s_cons, s_asg, a_nm, s_ex, s_ret, s_retN, s_iff, s_pas, s_brk, s_cnt, s_rai, e_var, e_cst, e_glo, e_bin, negD_int, e_neg, e_cmp, e_chn, notD_bl, e_not, isB_bl, e_and, e_or, and_nil, and_cons, or_nil, or_cons, e_ite, e_tup, limM_b, e_ls, e_mk, l_ls, l_cat, repD_int, l_rep, l_lc, l_of, e_call, e_pri, e_idx, e_lc, e_rev, revTD_tup, e_revT, toI_int, o_none, o_some, e_sli, es_nil, es_cons, t_cmp, t_chn, t_var, t_call, t_pri, t_cst, t_not, t_and, t_or, tand_nil, tand_cons, tor_nil, tor_cons, cond_none, cond_some, tru_bl, tru_int, itOf_lst, itOf_tup, i_seq, i_rg1, i_rg2, enD_lst, enD_tup, i_enum, zipD_lst, zipD_tup, i_zip, s_fr, c_eqI, c_neI, c_ltI, c_leI, c_gtI, c_geI, c_is, c_isn, ar_add, ar_sub, p_lenT, p_lenL, p_tuple, p_tupleT, p_list, p_listL, p_sorted, p_min2, p_max2, p_sumT, p_sumL, p_all, p_any, k_and, k_or, k_andT, k_orT, k_opt, k_lim, beq_nat, lim1, lim0, lim2, lim3, lim4, isTu_tup, isW_int, List.set_cons_zero, List.set_cons_succ, Option.map_some, Option.map_none, cond_true, cond_false, Bool.not_true, Bool.not_false, List.length_cons, List.length_nil, List.length_map, reduceIte, Bool.true_and, Bool.and_true, Bool.false_and, Bool.and_false, Bool.or_true, Bool.true_or, Bool.false_or, Bool.or_false, Bool.false_eq_true, f3g n _ _ g, p_isi_tuple S h, ht]
theorem f12 (n : Nat) (bs : List Nat) (S : Sto) {b : List Nat} (g : Good b) {d : D} (f : Fit d) : Fn (n + 4) 12 bs [bx b, d] S = .ok (.bl (takesD b d)) S := by
  have h := f.dt
  have h0 := p_isi_tuple S h
  have hb : b.length ≤ 1000 := by have := g.h5; omega
  cases hdd : d with
  | tup l =>
    subst hdd
    rw [isTu_tup] at h0
    obtain ⟨hl1, hl2⟩ := f.one l rfl
    have e1 : evC (cN pg FU (n + 3)) d12c1 ⟨S.length :: bs, [some (bx b), some (.tup l), none, none, none]⟩ S = .ok (l.map fun z => .bl (isEvenD b z)) S :=
      lc_map (e := id) (xs := l) (by simp only [b_ok, b_ex, b_bad, bnd_b, ret_ap, bad_ap, ofO_some, ofO_none, getV_cons, getV_zero, nxt_nx, nxt_ret, nxt_brk, nxt_cnt, s_nil, s_cons, s_asg, a_nm, s_ex, s_ret, s_retN, s_iff, s_pas, s_brk, s_cnt, s_rai, e_var, e_cst, e_glo, e_bin, negD_int, e_neg, e_cmp, e_chn, notD_bl, e_not, isB_bl, e_and, e_or, and_nil, and_cons, or_nil, or_cons, e_ite, e_tup, limM_b, e_ls, e_mk, l_ls, l_cat, repD_int, l_rep, l_lc, l_of, e_call, e_pri, e_idx, e_lc, e_rev, revTD_tup, e_revT, toI_int, o_none, o_some, e_sli, es_nil, es_cons, t_cmp, t_chn, t_var, t_call, t_pri, t_cst, t_not, t_and, t_or, tand_nil, tand_cons, tor_nil, tor_cons, cond_none, cond_some, tru_bl, tru_int, itOf_lst, itOf_tup, i_seq, i_rg1, i_rg2, enD_lst, enD_tup, i_enum, zipD_lst, zipD_tup, i_zip, s_fr, c_eqI, c_neI, c_ltI, c_leI, c_gtI, c_geI, c_is, c_isn, ar_add, ar_sub, p_lenT, p_lenL, p_tuple, p_tupleT, p_list, p_listL, p_sorted, p_min2, p_max2, p_sumT, p_sumL, p_all, p_any, k_and, k_or, k_andT, k_orT, k_opt, k_lim, beq_nat, lim1, lim0, lim2, lim3, lim4, isTu_tup, isW_int, List.set_cons_zero, List.set_cons_succ, Option.map_some, Option.map_none, cond_true, cond_false, Bool.not_true, Bool.not_false, List.length_cons, List.length_nil, List.length_map, reduceIte, Bool.true_and, Bool.and_true, Bool.false_and, Bool.and_false, Bool.or_true, Bool.true_or, Bool.false_or, Bool.or_false, Bool.false_eq_true, List.map_id]) (fun z hz => by
        simp only [cB_nm, b_ok, b_ex, b_bad, bnd_b, ret_ap, bad_ap, ofO_some, ofO_none, getV_cons, getV_zero, nxt_nx, nxt_ret, nxt_brk, nxt_cnt, s_nil, s_cons, s_asg, a_nm, s_ex, s_ret, s_retN, s_iff, s_pas, s_brk, s_cnt, s_rai, e_var, e_cst, e_glo, e_bin, negD_int, e_neg, e_cmp, e_chn, notD_bl, e_not, isB_bl, e_and, e_or, and_nil, and_cons, or_nil, or_cons, e_ite, e_tup, limM_b, e_ls, e_mk, l_ls, l_cat, repD_int, l_rep, l_lc, l_of, e_call, e_pri, e_idx, e_lc, e_rev, revTD_tup, e_revT, toI_int, o_none, o_some, e_sli, es_nil, es_cons, t_cmp, t_chn, t_var, t_call, t_pri, t_cst, t_not, t_and, t_or, tand_nil, tand_cons, tor_nil, tor_cons, cond_none, cond_some, tru_bl, tru_int, itOf_lst, itOf_tup, i_seq, i_rg1, i_rg2, enD_lst, enD_tup, i_enum, zipD_lst, zipD_tup, i_zip, s_fr, c_eqI, c_neI, c_ltI, c_leI, c_gtI, c_geI, c_is, c_isn, ar_add, ar_sub, p_lenT, p_lenL, p_tuple, p_tupleT, p_list, p_listL, p_sorted, p_min2, p_max2, p_sumT, p_sumL, p_all, p_any, k_and, k_or, k_andT, k_orT, k_opt, k_lim, beq_nat, lim1, lim0, lim2, lim3, lim4, isTu_tup, isW_int, List.set_cons_zero, List.set_cons_succ, Option.map_some, Option.map_none, cond_true, cond_false, Bool.not_true, Bool.not_false, List.length_cons, List.length_nil, List.length_map, reduceIte, Bool.true_and, Bool.and_true, Bool.false_and, Bool.and_false, Bool.or_true, Bool.true_or, Bool.false_or, Bool.or_false, Bool.false_eq_true, id, f11 n _ _ hb (dts_iff.mp h z hz) (fun q e => ⟨by have := (hl2 z hz q e).1; omega, fun p hp r e2 => by have := (hl2 z hz q e).2 p hp r e2; omega⟩)]) (by show _ ≤ 1000000; omega)
    cases h1 : l.all (isEvenD b) with
    | false =>
      refine run_dt (C := cN pg FU (n + 3)) (f := d12) rfl rfl rfl (v0 := [some (bx b), some (.tup l), none, none, none]) (v := [some (bx b), some (.tup l), none, none, none]) ?_ rfl
      simp only [d12, b_ok, b_ex, b_bad, bnd_b, ret_ap, bad_ap, ofO_some, ofO_none, getV_cons, getV_zero, nxt_nx, nxt_ret, nxt_brk, nxt_cnt, s_nil, s_cons, s_asg, a_nm, s_ex, s_ret, s_retN, s_iff, s_pas, s_brk, s_cnt, s_rai, e_var, e_cst, e_glo, e_bin, negD_int, e_neg, e_cmp, e_chn, notD_bl, e_not, isB_bl, e_and, e_or, and_nil, and_cons, or_nil, or_cons, e_ite, e_tup, limM_b, e_ls, e_mk, l_ls, l_cat, repD_int, l_rep, l_lc, l_of, e_call, e_pri, e_idx, e_lc, e_rev, revTD_tup, e_revT, toI_int, o_none, o_some, e_sli, es_nil, es_cons, t_cmp, t_chn, t_var, t_call, t_pri, t_cst, t_not, t_and, t_or, tand_nil, tand_cons, tor_nil, tor_cons, cond_none, cond_some, tru_bl, tru_int, itOf_lst, itOf_tup, i_seq, i_rg1, i_rg2, enD_lst, enD_tup, i_enum, zipD_lst, zipD_tup, i_zip, s_fr, c_eqI, c_neI, c_ltI, c_leI, c_gtI, c_geI, c_is, c_isn, ar_add, ar_sub, p_lenT, p_lenL, p_tuple, p_tupleT, p_list, p_listL, p_sorted, p_min2, p_max2, p_sumT, p_sumL, p_all, p_any, k_and, k_or, k_andT, k_orT, k_opt, k_lim, beq_nat, lim1, lim0, lim2, lim3, lim4, isTu_tup, isW_int, List.set_cons_zero, List.set_cons_succ, Option.map_some, Option.map_none, cond_true, cond_false, Bool.not_true, Bool.not_false, List.length_cons, List.length_nil, List.length_map, reduceIte, Bool.true_and, Bool.and_true, Bool.false_and, Bool.and_false, Bool.or_true, Bool.true_or, Bool.false_or, Bool.or_false, Bool.false_eq_true, f3g n _ _ g, h0, e1, h1, takesD]
    | true =>
      obtain ⟨cs, rfl, hc⟩ := chs_inv h1
      have hcl : ∀ c ∈ cs, c.length ≤ 500 := fun c hc => by
        have := (hl2 (ch c) (List.mem_map_of_mem hc) (c.map pt) rfl).1
        simpa using this
      have hcs : cs.length ≤ 500 := by simpa using hl1
      have hfl : cs.flatten.length ≤ 500 * 500 := Nat.le_trans (flatten_le hcl) (Nat.mul_le_mul_right _ hcs)
      have e2 : evC (cN pg FU (n + 3)) d12c0 ⟨S.length :: bs, [some (bx b), some (.tup (cs.map ch)), none, none, none]⟩ S = .ok (cs.flatten.map pt) S := by
        have e0 : cs.flatten.map pt = cs.flatMap fun c => c.map pt := by
          rw [List.map_flatten, List.flatMap_def]
        rw [e0]
        refine lc_two (e := ch) (xs := cs) (by simp only [b_ok, b_ex, b_bad, bnd_b, ret_ap, bad_ap, ofO_some, ofO_none, getV_cons, getV_zero, nxt_nx, nxt_ret, nxt_brk, nxt_cnt, s_nil, s_cons, s_asg, a_nm, s_ex, s_ret, s_retN, s_iff, s_pas, s_brk, s_cnt, s_rai, e_var, e_cst, e_glo, e_bin, negD_int, e_neg, e_cmp, e_chn, notD_bl, e_not, isB_bl, e_and, e_or, and_nil, and_cons, or_nil, or_cons, e_ite, e_tup, limM_b, e_ls, e_mk, l_ls, l_cat, repD_int, l_rep, l_lc, l_of, e_call, e_pri, e_idx, e_lc, e_rev, revTD_tup, e_revT, toI_int, o_none, o_some, e_sli, es_nil, es_cons, t_cmp, t_chn, t_var, t_call, t_pri, t_cst, t_not, t_and, t_or, tand_nil, tand_cons, tor_nil, tor_cons, cond_none, cond_some, tru_bl, tru_int, itOf_lst, itOf_tup, i_seq, i_rg1, i_rg2, enD_lst, enD_tup, i_enum, zipD_lst, zipD_tup, i_zip, s_fr, c_eqI, c_neI, c_ltI, c_leI, c_gtI, c_geI, c_is, c_isn, ar_add, ar_sub, p_lenT, p_lenL, p_tuple, p_tupleT, p_list, p_listL, p_sorted, p_min2, p_max2, p_sumT, p_sumL, p_all, p_any, k_and, k_or, k_andT, k_orT, k_opt, k_lim, beq_nat, lim1, lim0, lim2, lim3, lim4, isTu_tup, isW_int, List.set_cons_zero, List.set_cons_succ, Option.map_some, Option.map_none, cond_true, cond_false, Bool.not_true, Bool.not_false, List.length_cons, List.length_nil, List.length_map, reduceIte, Bool.true_and, Bool.and_true, Bool.false_and, Bool.and_false, Bool.or_true, Bool.true_or, Bool.false_or, Bool.or_false, Bool.false_eq_true]) (fun c hc => ⟨[some (bx b), some (.tup (cs.map ch)), none, some (ch c), none], c.map pt, some, rfl, rfl, ?_, fun x _ => ?_, List.filterMap_some⟩) ?_
        · simp only [b_ok, b_ex, b_bad, bnd_b, ret_ap, bad_ap, ofO_some, ofO_none, getV_cons, getV_zero, nxt_nx, nxt_ret, nxt_brk, nxt_cnt, s_nil, s_cons, s_asg, a_nm, s_ex, s_ret, s_retN, s_iff, s_pas, s_brk, s_cnt, s_rai, e_var, e_cst, e_glo, e_bin, negD_int, e_neg, e_cmp, e_chn, notD_bl, e_not, isB_bl, e_and, e_or, and_nil, and_cons, or_nil, or_cons, e_ite, e_tup, limM_b, e_ls, e_mk, l_ls, l_cat, repD_int, l_rep, l_lc, l_of, e_call, e_pri, e_idx, e_lc, e_rev, revTD_tup, e_revT, toI_int, o_none, o_some, e_sli, es_nil, es_cons, t_cmp, t_chn, t_var, t_call, t_pri, t_cst, t_not, t_and, t_or, tand_nil, tand_cons, tor_nil, tor_cons, cond_none, cond_some, tru_bl, tru_int, itOf_lst, itOf_tup, i_seq, i_rg1, i_rg2, enD_lst, enD_tup, i_enum, zipD_lst, zipD_tup, i_zip, s_fr, c_eqI, c_neI, c_ltI, c_leI, c_gtI, c_geI, c_is, c_isn, ar_add, ar_sub, p_lenT, p_lenL, p_tuple, p_tupleT, p_list, p_listL, p_sorted, p_min2, p_max2, p_sumT, p_sumL, p_all, p_any, k_and, k_or, k_andT, k_orT, k_opt, k_lim, beq_nat, lim1, lim0, lim2, lim3, lim4, isTu_tup, isW_int, List.set_cons_zero, List.set_cons_succ, Option.map_some, Option.map_none, cond_true, cond_false, Bool.not_true, Bool.not_false, List.length_cons, List.length_nil, List.length_map, reduceIte, Bool.true_and, Bool.and_true, Bool.false_and, Bool.and_false, Bool.or_true, Bool.true_or, Bool.false_or, Bool.or_false, Bool.false_eq_true]
        · simp only [cB_nm, b_ok, b_ex, b_bad, bnd_b, ret_ap, bad_ap, ofO_some, ofO_none, getV_cons, getV_zero, nxt_nx, nxt_ret, nxt_brk, nxt_cnt, s_nil, s_cons, s_asg, a_nm, s_ex, s_ret, s_retN, s_iff, s_pas, s_brk, s_cnt, s_rai, e_var, e_cst, e_glo, e_bin, negD_int, e_neg, e_cmp, e_chn, notD_bl, e_not, isB_bl, e_and, e_or, and_nil, and_cons, or_nil, or_cons, e_ite, e_tup, limM_b, e_ls, e_mk, l_ls, l_cat, repD_int, l_rep, l_lc, l_of, e_call, e_pri, e_idx, e_lc, e_rev, revTD_tup, e_revT, toI_int, o_none, o_some, e_sli, es_nil, es_cons, t_cmp, t_chn, t_var, t_call, t_pri, t_cst, t_not, t_and, t_or, tand_nil, tand_cons, tor_nil, tor_cons, cond_none, cond_some, tru_bl, tru_int, itOf_lst, itOf_tup, i_seq, i_rg1, i_rg2, enD_lst, enD_tup, i_enum, zipD_lst, zipD_tup, i_zip, s_fr, c_eqI, c_neI, c_ltI, c_leI, c_gtI, c_geI, c_is, c_isn, ar_add, ar_sub, p_lenT, p_lenL, p_tuple, p_tupleT, p_list, p_listL, p_sorted, p_min2, p_max2, p_sumT, p_sumL, p_all, p_any, k_and, k_or, k_andT, k_orT, k_opt, k_lim, beq_nat, lim1, lim0, lim2, lim3, lim4, isTu_tup, isW_int, List.set_cons_zero, List.set_cons_succ, Option.map_some, Option.map_none, cond_true, cond_false, Bool.not_true, Bool.not_false, List.length_cons, List.length_nil, List.length_map, reduceIte, Bool.true_and, Bool.and_true, Bool.false_and, Bool.and_false, Bool.or_true, Bool.true_or, Bool.false_or, Bool.or_false, Bool.false_eq_true]
        · rw [← e0, List.length_map]
          show _ ≤ 1000000
          omega
      have hne : ∀ p ∈ cs.flatten, 0 < p.length := fun p hp => by
        obtain ⟨c, hc1, hp⟩ := List.mem_flatten.mp hp
        rw [((hc c hc1).2.1 p hp).1]
        exact g.h1
      have e3 := sort_pt S hne (by show _ ≤ 1000000; omega)
      have e4 := f5 (n + 2) (S.length :: bs) S hb (Nat.le_trans g.size (by decide))
      have e5 : cmpD S .eq (.lst ((sortE cs.flatten).map pt)) (.lst ((ptsOf b).map pt)) = some (decide (sortE cs.flatten = ptsOf b)) := eqq_encL (α := List Int) (by decide) _ _
      refine run_dt (C := cN pg FU (n + 3)) (f := d12) rfl rfl rfl (v0 := [some (bx b), some (.tup (cs.map ch)), none, none, none]) (v := [some (bx b), some (.tup (cs.map ch)), some (.lst (cs.flatten.map pt)), none, none]) ?_ rfl
      simp only [d12, b_ok, b_ex, b_bad, bnd_b, ret_ap, bad_ap, ofO_some, ofO_none, getV_cons, getV_zero, nxt_nx, nxt_ret, nxt_brk, nxt_cnt, s_nil, s_cons, s_asg, a_nm, s_ex, s_ret, s_retN, s_iff, s_pas, s_brk, s_cnt, s_rai, e_var, e_cst, e_glo, e_bin, negD_int, e_neg, e_cmp, e_chn, notD_bl, e_not, isB_bl, e_and, e_or, and_nil, and_cons, or_nil, or_cons, e_ite, e_tup, limM_b, e_ls, e_mk, l_ls, l_cat, repD_int, l_rep, l_lc, l_of, e_call, e_pri, e_idx, e_lc, e_rev, revTD_tup, e_revT, toI_int, o_none, o_some, e_sli, es_nil, es_cons, t_cmp, t_chn, t_var, t_call, t_pri, t_cst, t_not, t_and, t_or, tand_nil, tand_cons, tor_nil, tor_cons, cond_none, cond_some, tru_bl, tru_int, itOf_lst, itOf_tup, i_seq, i_rg1, i_rg2, enD_lst, enD_tup, i_enum, zipD_lst, zipD_tup, i_zip, s_fr, c_eqI, c_neI, c_ltI, c_leI, c_gtI, c_geI, c_is, c_isn, ar_add, ar_sub, p_lenT, p_lenL, p_tuple, p_tupleT, p_list, p_listL, p_sorted, p_min2, p_max2, p_sumT, p_sumL, p_all, p_any, k_and, k_or, k_andT, k_orT, k_opt, k_lim, beq_nat, lim1, lim0, lim2, lim3, lim4, isTu_tup, isW_int, List.set_cons_zero, List.set_cons_succ, Option.map_some, Option.map_none, cond_true, cond_false, Bool.not_true, Bool.not_false, List.length_cons, List.length_nil, List.length_map, reduceIte, Bool.true_and, Bool.and_true, Bool.false_and, Bool.and_false, Bool.or_true, Bool.true_or, Bool.false_or, Bool.or_false, Bool.false_eq_true, f3g n _ _ g, h0, e1, h1, takesD, e2, e3, e4, e5, ptsAll_ch]
  | _ =>
    subst hdd
    exact f12x n bs S g h rfl
end Ri.G
set_option maxHeartbeats 1000000
namespace Ri.G
open Ri PySem
open Ri.Enc (enc)
theorem step_or (p q : List Int) : (!(q.sum == p.sum + 1) || !le_ p q) = !stepUp p q := by
  show _ = !(q.sum == p.sum + 1 && le_ p q)
  cases (q.sum == p.sum + 1) <;> cases le_ p q <;> rfl
abbrev F26a (n : Nat) (bs : List Nat) : D → Vs → M (Fl × Vs) := fun x v => match bindT v (.nm 4) x with
      | some v => xss (cN pg FU (n + 2)) bs d26b0 v
      | none => bad
theorem for26a (n : Nat) (bs : List Nat) (S : Sto) (x y z e : Option D) {b : List Nat} (c : Ch) (hc : ∀ p ∈ c, okP b p) (hb : b.length ≤ 1000) : ∀ (ks : List Nat) (a : Option D), (∀ k ∈ ks, k + 1 < c.length) →
    (ks.all (fun k => stepUp (at_ c k) (at_ c (k + 1))) = true → ∃ a', forGo (F26a n bs) (ks.map fun (k : Nat) => D.int (1 + k)) [x, y, z, some (ch c), a, e] S = .ok (.nx, [x, y, z, some (ch c), a', e]) S) ∧
    (ks.all (fun k => stepUp (at_ c k) (at_ c (k + 1))) = false → ∃ v', forGo (F26a n bs) (ks.map fun (k : Nat) => D.int (1 + k)) [x, y, z, some (ch c), a, e] S = .ok (.ret (.bl false), v') S)
  | [], a, _ => ⟨fun _ => ⟨a, rfl⟩, fun h => by cases h⟩
  | k :: ks, a, hk => by
    have h1 := hk k List.mem_cons_self
    have i2 : (1 : Int) + k = ((k + 1 : Nat) : Int) := by omega
    have i3 : ((k + 1 : Nat) : Int) - 1 = (k : Nat) := by omega
    have g1 := idx_tup S (c.map pt) k _ (at_get (c := c) (by omega))
    have g2 := idx_tup S (c.map pt) (k + 1) _ (at_get (c := c) h1)
    have m1 := hc _ (at_mem (c := c) (k := k) (by omega))
    have m2 := hc _ (at_mem (c := c) (k := k + 1) h1)
    have u := f21 (n + 1) bs S (at_ c k) (at_ c (k + 1)) (by rw [m1.1, m2.1]) (by rw [m1.1]; exact hb)
    obtain ⟨r1, r2⟩ := for26a n bs S x y z e c hc hb ks (some (.int (1 + k))) fun j hj => hk j (List.mem_cons_of_mem _ hj)
    have so := step_or (at_ c k) (at_ c (k + 1))
    have turn : (F26a n bs) (D.int (1 + k)) [x, y, z, some (ch c), a, e] S = cond (!stepUp (at_ c k) (at_ c (k + 1))) (R.ok ((.ret (.bl false), [x, y, z, some (ch c), some (.int (1 + k)), e]) : Fl × Vs) S) (.ok (.nx, [x, y, z, some (ch c), some (.int (1 + k)), e]) S) := by
      show xss (cN pg FU (n + 2)) bs d26b0 [x, y, z, some (ch c), some (.int (1 + k)), e] S = _
      simp only [d26b0, b_ok, b_ex, b_bad, bnd_b, ret_ap, bad_ap, ofO_some, ofO_none, getV_cons, getV_zero, nxt_nx, nxt_ret, nxt_brk, nxt_cnt, s_nil, s_cons, s_asg, a_nm, s_ex, s_ret, s_retN, s_iff, s_pas, s_brk, s_cnt, s_rai, e_var, e_cst, e_glo, e_bin, negD_int, e_neg, e_cmp, e_chn, notD_bl, e_not, isB_bl, e_and, e_or, and_nil, and_cons, or_nil, or_cons, e_ite, e_tup, limM_b, e_ls, e_mk, l_ls, l_cat, repD_int, l_rep, l_lc, l_of, e_call, e_pri, e_idx, e_lc, e_rev, revTD_tup, e_revT, toI_int, o_none, o_some, e_sli, es_nil, es_cons, t_cmp, t_chn, t_var, t_call, t_pri, t_cst, t_not, t_and, t_or, tand_nil, tand_cons, tor_nil, tor_cons, cond_none, cond_some, tru_bl, tru_int, itOf_lst, itOf_tup, i_seq, i_rg1, i_rg2, enD_lst, enD_tup, i_enum, zipD_lst, zipD_tup, i_zip, s_fr, c_eqI, c_neI, c_ltI, c_leI, c_gtI, c_geI, c_is, c_isn, ar_add, ar_sub, p_lenT, p_lenL, p_tuple, p_tupleT, p_list, p_listL, p_sorted, p_min2, p_max2, p_sumT, p_sumL, p_all, p_any, k_and, k_or, k_andT, k_orT, k_opt, k_lim, beq_nat, lim1, lim0, lim2, lim3, lim4, isTu_tup, isW_int, List.set_cons_zero, List.set_cons_succ, Option.map_some, Option.map_none, cond_true, cond_false, Bool.not_true, Bool.not_false, List.length_cons, List.length_nil, List.length_map, reduceIte, Bool.true_and, Bool.and_true, Bool.false_and, Bool.and_false, Bool.or_true, Bool.true_or, Bool.false_or, Bool.or_false, Bool.false_eq_true, i2, i3, g1, g2, u, so]
      cases stepUp (at_ c k) (at_ c (k + 1)) <;> simp only [b_ok, b_ex, b_bad, bnd_b, ret_ap, bad_ap, ofO_some, ofO_none, getV_cons, getV_zero, nxt_nx, nxt_ret, nxt_brk, nxt_cnt, s_nil, s_cons, s_asg, a_nm, s_ex, s_ret, s_retN, s_iff, s_pas, s_brk, s_cnt, s_rai, e_var, e_cst, e_glo, e_bin, negD_int, e_neg, e_cmp, e_chn, notD_bl, e_not, isB_bl, e_and, e_or, and_nil, and_cons, or_nil, or_cons, e_ite, e_tup, limM_b, e_ls, e_mk, l_ls, l_cat, repD_int, l_rep, l_lc, l_of, e_call, e_pri, e_idx, e_lc, e_rev, revTD_tup, e_revT, toI_int, o_none, o_some, e_sli, es_nil, es_cons, t_cmp, t_chn, t_var, t_call, t_pri, t_cst, t_not, t_and, t_or, tand_nil, tand_cons, tor_nil, tor_cons, cond_none, cond_some, tru_bl, tru_int, itOf_lst, itOf_tup, i_seq, i_rg1, i_rg2, enD_lst, enD_tup, i_enum, zipD_lst, zipD_tup, i_zip, s_fr, c_eqI, c_neI, c_ltI, c_leI, c_gtI, c_geI, c_is, c_isn, ar_add, ar_sub, p_lenT, p_lenL, p_tuple, p_tupleT, p_list, p_listL, p_sorted, p_min2, p_max2, p_sumT, p_sumL, p_all, p_any, k_and, k_or, k_andT, k_orT, k_opt, k_lim, beq_nat, lim1, lim0, lim2, lim3, lim4, isTu_tup, isW_int, List.set_cons_zero, List.set_cons_succ, Option.map_some, Option.map_none, cond_true, cond_false, Bool.not_true, Bool.not_false, List.length_cons, List.length_nil, List.length_map, reduceIte, Bool.true_and, Bool.and_true, Bool.false_and, Bool.and_false, Bool.or_true, Bool.true_or, Bool.false_or, Bool.or_false, Bool.false_eq_true]
    rw [List.all_cons]
    cases hs : stepUp (at_ c k) (at_ c (k + 1)) with
    | true =>
      rw [hs] at turn
      refine ⟨fun h => ?_, fun h => ?_⟩
      · obtain ⟨a', e'⟩ := r1 h
        exact ⟨a', (forGo_nx turn).trans e'⟩
      · obtain ⟨v', e'⟩ := r2 h
        exact ⟨v', (forGo_nx turn).trans e'⟩
    | false =>
      rw [hs] at turn
      exact ⟨fun h => (by cases h), fun _ => ⟨_, forGo_rt turn⟩⟩
abbrev F26 (n : Nat) (bs : List Nat) : D → Vs → M (Fl × Vs) := fun x v => match bindT v (.nm 3) x with
      | some v => xss (cN pg FU (n + 2)) bs d26b1 v
      | none => bad
theorem turn26 (n : Nat) (bs : List Nat) (S : Sto) {b : List Nat} (hb : b.length ≤ 1000) (y a0 a e : Option D) (seen : List (List Int)) {d : D} (h : isDt d = true) (hd : depD d ≤ 40) (hl : ∀ l, d = .tup l → l.length ≤ 500 ∧ ∀ p ∈ l, ∀ q, p = .tup q → q.length ≤ 500) (hs : seen.length ≤ 500000) :
    (isEvenD b d = true → ∃ a' e', (F26 n bs) d [some (bx b), y, some (.lst (seen.map pt)), a0, a, e] S = .ok (.nx, [some (bx b), y, some (.lst ((seen ++ chIn d).map pt)), some d, a', e']) S) ∧
    (isEvenD b d = false → ∃ v', (F26 n bs) d [some (bx b), y, some (.lst (seen.map pt)), a0, a, e] S = .ok (.ret (.bl false), v') S) := by
  have h0 := p_isi_tuple S h
  have sh : (F26 n bs) d [some (bx b), y, some (.lst (seen.map pt)), a0, a, e] S = xss (cN pg FU (n + 2)) bs d26b1 [some (bx b), y, some (.lst (seen.map pt)), some d, a, e] S := rfl
  rw [sh]
  cases ht : isTu d with
  | false =>
    have hf : isEvenD b d = false := by cases d <;> first | rfl | cases ht
    rw [ht] at h0
    rw [hf]
    exact ⟨fun z => (by cases z), fun _ => ⟨[some (bx b), y, some (.lst (seen.map pt)), some d, a, e], by simp only [d26b1, b_ok, b_ex, b_bad, bnd_b, ret_ap, bad_ap, ofO_some, ofO_none, getV_cons, getV_zero, nxt_nx, nxt_ret, nxt_brk, nxt_cnt, s_nil, s_cons, s_asg, a_nm, s_ex, s_ret, s_retN, s_iff, s_pas, s_brk, s_cnt, s_rai, e_var, e_cst, e_glo, e_bin, negD_int, e_neg, e_cmp, e_chn, notD_bl, e_not, isB_bl, e_and, e_or, and_nil, and_cons, or_nil, or_cons, e_ite, e_tup, limM_b, e_ls, e_mk, l_ls, l_cat, repD_int, l_rep, l_lc, l_of, e_call, e_pri, e_idx, e_lc, e_rev, revTD_tup, e_revT, toI_int, o_none, o_some, e_sli, es_nil, es_cons, t_cmp, t_chn, t_var, t_call, t_pri, t_cst, t_not, t_and, t_or, tand_nil, tand_cons, tor_nil, tor_cons, cond_none, cond_some, tru_bl, tru_int, itOf_lst, itOf_tup, i_seq, i_rg1, i_rg2, enD_lst, enD_tup, i_enum, zipD_lst, zipD_tup, i_zip, s_fr, c_eqI, c_neI, c_ltI, c_leI, c_gtI, c_geI, c_is, c_isn, ar_add, ar_sub, p_lenT, p_lenL, p_tuple, p_tupleT, p_list, p_listL, p_sorted, p_min2, p_max2, p_sumT, p_sumL, p_all, p_any, k_and, k_or, k_andT, k_orT, k_opt, k_lim, beq_nat, lim1, lim0, lim2, lim3, lim4, isTu_tup, isW_int, List.set_cons_zero, List.set_cons_succ, Option.map_some, Option.map_none, cond_true, cond_false, Bool.not_true, Bool.not_false, List.length_cons, List.length_nil, List.length_map, reduceIte, Bool.true_and, Bool.and_true, Bool.false_and, Bool.and_false, Bool.or_true, Bool.true_or, Bool.false_or, Bool.or_false, Bool.false_eq_true, h0]⟩⟩
  | true =>
    rw [ht] at h0
    obtain ⟨l, rfl⟩ : ∃ l, d = .tup l := by cases d <;> first | exact ⟨_, rfl⟩ | cases ht
    obtain ⟨hl1, hl2⟩ := hl l rfl
    have hdd := dep_tup (n := 39) hd
    have sm : ∀ x ∈ l, isDt x = true ∧ depD x ≤ 59 := fun x hx => ⟨dts_iff.mp h x hx, Nat.le_trans (hdd x hx) (by decide)⟩
    have g0 := c_eq_tnil S sm
    cases hm : l.isEmpty with
    | true =>
      have hf : isEvenD b (.tup l) = false := by show (!l.isEmpty && _ && _) = false; rw [hm] <;> rfl
      rw [hm] at g0
      rw [hf]
      exact ⟨fun z => (by cases z), fun _ => ⟨[some (bx b), y, some (.lst (seen.map pt)), some (.tup l), a, e], by simp only [d26b1, b_ok, b_ex, b_bad, bnd_b, ret_ap, bad_ap, ofO_some, ofO_none, getV_cons, getV_zero, nxt_nx, nxt_ret, nxt_brk, nxt_cnt, s_nil, s_cons, s_asg, a_nm, s_ex, s_ret, s_retN, s_iff, s_pas, s_brk, s_cnt, s_rai, e_var, e_cst, e_glo, e_bin, negD_int, e_neg, e_cmp, e_chn, notD_bl, e_not, isB_bl, e_and, e_or, and_nil, and_cons, or_nil, or_cons, e_ite, e_tup, limM_b, e_ls, e_mk, l_ls, l_cat, repD_int, l_rep, l_lc, l_of, e_call, e_pri, e_idx, e_lc, e_rev, revTD_tup, e_revT, toI_int, o_none, o_some, e_sli, es_nil, es_cons, t_cmp, t_chn, t_var, t_call, t_pri, t_cst, t_not, t_and, t_or, tand_nil, tand_cons, tor_nil, tor_cons, cond_none, cond_some, tru_bl, tru_int, itOf_lst, itOf_tup, i_seq, i_rg1, i_rg2, enD_lst, enD_tup, i_enum, zipD_lst, zipD_tup, i_zip, s_fr, c_eqI, c_neI, c_ltI, c_leI, c_gtI, c_geI, c_is, c_isn, ar_add, ar_sub, p_lenT, p_lenL, p_tuple, p_tupleT, p_list, p_listL, p_sorted, p_min2, p_max2, p_sumT, p_sumL, p_all, p_any, k_and, k_or, k_andT, k_orT, k_opt, k_lim, beq_nat, lim1, lim0, lim2, lim3, lim4, isTu_tup, isW_int, List.set_cons_zero, List.set_cons_succ, Option.map_some, Option.map_none, cond_true, cond_false, Bool.not_true, Bool.not_false, List.length_cons, List.length_nil, List.length_map, reduceIte, Bool.true_and, Bool.and_true, Bool.false_and, Bool.and_false, Bool.or_true, Bool.true_or, Bool.false_or, Bool.or_false, Bool.false_eq_true, h0, g0]⟩⟩
    | false =>
      rw [hm] at g0
      have e1 : evC (cN pg FU (n + 2)) d26c0 ⟨bs, [some (bx b), y, some (.lst (seen.map pt)), some (.tup l), a, e]⟩ S = .ok (l.filter fun z => !isPt b z) S := by
        have z := lc_fil (C := cN pg FU (n + 2)) (ρ := ⟨bs, [some (bx b), y, some (.lst (seen.map pt)), some (.tup l), a, e]⟩) (S := S) (elt := .var 5) (t := .nm 5) (it := .seq (.var 3)) (c := .some (.not (.call 22 (.cons (.var 0) (.cons (.var 5) .nil))))) (e := id) (h := id) (p := fun z => !isPt b z) (xs := l) (by simp only [b_ok, b_ex, b_bad, bnd_b, ret_ap, bad_ap, ofO_some, ofO_none, getV_cons, getV_zero, nxt_nx, nxt_ret, nxt_brk, nxt_cnt, s_nil, s_cons, s_asg, a_nm, s_ex, s_ret, s_retN, s_iff, s_pas, s_brk, s_cnt, s_rai, e_var, e_cst, e_glo, e_bin, negD_int, e_neg, e_cmp, e_chn, notD_bl, e_not, isB_bl, e_and, e_or, and_nil, and_cons, or_nil, or_cons, e_ite, e_tup, limM_b, e_ls, e_mk, l_ls, l_cat, repD_int, l_rep, l_lc, l_of, e_call, e_pri, e_idx, e_lc, e_rev, revTD_tup, e_revT, toI_int, o_none, o_some, e_sli, es_nil, es_cons, t_cmp, t_chn, t_var, t_call, t_pri, t_cst, t_not, t_and, t_or, tand_nil, tand_cons, tor_nil, tor_cons, cond_none, cond_some, tru_bl, tru_int, itOf_lst, itOf_tup, i_seq, i_rg1, i_rg2, enD_lst, enD_tup, i_enum, zipD_lst, zipD_tup, i_zip, s_fr, c_eqI, c_neI, c_ltI, c_leI, c_gtI, c_geI, c_is, c_isn, ar_add, ar_sub, p_lenT, p_lenL, p_tuple, p_tupleT, p_list, p_listL, p_sorted, p_min2, p_max2, p_sumT, p_sumL, p_all, p_any, k_and, k_or, k_andT, k_orT, k_opt, k_lim, beq_nat, lim1, lim0, lim2, lim3, lim4, isTu_tup, isW_int, List.set_cons_zero, List.set_cons_succ, Option.map_some, Option.map_none, cond_true, cond_false, Bool.not_true, Bool.not_false, List.length_cons, List.length_nil, List.length_map, reduceIte, Bool.true_and, Bool.and_true, Bool.false_and, Bool.and_false, Bool.or_true, Bool.true_or, Bool.false_or, Bool.or_false, Bool.false_eq_true, List.map_id]) (fun z hz => by simp only [cB_nm, b_ok, b_ex, b_bad, bnd_b, ret_ap, bad_ap, ofO_some, ofO_none, getV_cons, getV_zero, nxt_nx, nxt_ret, nxt_brk, nxt_cnt, s_nil, s_cons, s_asg, a_nm, s_ex, s_ret, s_retN, s_iff, s_pas, s_brk, s_cnt, s_rai, e_var, e_cst, e_glo, e_bin, negD_int, e_neg, e_cmp, e_chn, notD_bl, e_not, isB_bl, e_and, e_or, and_nil, and_cons, or_nil, or_cons, e_ite, e_tup, limM_b, e_ls, e_mk, l_ls, l_cat, repD_int, l_rep, l_lc, l_of, e_call, e_pri, e_idx, e_lc, e_rev, revTD_tup, e_revT, toI_int, o_none, o_some, e_sli, es_nil, es_cons, t_cmp, t_chn, t_var, t_call, t_pri, t_cst, t_not, t_and, t_or, tand_nil, tand_cons, tor_nil, tor_cons, cond_none, cond_some, tru_bl, tru_int, itOf_lst, itOf_tup, i_seq, i_rg1, i_rg2, enD_lst, enD_tup, i_enum, zipD_lst, zipD_tup, i_zip, s_fr, c_eqI, c_neI, c_ltI, c_leI, c_gtI, c_geI, c_is, c_isn, ar_add, ar_sub, p_lenT, p_lenL, p_tuple, p_tupleT, p_list, p_listL, p_sorted, p_min2, p_max2, p_sumT, p_sumL, p_all, p_any, k_and, k_or, k_andT, k_orT, k_opt, k_lim, beq_nat, lim1, lim0, lim2, lim3, lim4, isTu_tup, isW_int, List.set_cons_zero, List.set_cons_succ, Option.map_some, Option.map_none, cond_true, cond_false, Bool.not_true, Bool.not_false, List.length_cons, List.length_nil, List.length_map, reduceIte, Bool.true_and, Bool.and_true, Bool.false_and, Bool.and_false, Bool.or_true, Bool.true_or, Bool.false_or, Bool.or_false, Bool.false_eq_true, id, f22 n _ _ hb (sm z hz).1 (Nat.le_trans (hdd z hz) (by decide)) (fun q e => Nat.le_trans (hl2 z hz q e) (by decide))]) (by show _ ≤ 1000000; omega)
        rw [List.map_id] at z
        exact z
      have e2 := c_ne_nil S (l := l.filter fun z => !isPt b z) fun x hx => sm x (List.mem_filter.mp hx).1
      rw [filter_empty] at e2
      cases h1 : l.all (isPt b) with
      | false =>
        have hf : isEvenD b (.tup l) = false := by show (!l.isEmpty && l.all (isPt b) && _) = false; rw [hm, h1] <;> rfl
        rw [h1] at e2
        rw [hf]
        exact ⟨fun z => (by cases z), fun _ => ⟨[some (bx b), y, some (.lst (seen.map pt)), some (.tup l), a, e], by simp only [d26b1, b_ok, b_ex, b_bad, bnd_b, ret_ap, bad_ap, ofO_some, ofO_none, getV_cons, getV_zero, nxt_nx, nxt_ret, nxt_brk, nxt_cnt, s_nil, s_cons, s_asg, a_nm, s_ex, s_ret, s_retN, s_iff, s_pas, s_brk, s_cnt, s_rai, e_var, e_cst, e_glo, e_bin, negD_int, e_neg, e_cmp, e_chn, notD_bl, e_not, isB_bl, e_and, e_or, and_nil, and_cons, or_nil, or_cons, e_ite, e_tup, limM_b, e_ls, e_mk, l_ls, l_cat, repD_int, l_rep, l_lc, l_of, e_call, e_pri, e_idx, e_lc, e_rev, revTD_tup, e_revT, toI_int, o_none, o_some, e_sli, es_nil, es_cons, t_cmp, t_chn, t_var, t_call, t_pri, t_cst, t_not, t_and, t_or, tand_nil, tand_cons, tor_nil, tor_cons, cond_none, cond_some, tru_bl, tru_int, itOf_lst, itOf_tup, i_seq, i_rg1, i_rg2, enD_lst, enD_tup, i_enum, zipD_lst, zipD_tup, i_zip, s_fr, c_eqI, c_neI, c_ltI, c_leI, c_gtI, c_geI, c_is, c_isn, ar_add, ar_sub, p_lenT, p_lenL, p_tuple, p_tupleT, p_list, p_listL, p_sorted, p_min2, p_max2, p_sumT, p_sumL, p_all, p_any, k_and, k_or, k_andT, k_orT, k_opt, k_lim, beq_nat, lim1, lim0, lim2, lim3, lim4, isTu_tup, isW_int, List.set_cons_zero, List.set_cons_succ, Option.map_some, Option.map_none, cond_true, cond_false, Bool.not_true, Bool.not_false, List.length_cons, List.length_nil, List.length_map, reduceIte, Bool.true_and, Bool.and_true, Bool.false_and, Bool.and_false, Bool.or_true, Bool.true_or, Bool.false_or, Bool.or_false, Bool.false_eq_true, h0, g0, e1, e2]⟩⟩
      | true =>
        rw [h1] at e2
        obtain ⟨c, rfl, hc⟩ := pts_inv h1
        have hpos : 0 < c.length := by
          cases c with
          | nil => cases hm
          | cons p c => exact Nat.succ_pos _
        have hlen : c.length ≤ 500 := by simpa using hl1
        have g5 : isEvenD b (.tup (c.map pt)) = evenI b c := by
          show (!(c.map pt).isEmpty && (c.map pt).all (isPt b) && evenI b (chIn (ch c))) = _
          rw [hm, h1, chIn_ch] <;> rfl
        rw [g5]
        have r1 := rg2_of S (lo := 1) (hi := (c.length : Int)) (by decide) (by omega)
        have r2 : ((c.length : Int) - 1).toNat = c.length - 1 := by omega
        rw [r2] at r1
        have ri : evI (cN pg FU (n + 2)) (.rg2 (.cst (.int 1)) (.pri .len (.cons (.var 3) .nil))) ⟨bs, [some (bx b), y, some (.lst (seen.map pt)), some (.tup (c.map pt)), a, e]⟩ S = .ok (.snap ((List.range (c.length - 1)).map fun (k : Nat) => D.int (1 + k))) S := by simp only [b_ok, b_ex, b_bad, bnd_b, ret_ap, bad_ap, ofO_some, ofO_none, getV_cons, getV_zero, nxt_nx, nxt_ret, nxt_brk, nxt_cnt, s_nil, s_cons, s_asg, a_nm, s_ex, s_ret, s_retN, s_iff, s_pas, s_brk, s_cnt, s_rai, e_var, e_cst, e_glo, e_bin, negD_int, e_neg, e_cmp, e_chn, notD_bl, e_not, isB_bl, e_and, e_or, and_nil, and_cons, or_nil, or_cons, e_ite, e_tup, limM_b, e_ls, e_mk, l_ls, l_cat, repD_int, l_rep, l_lc, l_of, e_call, e_pri, e_idx, e_lc, e_rev, revTD_tup, e_revT, toI_int, o_none, o_some, e_sli, es_nil, es_cons, t_cmp, t_chn, t_var, t_call, t_pri, t_cst, t_not, t_and, t_or, tand_nil, tand_cons, tor_nil, tor_cons, cond_none, cond_some, tru_bl, tru_int, itOf_lst, itOf_tup, i_seq, i_rg1, i_rg2, enD_lst, enD_tup, i_enum, zipD_lst, zipD_tup, i_zip, s_fr, c_eqI, c_neI, c_ltI, c_leI, c_gtI, c_geI, c_is, c_isn, ar_add, ar_sub, p_lenT, p_lenL, p_tuple, p_tupleT, p_list, p_listL, p_sorted, p_min2, p_max2, p_sumT, p_sumL, p_all, p_any, k_and, k_or, k_andT, k_orT, k_opt, k_lim, beq_nat, lim1, lim0, lim2, lim3, lim4, isTu_tup, isW_int, List.set_cons_zero, List.set_cons_succ, Option.map_some, Option.map_none, cond_true, cond_false, Bool.not_true, Bool.not_false, List.length_cons, List.length_nil, List.length_map, reduceIte, Bool.true_and, Bool.and_true, Bool.false_and, Bool.and_false, Bool.or_true, Bool.true_or, Bool.false_or, Bool.or_false, Bool.false_eq_true, r1]
        obtain ⟨q1, q2⟩ := for26a n bs S (some (bx b)) y (some (.lst (seen.map pt))) e c hc hb (List.range (c.length - 1)) a fun k hk => by have := List.mem_range.mp hk; omega
        have g3 : idxD S (.tup (c.map pt)) (.int 0) = some (pt (at_ c 0)) := idx_tup S (c.map pt) 0 _ (at_get hpos)
        have g2 := idx_neg1 S (c.map pt) (pt (at_ c (c.length - 1))) (by simpa using hpos) (by rw [List.length_map]; exact at_get (by omega))
        cases h2 : (List.range (c.length - 1)).all fun k => stepUp (at_ c k) (at_ c (k + 1)) with
        | false =>
          have g6 : evenI b c = false := by unfold evenI; rw [h2] <;> rfl
          rw [g6]
          obtain ⟨v', e3⟩ := q2 h2
          have e4 : xs (cN pg FU (n + 2)) bs d26f0 [some (bx b), y, some (.lst (seen.map pt)), some (.tup (c.map pt)), a, e] S = _ := s_for ri e3
          exact ⟨fun z => (by cases z), fun _ => ⟨v', by simp only [d26b1, b_ok, b_ex, b_bad, bnd_b, ret_ap, bad_ap, ofO_some, ofO_none, getV_cons, getV_zero, nxt_nx, nxt_ret, nxt_brk, nxt_cnt, s_nil, s_cons, s_asg, a_nm, s_ex, s_ret, s_retN, s_iff, s_pas, s_brk, s_cnt, s_rai, e_var, e_cst, e_glo, e_bin, negD_int, e_neg, e_cmp, e_chn, notD_bl, e_not, isB_bl, e_and, e_or, and_nil, and_cons, or_nil, or_cons, e_ite, e_tup, limM_b, e_ls, e_mk, l_ls, l_cat, repD_int, l_rep, l_lc, l_of, e_call, e_pri, e_idx, e_lc, e_rev, revTD_tup, e_revT, toI_int, o_none, o_some, e_sli, es_nil, es_cons, t_cmp, t_chn, t_var, t_call, t_pri, t_cst, t_not, t_and, t_or, tand_nil, tand_cons, tor_nil, tor_cons, cond_none, cond_some, tru_bl, tru_int, itOf_lst, itOf_tup, i_seq, i_rg1, i_rg2, enD_lst, enD_tup, i_enum, zipD_lst, zipD_tup, i_zip, s_fr, c_eqI, c_neI, c_ltI, c_leI, c_gtI, c_geI, c_is, c_isn, ar_add, ar_sub, p_lenT, p_lenL, p_tuple, p_tupleT, p_list, p_listL, p_sorted, p_min2, p_max2, p_sumT, p_sumL, p_all, p_any, k_and, k_or, k_andT, k_orT, k_opt, k_lim, beq_nat, lim1, lim0, lim2, lim3, lim4, isTu_tup, isW_int, List.set_cons_zero, List.set_cons_succ, Option.map_some, Option.map_none, cond_true, cond_false, Bool.not_true, Bool.not_false, List.length_cons, List.length_nil, List.length_map, reduceIte, Bool.true_and, Bool.and_true, Bool.false_and, Bool.and_false, Bool.or_true, Bool.true_or, Bool.false_or, Bool.or_false, Bool.false_eq_true, h0, g0, e1, e2, e4]⟩⟩
        | true =>
          obtain ⟨a', e3⟩ := q1 h2
          have e4 : xs (cN pg FU (n + 2)) bs d26f0 [some (bx b), y, some (.lst (seen.map pt)), some (.tup (c.map pt)), a, e] S = _ := s_for ri e3
          have g6 : evenI b c = ((at_ c 0).sum + (at_ c (c.length - 1)).sum == (b.sum : Int)) := by unfold evenI; rw [h2] <;> rfl
          have e5 : arith S .add (.lst (seen.map pt)) (.lst (c.map pt)) = some (.lst ((seen ++ c).map pt)) := by
            rw [ar_lst S (by simp [LIM]; omega), List.map_append]
          have e6 : chIn (.tup (c.map pt)) = c := chIn_ch c
          rw [g6, e6]
          cases h3 : ((at_ c 0).sum + (at_ c (c.length - 1)).sum == (b.sum : Int)) with
          | false => exact ⟨fun z => (by cases z), fun _ => ⟨[some (bx b), y, some (.lst (seen.map pt)), some (.tup (c.map pt)), a', e], by simp only [d26b1, b_ok, b_ex, b_bad, bnd_b, ret_ap, bad_ap, ofO_some, ofO_none, getV_cons, getV_zero, nxt_nx, nxt_ret, nxt_brk, nxt_cnt, s_nil, s_cons, s_asg, a_nm, s_ex, s_ret, s_retN, s_iff, s_pas, s_brk, s_cnt, s_rai, e_var, e_cst, e_glo, e_bin, negD_int, e_neg, e_cmp, e_chn, notD_bl, e_not, isB_bl, e_and, e_or, and_nil, and_cons, or_nil, or_cons, e_ite, e_tup, limM_b, e_ls, e_mk, l_ls, l_cat, repD_int, l_rep, l_lc, l_of, e_call, e_pri, e_idx, e_lc, e_rev, revTD_tup, e_revT, toI_int, o_none, o_some, e_sli, es_nil, es_cons, t_cmp, t_chn, t_var, t_call, t_pri, t_cst, t_not, t_and, t_or, tand_nil, tand_cons, tor_nil, tor_cons, cond_none, cond_some, tru_bl, tru_int, itOf_lst, itOf_tup, i_seq, i_rg1, i_rg2, enD_lst, enD_tup, i_enum, zipD_lst, zipD_tup, i_zip, s_fr, c_eqI, c_neI, c_ltI, c_leI, c_gtI, c_geI, c_is, c_isn, ar_add, ar_sub, p_lenT, p_lenL, p_tuple, p_tupleT, p_list, p_listL, p_sorted, p_min2, p_max2, p_sumT, p_sumL, p_all, p_any, k_and, k_or, k_andT, k_orT, k_opt, k_lim, beq_nat, lim1, lim0, lim2, lim3, lim4, isTu_tup, isW_int, List.set_cons_zero, List.set_cons_succ, Option.map_some, Option.map_none, cond_true, cond_false, Bool.not_true, Bool.not_false, List.length_cons, List.length_nil, List.length_map, reduceIte, Bool.true_and, Bool.and_true, Bool.false_and, Bool.and_false, Bool.or_true, Bool.true_or, Bool.false_or, Bool.or_false, Bool.false_eq_true, h0, g0, e1, e2, e4, g3, g2, bx_sum, h3]⟩⟩
          | true => exact ⟨fun _ => ⟨a', e, by simp only [d26b1, b_ok, b_ex, b_bad, bnd_b, ret_ap, bad_ap, ofO_some, ofO_none, getV_cons, getV_zero, nxt_nx, nxt_ret, nxt_brk, nxt_cnt, s_nil, s_cons, s_asg, a_nm, s_ex, s_ret, s_retN, s_iff, s_pas, s_brk, s_cnt, s_rai, e_var, e_cst, e_glo, e_bin, negD_int, e_neg, e_cmp, e_chn, notD_bl, e_not, isB_bl, e_and, e_or, and_nil, and_cons, or_nil, or_cons, e_ite, e_tup, limM_b, e_ls, e_mk, l_ls, l_cat, repD_int, l_rep, l_lc, l_of, e_call, e_pri, e_idx, e_lc, e_rev, revTD_tup, e_revT, toI_int, o_none, o_some, e_sli, es_nil, es_cons, t_cmp, t_chn, t_var, t_call, t_pri, t_cst, t_not, t_and, t_or, tand_nil, tand_cons, tor_nil, tor_cons, cond_none, cond_some, tru_bl, tru_int, itOf_lst, itOf_tup, i_seq, i_rg1, i_rg2, enD_lst, enD_tup, i_enum, zipD_lst, zipD_tup, i_zip, s_fr, c_eqI, c_neI, c_ltI, c_leI, c_gtI, c_geI, c_is, c_isn, ar_add, ar_sub, p_lenT, p_lenL, p_tuple, p_tupleT, p_list, p_listL, p_sorted, p_min2, p_max2, p_sumT, p_sumL, p_all, p_any, k_and, k_or, k_andT, k_orT, k_opt, k_lim, beq_nat, lim1, lim0, lim2, lim3, lim4, isTu_tup, isW_int, List.set_cons_zero, List.set_cons_succ, Option.map_some, Option.map_none, cond_true, cond_false, Bool.not_true, Bool.not_false, List.length_cons, List.length_nil, List.length_map, reduceIte, Bool.true_and, Bool.and_true, Bool.false_and, Bool.and_false, Bool.or_true, Bool.true_or, Bool.false_or, Bool.or_false, Bool.false_eq_true, h0, g0, e1, e2, e4, g3, g2, bx_sum, h3, e5]⟩, fun z => (by cases z)⟩
end Ri.G
set_option maxHeartbeats 1000000
namespace Ri.G
open Ri PySem
open Ri.Enc (enc)
theorem chIn_le {d : D} (hl : ∀ l, d = .tup l → l.length ≤ 500) : (chIn d).length ≤ 500 := by
  cases d with
  | tup l =>
    show (l.map ptIn).length ≤ 500
    rw [List.length_map]
    exact hl l rfl
  | _ => exact Nat.zero_le _
theorem for26 (n : Nat) (bs : List Nat) (S : Sto) {b : List Nat} (hb : b.length ≤ 1000) (y : Option D) : ∀ (l : List D) (seen : List (List Int)) (a0 a e : Option D),
    (∀ d ∈ l, isDt d = true ∧ depD d ≤ 40 ∧ ∀ k, d = .tup k → k.length ≤ 500 ∧ ∀ p ∈ k, ∀ q, p = .tup q → q.length ≤ 500) → seen.length + l.length * 500 ≤ 500000 →
    (l.all (isEvenD b) = true → ∃ a0' a' e', forGo (F26 n bs) l [some (bx b), y, some (.lst (seen.map pt)), a0, a, e] S = .ok (.nx, [some (bx b), y, some (.lst ((seen ++ ptsAll l).map pt)), a0', a', e']) S) ∧
    (l.all (isEvenD b) = false → ∃ v', forGo (F26 n bs) l [some (bx b), y, some (.lst (seen.map pt)), a0, a, e] S = .ok (.ret (.bl false), v') S)
  | [], seen, a0, a, e, _, _ => ⟨fun _ => ⟨a0, a, e, by simp [ptsAll] <;> rfl⟩, fun h => by cases h⟩
  | d :: l, seen, a0, a, e, hl, hs => by
    obtain ⟨h1, h2, h3⟩ := hl d List.mem_cons_self
    have hs : seen.length + (l.length + 1) * 500 ≤ 500000 := hs
    obtain ⟨t1, t2⟩ := turn26 n bs S hb y a0 a e seen h1 h2 h3 (by omega)
    rw [List.all_cons]
    cases hd : isEvenD b d with
    | false =>
      obtain ⟨v', e1⟩ := t2 hd
      exact ⟨fun z => (by cases z), fun _ => ⟨v', forGo_rt e1⟩⟩
    | true =>
      obtain ⟨a1, e1, q⟩ := t1 hd
      have hc := chIn_le fun k hk => (h3 k hk).1
      obtain ⟨r1, r2⟩ := for26 n bs S hb y l (seen ++ chIn d) (some d) a1 e1 (fun x hx => hl x (List.mem_cons_of_mem _ hx)) (by rw [List.length_append]; omega)
      refine ⟨fun z => ?_, fun z => ?_⟩
      · obtain ⟨a0', a', e', r⟩ := r1 z
        refine ⟨a0', a', e', (forGo_nx q).trans (r.trans ?_)⟩
        rw [List.append_assoc] <;> rfl
      · obtain ⟨v', r⟩ := r2 z
        exact ⟨v', (forGo_nx q).trans r⟩
theorem f26x (n : Nat) (bs : List Nat) (S : Sto) {b : List Nat} {d : D} (h : isDt d = true) (ht : isTu d = false) : Fn (n + 3) 26 bs [bx b, d] S = .ok (.bl false) S := by
  refine run_dt (C := cN pg FU (n + 2)) (f := d26) rfl rfl rfl (v0 := [some (bx b), some d, none, none, none, none]) (v := [some (bx b), some d, none, none, none, none]) ?_ rfl
  simp only [d26, b_ok, b_ex, b_bad, bnd_b, ret_ap, bad_ap, ofO_some, ofO_none, getV_cons, getV_zero, nxt_nx, nxt_ret, nxt_brk, nxt_cnt, s_nil, s_cons, s_asg, a_nm, s_ex, s_ret, s_retN, s_iff, s_pas, s_brk, s_cnt, s_rai, e_var, e_cst, e_glo, e_bin, negD_int, e_neg, e_cmp, e_chn, notD_bl, e_not, isB_bl, e_and, e_or, and_nil, and_cons, or_nil, or_cons, e_ite, e_tup, limM_b, e_ls, e_mk, l_ls, l_cat, repD_int, l_rep, l_lc, l_of, e_call, e_pri, e_idx, e_lc, e_rev, revTD_tup, e_revT, toI_int, o_none, o_some, e_sli, es_nil, es_cons, t_cmp, t_chn, t_var, t_call, t_pri, t_cst, t_not, t_and, t_or, tand_nil, tand_cons, tor_nil, tor_cons, cond_none, cond_some, tru_bl, tru_int, itOf_lst, itOf_tup, i_seq, i_rg1, i_rg2, enD_lst, enD_tup, i_enum, zipD_lst, zipD_tup, i_zip, s_fr, c_eqI, c_neI, c_ltI, c_leI, c_gtI, c_geI, c_is, c_isn, ar_add, ar_sub, p_lenT, p_lenL, p_tuple, p_tupleT, p_list, p_listL, p_sorted, p_min2, p_max2, p_sumT, p_sumL, p_all, p_any, k_and, k_or, k_andT, k_orT, k_opt, k_lim, beq_nat, lim1, lim0, lim2, lim3, lim4, isTu_tup, isW_int, List.set_cons_zero, List.set_cons_succ, Option.map_some, Option.map_none, cond_true, cond_false, Bool.not_true, Bool.not_false, List.length_cons, List.length_nil, List.length_map, reduceIte, Bool.true_and, Bool.and_true, Bool.false_and, Bool.and_false, Bool.or_true, Bool.true_or, Bool.false_or, Bool.or_false, Bool.false_eq_true, p_isi_tuple S h, ht]
theorem f26 (n : Nat) (bs : List Nat) (S : Sto) {b : List Nat} (g : Good b) {d : D} (f : Fit d) : Fn (n + 3) 26 bs [bx b, d] S = .ok (.bl (takesD b d)) S := by
  have h := f.dt
  have h0 := p_isi_tuple S h
  have hb : b.length ≤ 1000 := by have := g.h5; omega
  cases hdd : d with
  | tup l =>
    subst hdd
    rw [isTu_tup] at h0
    obtain ⟨hl1, hl2⟩ := f.one l rfl
    have hd := dep_tup (n := 39) f.dep
    obtain ⟨r1, r2⟩ := for26 n (S.length :: bs) S hb (some (.tup l)) l [] none none none (fun c hc => ⟨dts_iff.mp h c hc, Nat.le_trans (hd c hc) (by decide), hl2 c hc⟩) (by simp; omega)
    cases h1 : l.all (isEvenD b) with
    | false =>
      obtain ⟨v', e⟩ := r2 h1
      have e1 : xs (cN pg FU (n + 2)) (S.length :: bs) d26f1 [some (bx b), some (.tup l), some (.lst []), none, none, none] S = _ := s_for (S1 := S) (l := l) (by simp only [b_ok, b_ex, b_bad, bnd_b, ret_ap, bad_ap, ofO_some, ofO_none, getV_cons, getV_zero, nxt_nx, nxt_ret, nxt_brk, nxt_cnt, s_nil, s_cons, s_asg, a_nm, s_ex, s_ret, s_retN, s_iff, s_pas, s_brk, s_cnt, s_rai, e_var, e_cst, e_glo, e_bin, negD_int, e_neg, e_cmp, e_chn, notD_bl, e_not, isB_bl, e_and, e_or, and_nil, and_cons, or_nil, or_cons, e_ite, e_tup, limM_b, e_ls, e_mk, l_ls, l_cat, repD_int, l_rep, l_lc, l_of, e_call, e_pri, e_idx, e_lc, e_rev, revTD_tup, e_revT, toI_int, o_none, o_some, e_sli, es_nil, es_cons, t_cmp, t_chn, t_var, t_call, t_pri, t_cst, t_not, t_and, t_or, tand_nil, tand_cons, tor_nil, tor_cons, cond_none, cond_some, tru_bl, tru_int, itOf_lst, itOf_tup, i_seq, i_rg1, i_rg2, enD_lst, enD_tup, i_enum, zipD_lst, zipD_tup, i_zip, s_fr, c_eqI, c_neI, c_ltI, c_leI, c_gtI, c_geI, c_is, c_isn, ar_add, ar_sub, p_lenT, p_lenL, p_tuple, p_tupleT, p_list, p_listL, p_sorted, p_min2, p_max2, p_sumT, p_sumL, p_all, p_any, k_and, k_or, k_andT, k_orT, k_opt, k_lim, beq_nat, lim1, lim0, lim2, lim3, lim4, isTu_tup, isW_int, List.set_cons_zero, List.set_cons_succ, Option.map_some, Option.map_none, cond_true, cond_false, Bool.not_true, Bool.not_false, List.length_cons, List.length_nil, List.length_map, reduceIte, Bool.true_and, Bool.and_true, Bool.false_and, Bool.and_false, Bool.or_true, Bool.true_or, Bool.false_or, Bool.or_false, Bool.false_eq_true]) e
      refine run_dt (C := cN pg FU (n + 2)) (f := d26) rfl rfl rfl (v0 := [some (bx b), some (.tup l), none, none, none, none]) (v := v') ?_ rfl
      simp only [d26, b_ok, b_ex, b_bad, bnd_b, ret_ap, bad_ap, ofO_some, ofO_none, getV_cons, getV_zero, nxt_nx, nxt_ret, nxt_brk, nxt_cnt, s_nil, s_cons, s_asg, a_nm, s_ex, s_ret, s_retN, s_iff, s_pas, s_brk, s_cnt, s_rai, e_var, e_cst, e_glo, e_bin, negD_int, e_neg, e_cmp, e_chn, notD_bl, e_not, isB_bl, e_and, e_or, and_nil, and_cons, or_nil, or_cons, e_ite, e_tup, limM_b, e_ls, e_mk, l_ls, l_cat, repD_int, l_rep, l_lc, l_of, e_call, e_pri, e_idx, e_lc, e_rev, revTD_tup, e_revT, toI_int, o_none, o_some, e_sli, es_nil, es_cons, t_cmp, t_chn, t_var, t_call, t_pri, t_cst, t_not, t_and, t_or, tand_nil, tand_cons, tor_nil, tor_cons, cond_none, cond_some, tru_bl, tru_int, itOf_lst, itOf_tup, i_seq, i_rg1, i_rg2, enD_lst, enD_tup, i_enum, zipD_lst, zipD_tup, i_zip, s_fr, c_eqI, c_neI, c_ltI, c_leI, c_gtI, c_geI, c_is, c_isn, ar_add, ar_sub, p_lenT, p_lenL, p_tuple, p_tupleT, p_list, p_listL, p_sorted, p_min2, p_max2, p_sumT, p_sumL, p_all, p_any, k_and, k_or, k_andT, k_orT, k_opt, k_lim, beq_nat, lim1, lim0, lim2, lim3, lim4, isTu_tup, isW_int, List.set_cons_zero, List.set_cons_succ, Option.map_some, Option.map_none, cond_true, cond_false, Bool.not_true, Bool.not_false, List.length_cons, List.length_nil, List.length_map, reduceIte, Bool.true_and, Bool.and_true, Bool.false_and, Bool.and_false, Bool.or_true, Bool.true_or, Bool.false_or, Bool.or_false, Bool.false_eq_true, h0, e1, takesD, h1]
    | true =>
      obtain ⟨a0', a', e', e⟩ := r1 h1
      have e1 : xs (cN pg FU (n + 2)) (S.length :: bs) d26f1 [some (bx b), some (.tup l), some (.lst []), none, none, none] S = _ := s_for (S1 := S) (l := l) (by simp only [b_ok, b_ex, b_bad, bnd_b, ret_ap, bad_ap, ofO_some, ofO_none, getV_cons, getV_zero, nxt_nx, nxt_ret, nxt_brk, nxt_cnt, s_nil, s_cons, s_asg, a_nm, s_ex, s_ret, s_retN, s_iff, s_pas, s_brk, s_cnt, s_rai, e_var, e_cst, e_glo, e_bin, negD_int, e_neg, e_cmp, e_chn, notD_bl, e_not, isB_bl, e_and, e_or, and_nil, and_cons, or_nil, or_cons, e_ite, e_tup, limM_b, e_ls, e_mk, l_ls, l_cat, repD_int, l_rep, l_lc, l_of, e_call, e_pri, e_idx, e_lc, e_rev, revTD_tup, e_revT, toI_int, o_none, o_some, e_sli, es_nil, es_cons, t_cmp, t_chn, t_var, t_call, t_pri, t_cst, t_not, t_and, t_or, tand_nil, tand_cons, tor_nil, tor_cons, cond_none, cond_some, tru_bl, tru_int, itOf_lst, itOf_tup, i_seq, i_rg1, i_rg2, enD_lst, enD_tup, i_enum, zipD_lst, zipD_tup, i_zip, s_fr, c_eqI, c_neI, c_ltI, c_leI, c_gtI, c_geI, c_is, c_isn, ar_add, ar_sub, p_lenT, p_lenL, p_tuple, p_tupleT, p_list, p_listL, p_sorted, p_min2, p_max2, p_sumT, p_sumL, p_all, p_any, k_and, k_or, k_andT, k_orT, k_opt, k_lim, beq_nat, lim1, lim0, lim2, lim3, lim4, isTu_tup, isW_int, List.set_cons_zero, List.set_cons_succ, Option.map_some, Option.map_none, cond_true, cond_false, Bool.not_true, Bool.not_false, List.length_cons, List.length_nil, List.length_map, reduceIte, Bool.true_and, Bool.and_true, Bool.false_and, Bool.and_false, Bool.or_true, Bool.true_or, Bool.false_or, Bool.or_false, Bool.false_eq_true]) e
      obtain ⟨cs, rfl, hc⟩ := chs_inv h1
      have e6 : [] ++ ptsAll (cs.map ch) = cs.flatten := ptsAll_ch cs
      rw [e6] at e1
      have hcl : ∀ c ∈ cs, c.length ≤ 500 := fun c hc => by
        have := (hl2 (ch c) (List.mem_map_of_mem hc) (c.map pt) rfl).1
        simpa using this
      have hcs : cs.length ≤ 500 := by simpa using hl1
      have hfl : cs.flatten.length ≤ 500 * 500 := Nat.le_trans (flatten_le hcl) (Nat.mul_le_mul_right _ hcs)
      have hne : ∀ p ∈ cs.flatten, 0 < p.length := fun p hp => by
        obtain ⟨c, hc1, hp⟩ := List.mem_flatten.mp hp
        rw [((hc c hc1).2.1 p hp).1]
        exact g.h1
      have hnp : ∀ p ∈ ptsOf b, 0 < p.length := fun p hp => by rw [(okP_pts b p hp).1]; exact g.h1
      have e3 := sort_pt S hne (by show _ ≤ 1000000; omega)
      have e4 := f20 (n + 1) (S.length :: bs) S hb (Nat.le_trans g.size (by decide))
      have hpl : (ptsOf b).length ≤ 1000000 := by have := pts_len b; have := g.size; omega
      have e7 := sort_pt S hnp hpl
      rw [sort_pts] at e7
      have e5 : cmpD S .eq (.lst ((sortE cs.flatten).map pt)) (.lst ((ptsOf b).map pt)) = some (decide (sortE cs.flatten = ptsOf b)) := eqq_encL (α := List Int) (by decide) _ _
      refine run_dt (C := cN pg FU (n + 2)) (f := d26) rfl rfl rfl (v0 := [some (bx b), some (.tup (cs.map ch)), none, none, none, none]) (v := [some (bx b), some (.tup (cs.map ch)), some (.lst (cs.flatten.map pt)), a0', a', e']) ?_ rfl
      simp only [d26, b_ok, b_ex, b_bad, bnd_b, ret_ap, bad_ap, ofO_some, ofO_none, getV_cons, getV_zero, nxt_nx, nxt_ret, nxt_brk, nxt_cnt, s_nil, s_cons, s_asg, a_nm, s_ex, s_ret, s_retN, s_iff, s_pas, s_brk, s_cnt, s_rai, e_var, e_cst, e_glo, e_bin, negD_int, e_neg, e_cmp, e_chn, notD_bl, e_not, isB_bl, e_and, e_or, and_nil, and_cons, or_nil, or_cons, e_ite, e_tup, limM_b, e_ls, e_mk, l_ls, l_cat, repD_int, l_rep, l_lc, l_of, e_call, e_pri, e_idx, e_lc, e_rev, revTD_tup, e_revT, toI_int, o_none, o_some, e_sli, es_nil, es_cons, t_cmp, t_chn, t_var, t_call, t_pri, t_cst, t_not, t_and, t_or, tand_nil, tand_cons, tor_nil, tor_cons, cond_none, cond_some, tru_bl, tru_int, itOf_lst, itOf_tup, i_seq, i_rg1, i_rg2, enD_lst, enD_tup, i_enum, zipD_lst, zipD_tup, i_zip, s_fr, c_eqI, c_neI, c_ltI, c_leI, c_gtI, c_geI, c_is, c_isn, ar_add, ar_sub, p_lenT, p_lenL, p_tuple, p_tupleT, p_list, p_listL, p_sorted, p_min2, p_max2, p_sumT, p_sumL, p_all, p_any, k_and, k_or, k_andT, k_orT, k_opt, k_lim, beq_nat, lim1, lim0, lim2, lim3, lim4, isTu_tup, isW_int, List.set_cons_zero, List.set_cons_succ, Option.map_some, Option.map_none, cond_true, cond_false, Bool.not_true, Bool.not_false, List.length_cons, List.length_nil, List.length_map, reduceIte, Bool.true_and, Bool.and_true, Bool.false_and, Bool.and_false, Bool.or_true, Bool.true_or, Bool.false_or, Bool.or_false, Bool.false_eq_true, h0, e1, h1, takesD, e3, e4, e5, e7, ptsAll_ch]
  | _ =>
    subst hdd
    exact f26x n bs S h rfl
def midOf (b : List Nat) : List (List Int) := (ptsOf b).filter fun p => p.sum == ((b.sum / 2 : Nat) : Int)
theorem f13 (n : Nat) (bs : List Nat) (S : Sto) {b : List Nat} (g : Good b) : Fn (n + 4) 13 bs [bx b] S = .ok (.tup ((midOf b).map pt)) S := by
  have hb : b.length ≤ 1000 := by have := g.h5; omega
  have hpl : (ptsOf b).length ≤ 1000000 := by have := pts_len b; have := g.size; omega
  have e4 := f5 (n + 2) (S.length :: bs) S hb (Nat.le_trans g.size (by decide))
  have i1 : ((b.sum : Nat) : Int).fdiv 2 = ((b.sum / 2 : Nat) : Int) := by rw [Int.fdiv_eq_ediv_of_nonneg _ (by decide)]; omega
  have e0 := ar_fdiv S (i := ((b.sum : Nat) : Int)) (j := 2) (by decide) (by decide)
  rw [i1] at e0
  have e1 : evC (cN pg FU (n + 3)) d13c0 ⟨S.length :: bs, [some (bx b), some (.int ((b.sum / 2 : Nat) : Int)), none]⟩ S = .ok ((midOf b).map pt) S :=
    lc_fil (e := pt) (xs := ptsOf b) (by simp only [b_ok, b_ex, b_bad, bnd_b, ret_ap, bad_ap, ofO_some, ofO_none, getV_cons, getV_zero, nxt_nx, nxt_ret, nxt_brk, nxt_cnt, s_nil, s_cons, s_asg, a_nm, s_ex, s_ret, s_retN, s_iff, s_pas, s_brk, s_cnt, s_rai, e_var, e_cst, e_glo, e_bin, negD_int, e_neg, e_cmp, e_chn, notD_bl, e_not, isB_bl, e_and, e_or, and_nil, and_cons, or_nil, or_cons, e_ite, e_tup, limM_b, e_ls, e_mk, l_ls, l_cat, repD_int, l_rep, l_lc, l_of, e_call, e_pri, e_idx, e_lc, e_rev, revTD_tup, e_revT, toI_int, o_none, o_some, e_sli, es_nil, es_cons, t_cmp, t_chn, t_var, t_call, t_pri, t_cst, t_not, t_and, t_or, tand_nil, tand_cons, tor_nil, tor_cons, cond_none, cond_some, tru_bl, tru_int, itOf_lst, itOf_tup, i_seq, i_rg1, i_rg2, enD_lst, enD_tup, i_enum, zipD_lst, zipD_tup, i_zip, s_fr, c_eqI, c_neI, c_ltI, c_leI, c_gtI, c_geI, c_is, c_isn, ar_add, ar_sub, p_lenT, p_lenL, p_tuple, p_tupleT, p_list, p_listL, p_sorted, p_min2, p_max2, p_sumT, p_sumL, p_all, p_any, k_and, k_or, k_andT, k_orT, k_opt, k_lim, beq_nat, lim1, lim0, lim2, lim3, lim4, isTu_tup, isW_int, List.set_cons_zero, List.set_cons_succ, Option.map_some, Option.map_none, cond_true, cond_false, Bool.not_true, Bool.not_false, List.length_cons, List.length_nil, List.length_map, reduceIte, Bool.true_and, Bool.and_true, Bool.false_and, Bool.and_false, Bool.or_true, Bool.true_or, Bool.false_or, Bool.or_false, Bool.false_eq_true, e4]) (fun p _ => by simp only [cB_nm, b_ok, b_ex, b_bad, bnd_b, ret_ap, bad_ap, ofO_some, ofO_none, getV_cons, getV_zero, nxt_nx, nxt_ret, nxt_brk, nxt_cnt, s_nil, s_cons, s_asg, a_nm, s_ex, s_ret, s_retN, s_iff, s_pas, s_brk, s_cnt, s_rai, e_var, e_cst, e_glo, e_bin, negD_int, e_neg, e_cmp, e_chn, notD_bl, e_not, isB_bl, e_and, e_or, and_nil, and_cons, or_nil, or_cons, e_ite, e_tup, limM_b, e_ls, e_mk, l_ls, l_cat, repD_int, l_rep, l_lc, l_of, e_call, e_pri, e_idx, e_lc, e_rev, revTD_tup, e_revT, toI_int, o_none, o_some, e_sli, es_nil, es_cons, t_cmp, t_chn, t_var, t_call, t_pri, t_cst, t_not, t_and, t_or, tand_nil, tand_cons, tor_nil, tor_cons, cond_none, cond_some, tru_bl, tru_int, itOf_lst, itOf_tup, i_seq, i_rg1, i_rg2, enD_lst, enD_tup, i_enum, zipD_lst, zipD_tup, i_zip, s_fr, c_eqI, c_neI, c_ltI, c_leI, c_gtI, c_geI, c_is, c_isn, ar_add, ar_sub, p_lenT, p_lenL, p_tuple, p_tupleT, p_list, p_listL, p_sorted, p_min2, p_max2, p_sumT, p_sumL, p_all, p_any, k_and, k_or, k_andT, k_orT, k_opt, k_lim, beq_nat, lim1, lim0, lim2, lim3, lim4, isTu_tup, isW_int, List.set_cons_zero, List.set_cons_succ, Option.map_some, Option.map_none, cond_true, cond_false, Bool.not_true, Bool.not_false, List.length_cons, List.length_nil, List.length_map, reduceIte, Bool.true_and, Bool.and_true, Bool.false_and, Bool.and_false, Bool.or_true, Bool.true_or, Bool.false_or, Bool.or_false, Bool.false_eq_true]) hpl
  refine run_dt (C := cN pg FU (n + 3)) (f := d13) rfl rfl rfl (v0 := [some (bx b), none, none]) (v := [some (bx b), some (.int ((b.sum / 2 : Nat) : Int)), none]) ?_ (dts_pts _)
  simp only [d13, b_ok, b_ex, b_bad, bnd_b, ret_ap, bad_ap, ofO_some, ofO_none, getV_cons, getV_zero, nxt_nx, nxt_ret, nxt_brk, nxt_cnt, s_nil, s_cons, s_asg, a_nm, s_ex, s_ret, s_retN, s_iff, s_pas, s_brk, s_cnt, s_rai, e_var, e_cst, e_glo, e_bin, negD_int, e_neg, e_cmp, e_chn, notD_bl, e_not, isB_bl, e_and, e_or, and_nil, and_cons, or_nil, or_cons, e_ite, e_tup, limM_b, e_ls, e_mk, l_ls, l_cat, repD_int, l_rep, l_lc, l_of, e_call, e_pri, e_idx, e_lc, e_rev, revTD_tup, e_revT, toI_int, o_none, o_some, e_sli, es_nil, es_cons, t_cmp, t_chn, t_var, t_call, t_pri, t_cst, t_not, t_and, t_or, tand_nil, tand_cons, tor_nil, tor_cons, cond_none, cond_some, tru_bl, tru_int, itOf_lst, itOf_tup, i_seq, i_rg1, i_rg2, enD_lst, enD_tup, i_enum, zipD_lst, zipD_tup, i_zip, s_fr, c_eqI, c_neI, c_ltI, c_leI, c_gtI, c_geI, c_is, c_isn, ar_add, ar_sub, p_lenT, p_lenL, p_tuple, p_tupleT, p_list, p_listL, p_sorted, p_min2, p_max2, p_sumT, p_sumL, p_all, p_any, k_and, k_or, k_andT, k_orT, k_opt, k_lim, beq_nat, lim1, lim0, lim2, lim3, lim4, isTu_tup, isW_int, List.set_cons_zero, List.set_cons_succ, Option.map_some, Option.map_none, cond_true, cond_false, Bool.not_true, Bool.not_false, List.length_cons, List.length_nil, List.length_map, reduceIte, Bool.true_and, Bool.and_true, Bool.false_and, Bool.and_false, Bool.or_true, Bool.true_or, Bool.false_or, Bool.or_false, Bool.false_eq_true, f3g n _ _ g, bx_sum, e0, e1]
theorem mid_length (b : List Nat) : (midOf b).length = (chOf b).length := by
  have : (midOf b).length = cnt (ptsOf b) ((b.sum / 2 : Nat) : Int) := by
    unfold midOf cnt
    rw [List.countP_eq_length_filter]
  rw [this, cnt_middle b _ (by omega) (by omega)]
/-- the chains as told -/
abbrev toldCh (b : List Nat) : List Ch := sortE (chOf b)
theorem any_eqD (p : List Int) (c : Ch) : ((c.map pt).any fun z => eqD z (pt p)) = decide (p ∈ c) := by
  rw [Bool.eq_iff_iff, List.any_map, List.any_eq_true, decide_eq_true_iff]
  constructor
  · rintro ⟨q, hq, e⟩
    have : q = p := (Enc.eq (α := List Int) q p).mp e
    rw [← this]
    exact hq
  · intro h
    exact ⟨p, h, (Enc.eq (α := List Int) p p).mpr rfl⟩
theorem c_in (S : Sto) (p : List Int) (c : Ch) : cmpD S .isin (pt p) (ch c) = some (decide (p ∈ c)) := by
  show (if small (pt p) && small (.tup (c.map pt)) then some ((c.map pt).any fun z => eqD z (pt p)) else none) = _
  rw [if_pos (by rw [show small (pt p) = true from small_enc (α := List Int) (by decide) p, show small (.tup (c.map pt)) = true from small_enc (α := Ch) (by decide) c] <;> rfl), any_eqD]
def thr (b : List Nat) (p : List Int) : List Ch := (toldCh b).filter fun c => decide (p ∈ c)
theorem told_perm (b : List Nat) : (toldCh b).Perm (chOf b) := sortE_perm _
theorem thr_pos (b : List Nat) {p : List Int} (h : p ∈ ptsOf b) : ∃ c cs, thr b p = c :: cs := by
  have h1 := (chains_of b).2.mem_iff.mpr h
  obtain ⟨c, hc, hp⟩ := List.mem_flatten.mp h1
  have : c ∈ thr b p := List.mem_filter.mpr ⟨(told_perm b).mem_iff.mpr hc, decide_eq_true hp⟩
  cases e : thr b p with
  | nil => rw [e] at this; cases this
  | cons c cs => exact ⟨c, cs, rfl⟩
theorem told_len {b : List Nat} (g : Good b) : (toldCh b).length ≤ 120 := by
  rw [(told_perm b).length_eq]
  exact Nat.le_trans (chOf_length b) g.size
theorem f15 (n : Nat) (bs : List Nat) (S : Sto) {b : List Nat} (g : Good b) {p : List Int} (hp : p ∈ ptsOf b) {c : Ch} {cs : List Ch} (e : thr b p = c :: cs) : Fn (n + 5) 15 bs [bx b, pt p] S = .ok (ch c) S := by
  have hb : b.length ≤ 1000 := by have := g.h5; omega
  have hk := okP_pts b p hp
  have h4 := f4 (n + 2) (S.length :: bs) S (b := b) (d := pt p) hb (Enc.dt (α := List Int) p) (fun l e => by cases e; rw [List.length_map, hk.1]; show _ ≤ 1000000; omega)
  rw [isPt_pt hk] at h4
  have h9 := f9 n (S.length :: bs) S g
  have hl := told_len g
  have e1 : evC (cN pg FU (n + 4)) d15c0 ⟨S.length :: bs, [some (bx b), some (pt p), none]⟩ S = .ok ((thr b p).map ch) S :=
    lc_fil (e := ch) (xs := toldCh b) (by simp only [b_ok, b_ex, b_bad, bnd_b, ret_ap, bad_ap, ofO_some, ofO_none, getV_cons, getV_zero, nxt_nx, nxt_ret, nxt_brk, nxt_cnt, s_nil, s_cons, s_asg, a_nm, s_ex, s_ret, s_retN, s_iff, s_pas, s_brk, s_cnt, s_rai, e_var, e_cst, e_glo, e_bin, negD_int, e_neg, e_cmp, e_chn, notD_bl, e_not, isB_bl, e_and, e_or, and_nil, and_cons, or_nil, or_cons, e_ite, e_tup, limM_b, e_ls, e_mk, l_ls, l_cat, repD_int, l_rep, l_lc, l_of, e_call, e_pri, e_idx, e_lc, e_rev, revTD_tup, e_revT, toI_int, o_none, o_some, e_sli, es_nil, es_cons, t_cmp, t_chn, t_var, t_call, t_pri, t_cst, t_not, t_and, t_or, tand_nil, tand_cons, tor_nil, tor_cons, cond_none, cond_some, tru_bl, tru_int, itOf_lst, itOf_tup, i_seq, i_rg1, i_rg2, enD_lst, enD_tup, i_enum, zipD_lst, zipD_tup, i_zip, s_fr, c_eqI, c_neI, c_ltI, c_leI, c_gtI, c_geI, c_is, c_isn, ar_add, ar_sub, p_lenT, p_lenL, p_tuple, p_tupleT, p_list, p_listL, p_sorted, p_min2, p_max2, p_sumT, p_sumL, p_all, p_any, k_and, k_or, k_andT, k_orT, k_opt, k_lim, beq_nat, lim1, lim0, lim2, lim3, lim4, isTu_tup, isW_int, List.set_cons_zero, List.set_cons_succ, Option.map_some, Option.map_none, cond_true, cond_false, Bool.not_true, Bool.not_false, List.length_cons, List.length_nil, List.length_map, reduceIte, Bool.true_and, Bool.and_true, Bool.false_and, Bool.and_false, Bool.or_true, Bool.true_or, Bool.false_or, Bool.or_false, Bool.false_eq_true, h9]) (fun c _ => by simp only [cB_nm, b_ok, b_ex, b_bad, bnd_b, ret_ap, bad_ap, ofO_some, ofO_none, getV_cons, getV_zero, nxt_nx, nxt_ret, nxt_brk, nxt_cnt, s_nil, s_cons, s_asg, a_nm, s_ex, s_ret, s_retN, s_iff, s_pas, s_brk, s_cnt, s_rai, e_var, e_cst, e_glo, e_bin, negD_int, e_neg, e_cmp, e_chn, notD_bl, e_not, isB_bl, e_and, e_or, and_nil, and_cons, or_nil, or_cons, e_ite, e_tup, limM_b, e_ls, e_mk, l_ls, l_cat, repD_int, l_rep, l_lc, l_of, e_call, e_pri, e_idx, e_lc, e_rev, revTD_tup, e_revT, toI_int, o_none, o_some, e_sli, es_nil, es_cons, t_cmp, t_chn, t_var, t_call, t_pri, t_cst, t_not, t_and, t_or, tand_nil, tand_cons, tor_nil, tor_cons, cond_none, cond_some, tru_bl, tru_int, itOf_lst, itOf_tup, i_seq, i_rg1, i_rg2, enD_lst, enD_tup, i_enum, zipD_lst, zipD_tup, i_zip, s_fr, c_eqI, c_neI, c_ltI, c_leI, c_gtI, c_geI, c_is, c_isn, ar_add, ar_sub, p_lenT, p_lenL, p_tuple, p_tupleT, p_list, p_listL, p_sorted, p_min2, p_max2, p_sumT, p_sumL, p_all, p_any, k_and, k_or, k_andT, k_orT, k_opt, k_lim, beq_nat, lim1, lim0, lim2, lim3, lim4, isTu_tup, isW_int, List.set_cons_zero, List.set_cons_succ, Option.map_some, Option.map_none, cond_true, cond_false, Bool.not_true, Bool.not_false, List.length_cons, List.length_nil, List.length_map, reduceIte, Bool.true_and, Bool.and_true, Bool.false_and, Bool.and_false, Bool.or_true, Bool.true_or, Bool.false_or, Bool.or_false, Bool.false_eq_true, c_in]) (by show _ ≤ 1000000; omega)
  have e2 : idxD S (.lst ((thr b p).map ch)) (.int 0) = some (ch c) := by rw [e] <;> rfl
  refine run_dt (C := cN pg FU (n + 4)) (f := d15) rfl rfl rfl (v0 := [some (bx b), some (pt p), none]) (v := [some (bx b), some (pt p), none]) ?_ (Enc.dt (α := Ch) c)
  simp only [d15, b_ok, b_ex, b_bad, bnd_b, ret_ap, bad_ap, ofO_some, ofO_none, getV_cons, getV_zero, nxt_nx, nxt_ret, nxt_brk, nxt_cnt, s_nil, s_cons, s_asg, a_nm, s_ex, s_ret, s_retN, s_iff, s_pas, s_brk, s_cnt, s_rai, e_var, e_cst, e_glo, e_bin, negD_int, e_neg, e_cmp, e_chn, notD_bl, e_not, isB_bl, e_and, e_or, and_nil, and_cons, or_nil, or_cons, e_ite, e_tup, limM_b, e_ls, e_mk, l_ls, l_cat, repD_int, l_rep, l_lc, l_of, e_call, e_pri, e_idx, e_lc, e_rev, revTD_tup, e_revT, toI_int, o_none, o_some, e_sli, es_nil, es_cons, t_cmp, t_chn, t_var, t_call, t_pri, t_cst, t_not, t_and, t_or, tand_nil, tand_cons, tor_nil, tor_cons, cond_none, cond_some, tru_bl, tru_int, itOf_lst, itOf_tup, i_seq, i_rg1, i_rg2, enD_lst, enD_tup, i_enum, zipD_lst, zipD_tup, i_zip, s_fr, c_eqI, c_neI, c_ltI, c_leI, c_gtI, c_geI, c_is, c_isn, ar_add, ar_sub, p_lenT, p_lenL, p_tuple, p_tupleT, p_list, p_listL, p_sorted, p_min2, p_max2, p_sumT, p_sumL, p_all, p_any, k_and, k_or, k_andT, k_orT, k_opt, k_lim, beq_nat, lim1, lim0, lim2, lim3, lim4, isTu_tup, isW_int, List.set_cons_zero, List.set_cons_succ, Option.map_some, Option.map_none, cond_true, cond_false, Bool.not_true, Bool.not_false, List.length_cons, List.length_nil, List.length_map, reduceIte, Bool.true_and, Bool.and_true, Bool.false_and, Bool.and_false, Bool.or_true, Bool.true_or, Bool.false_or, Bool.or_false, Bool.false_eq_true, f3g (n + 1) _ _ g, h4, e1, e2]
end Ri.G
set_option maxHeartbeats 1000000
namespace Ri.G
open Ri PySem
open Ri.Enc (enc)
theorem run_gen {C : Ctx} {f : Df} {bs : List Nat} {ds : List D} {S S1 : Sto} {p : Fl} {v0 v : Vs} {d d' : D} (hk : f.keep = false) (hn : ds.length = f.ps) (hs : startV f.vs ds = v0)
    (h : xss C (S.length :: bs) f.body v0 S = .ok (p, v) S1) (ho : outD (p, v) = some d) (hd : frz S1 S.length d = some d') : runDf C f bs ds S = .ok d' (S1.take S.length) := by
  unfold runDf
  rw [if_pos (by rw [hn]; exact beq_self_eq_true _), if_neg (by rw [hk]; exact Bool.false_ne_true), hs, h]
  show (match (outD (p, v)).bind (frz S1 S.length) with
    | some d => R.ok d (S1.take S.length)
    | none => .bad) = _
  rw [ho]
  show (match frz S1 S.length d with
    | some d => R.ok d (S1.take S.length)
    | none => .bad) = _
  rw [hd]
theorem e16 : d16 = dDraw := rfl
theorem e17 : d17 = dTake := rfl
theorem f17 (n : Nat) (bs : List Nat) (rest : Sto) {q : Dr} (m : Nat) (hm : 0 < m) (hs : m ≤ 1000000000000) (hq : q.ok) : ∃ (r : Nat) (q' : Dr), r < m ∧ q'.ok ∧ Fn (n + 1) 17 bs [.ref 0, .int m] (q.so :: rest) = .ok (.int r) (q'.so :: rest) := by
  obtain ⟨r, q', h0, h1, h2, e⟩ := take_run (C := cN pg FU n) (bs := bs) (rest := rest) (q := q) (m := (m : Int)) (by omega) (sml_of (by omega) (by omega)) hq
  obtain ⟨r, rfl⟩ := Int.eq_ofNat_of_zero_le h0
  exact ⟨r, q', by omega, h2, e⟩
theorem size_snoc (s : Nat) : ∀ b : List Nat, size (b ++ [s]) = size b * (s + 1)
  | [] => by show (s + 1) * 1 = 1 * (s + 1); omega
  | t :: b => by
    show (t + 1) * size (b ++ [s]) = (t + 1) * size b * (s + 1)
    rw [size_snoc s b, Nat.mul_assoc]
theorem for19 (n : Nat) (bs : List Nat) : ∀ (ks : List Nat) (b : List Nat) (q : Dr) (a c : Option D), q.ok → (∀ s ∈ b, s ≤ 4) → size b ≤ 120 → b.length + ks.length ≤ 5 →
    ∃ (b' : List Nat) (q' : Dr) (a' c' : Option D), q'.ok ∧ (∀ s ∈ b', s ≤ 4) ∧ size b' ≤ 120 ∧ b'.length ≤ 5 ∧ forGo (fun x v => match bindT v (.nm 3) x with
      | some v => xss (cN pg FU (n + 1)) bs d19b0 v
      | none => bad) (ks.map fun (k : Nat) => D.int k) [some (.ref 0), some (.ref 1), some (.int (size b)), a, c] [q.so, .lst (b.map fun (n : Nat) => D.int n)] =
      .ok (.nx, [some (.ref 0), some (.ref 1), some (.int (size b')), a', c']) [q'.so, .lst (b'.map fun (n : Nat) => D.int n)]
  | [], b, q, a, c, hq, h4, hz, hl => ⟨b, q, a, c, hq, h4, hz, by simpa using hl, rfl⟩
  | k :: ks, b, q, a, c, hq, h4, hz, hl => by
    have hl : b.length + (ks.length + 1) ≤ 5 := hl
    obtain ⟨s, q1, hs, hq1, t⟩ := f17 n bs [.lst (b.map fun (n : Nat) => D.int n)] (q := q) 5 (by decide) (by decide) hq
    have t : callF pg FU (n + 1) 17 bs [.ref 0, .int 5] [q.so, .lst (b.map fun (n : Nat) => D.int n)] = .ok (.int s) [q1.so, .lst (b.map fun (n : Nat) => D.int n)] := t
    have i1 : (s : Int) + 1 = ((s + 1 : Nat) : Int) := by omega
    have i2 : ((size b : Nat) : Int) * ((s + 1 : Nat) : Int) = ((size b * (s + 1) : Nat) : Int) := (Int.natCast_mul _ _).symm
    have m1 : ∀ S, arith S .mul (.int (size b)) (.int ((s + 1 : Nat) : Int)) = some (.int ((size b * (s + 1) : Nat) : Int)) := fun S => by
      rw [← i2]
      exact ar_mul S (by omega) (by omega)
    by_cases h : size b * (s + 1) ≤ 120
    · have d1 : decide (((size b * (s + 1) : Nat) : Int) ≤ 120) = true := decide_eq_true (by omega)
      have ap := e_app (C := cN pg FU (n + 1)) (ρ := ⟨bs, [some (.ref 0), some (.ref 1), some (.int (size b)), some (.int k), some (.int s)]⟩) (S := [q1.so]) (i := 1) (e := .var 4) (l := b.map fun (n : Nat) => D.int n) (d := .int s) rfl rfl rfl (by rw [List.length_map]; show _ ≤ 1000000; omega)
      have ap : ev (cN pg FU (n + 1)) (.meth .append (.var 1) (.cons (.var 4) .nil)) ⟨bs, [some (.ref 0), some (.ref 1), some (.int (size b)), some (.int k), some (.int s)]⟩ [q1.so, .lst (b.map fun (n : Nat) => D.int n)] = .ok .non [q1.so, .lst ((b ++ [s]).map fun (n : Nat) => D.int n)] := by
        rw [List.map_append]
        exact ap
      obtain ⟨b', q', a', c', r1, r2, r3, r4, e⟩ := for19 n bs ks (b ++ [s]) q1 (some (.int k)) (some (.int s)) hq1 (fun x hx => by
        rcases List.mem_append.mp hx with hx | hx
        · exact h4 x hx
        · rcases List.mem_singleton.mp hx with rfl
          omega) (by rw [size_snoc]; exact h) (by rw [List.length_append, List.length_singleton]; omega)
      refine ⟨b', q', a', c', r1, r2, r3, r4, (forGo_nx ?_).trans e⟩
      show xss (cN pg FU (n + 1)) bs d19b0 [some (.ref 0), some (.ref 1), some (.int (size b)), some (.int k), c] [q.so, .lst (b.map fun (n : Nat) => D.int n)] = _
      rw [size_snoc]
      simp only [d19b0, b_ok, b_ex, b_bad, bnd_b, ret_ap, bad_ap, ofO_some, ofO_none, getV_cons, getV_zero, nxt_nx, nxt_ret, nxt_brk, nxt_cnt, s_nil, s_cons, s_asg, a_nm, s_ex, s_ret, s_retN, s_iff, s_pas, s_brk, s_cnt, s_rai, e_var, e_cst, e_glo, e_bin, negD_int, e_neg, e_cmp, e_chn, notD_bl, e_not, isB_bl, e_and, e_or, and_nil, and_cons, or_nil, or_cons, e_ite, e_tup, limM_b, e_ls, e_mk, l_ls, l_cat, repD_int, l_rep, l_lc, l_of, e_call, e_pri, e_idx, e_lc, e_rev, revTD_tup, e_revT, toI_int, o_none, o_some, e_sli, es_nil, es_cons, t_cmp, t_chn, t_var, t_call, t_pri, t_cst, t_not, t_and, t_or, tand_nil, tand_cons, tor_nil, tor_cons, cond_none, cond_some, tru_bl, tru_int, itOf_lst, itOf_tup, i_seq, i_rg1, i_rg2, enD_lst, enD_tup, i_enum, zipD_lst, zipD_tup, i_zip, s_fr, c_eqI, c_neI, c_ltI, c_leI, c_gtI, c_geI, c_is, c_isn, ar_add, ar_sub, p_lenT, p_lenL, p_tuple, p_tupleT, p_list, p_listL, p_sorted, p_min2, p_max2, p_sumT, p_sumL, p_all, p_any, k_and, k_or, k_andT, k_orT, k_opt, k_lim, beq_nat, lim1, lim0, lim2, lim3, lim4, isTu_tup, isW_int, List.set_cons_zero, List.set_cons_succ, Option.map_some, Option.map_none, cond_true, cond_false, Bool.not_true, Bool.not_false, List.length_cons, List.length_nil, List.length_map, reduceIte, Bool.true_and, Bool.and_true, Bool.false_and, Bool.and_false, Bool.or_true, Bool.true_or, Bool.false_or, Bool.or_false, Bool.false_eq_true, t, i1, m1, d1, ap]
    · have d1 : decide (((size b * (s + 1) : Nat) : Int) ≤ 120) = false := decide_eq_false (by omega)
      obtain ⟨b', q', a', c', r1, r2, r3, r4, e⟩ := for19 n bs ks b q1 (some (.int k)) (some (.int s)) hq1 h4 hz (by omega)
      refine ⟨b', q', a', c', r1, r2, r3, r4, (forGo_nx ?_).trans e⟩
      show xss (cN pg FU (n + 1)) bs d19b0 [some (.ref 0), some (.ref 1), some (.int (size b)), some (.int k), c] [q.so, .lst (b.map fun (n : Nat) => D.int n)] = _
      simp only [d19b0, b_ok, b_ex, b_bad, bnd_b, ret_ap, bad_ap, ofO_some, ofO_none, getV_cons, getV_zero, nxt_nx, nxt_ret, nxt_brk, nxt_cnt, s_nil, s_cons, s_asg, a_nm, s_ex, s_ret, s_retN, s_iff, s_pas, s_brk, s_cnt, s_rai, e_var, e_cst, e_glo, e_bin, negD_int, e_neg, e_cmp, e_chn, notD_bl, e_not, isB_bl, e_and, e_or, and_nil, and_cons, or_nil, or_cons, e_ite, e_tup, limM_b, e_ls, e_mk, l_ls, l_cat, repD_int, l_rep, l_lc, l_of, e_call, e_pri, e_idx, e_lc, e_rev, revTD_tup, e_revT, toI_int, o_none, o_some, e_sli, es_nil, es_cons, t_cmp, t_chn, t_var, t_call, t_pri, t_cst, t_not, t_and, t_or, tand_nil, tand_cons, tor_nil, tor_cons, cond_none, cond_some, tru_bl, tru_int, itOf_lst, itOf_tup, i_seq, i_rg1, i_rg2, enD_lst, enD_tup, i_enum, zipD_lst, zipD_tup, i_zip, s_fr, c_eqI, c_neI, c_ltI, c_leI, c_gtI, c_geI, c_is, c_isn, ar_add, ar_sub, p_lenT, p_lenL, p_tuple, p_tupleT, p_list, p_listL, p_sorted, p_min2, p_max2, p_sumT, p_sumL, p_all, p_any, k_and, k_or, k_andT, k_orT, k_opt, k_lim, beq_nat, lim1, lim0, lim2, lim3, lim4, isTu_tup, isW_int, List.set_cons_zero, List.set_cons_succ, Option.map_some, Option.map_none, cond_true, cond_false, Bool.not_true, Bool.not_false, List.length_cons, List.length_nil, List.length_map, reduceIte, Bool.true_and, Bool.and_true, Bool.false_and, Bool.and_false, Bool.or_true, Bool.true_or, Bool.false_or, Bool.or_false, Bool.false_eq_true, t, i1, m1, d1]
theorem f19 (n : Nat) (bs : List Nat) {q : Dr} (hq : q.ok) : ∃ (b : List Nat) (q' : Dr), Good b ∧ q'.ok ∧ Fn (n + 2) 19 bs [.ref 0] [q.so] = .ok (bx b) [q'.so] := by
  obtain ⟨r, q1, hr, hq1, t⟩ := f17 n (1 :: bs) [.lst []] (q := q) 5 (by decide) (by decide) hq
  have t : callF pg FU (n + 1) 17 (1 :: bs) [.ref 0, .int 5] [q.so, .lst []] = .ok (.int r) [q1.so, .lst []] := t
  obtain ⟨b, q', a', c', r1, r2, r3, r4, e⟩ := for19 n (1 :: bs) (List.range (1 + r)) [] q1 none none hq1 (by simp) (by decide) (by simp; omega)
  have i1 : (1 : Int) + r = ((1 + r : Nat) : Int) := by omega
  have rg := rg1_of [q1.so, .lst []] (n := 1 + r) (by omega)
  have e1 : xs (cN pg FU (n + 1)) (1 :: bs) d19f0 [some (.ref 0), some (.ref 1), some (.int 1), none, none] [q.so, .lst []] = _ := s_for (S1 := [q1.so, .lst []]) (l := (List.range (1 + r)).map fun (k : Nat) => D.int k) (by simp only [b_ok, b_ex, b_bad, bnd_b, ret_ap, bad_ap, ofO_some, ofO_none, getV_cons, getV_zero, nxt_nx, nxt_ret, nxt_brk, nxt_cnt, s_nil, s_cons, s_asg, a_nm, s_ex, s_ret, s_retN, s_iff, s_pas, s_brk, s_cnt, s_rai, e_var, e_cst, e_glo, e_bin, negD_int, e_neg, e_cmp, e_chn, notD_bl, e_not, isB_bl, e_and, e_or, and_nil, and_cons, or_nil, or_cons, e_ite, e_tup, limM_b, e_ls, e_mk, l_ls, l_cat, repD_int, l_rep, l_lc, l_of, e_call, e_pri, e_idx, e_lc, e_rev, revTD_tup, e_revT, toI_int, o_none, o_some, e_sli, es_nil, es_cons, t_cmp, t_chn, t_var, t_call, t_pri, t_cst, t_not, t_and, t_or, tand_nil, tand_cons, tor_nil, tor_cons, cond_none, cond_some, tru_bl, tru_int, itOf_lst, itOf_tup, i_seq, i_rg1, i_rg2, enD_lst, enD_tup, i_enum, zipD_lst, zipD_tup, i_zip, s_fr, c_eqI, c_neI, c_ltI, c_leI, c_gtI, c_geI, c_is, c_isn, ar_add, ar_sub, p_lenT, p_lenL, p_tuple, p_tupleT, p_list, p_listL, p_sorted, p_min2, p_max2, p_sumT, p_sumL, p_all, p_any, k_and, k_or, k_andT, k_orT, k_opt, k_lim, beq_nat, lim1, lim0, lim2, lim3, lim4, isTu_tup, isW_int, List.set_cons_zero, List.set_cons_succ, Option.map_some, Option.map_none, cond_true, cond_false, Bool.not_true, Bool.not_false, List.length_cons, List.length_nil, List.length_map, reduceIte, Bool.true_and, Bool.and_true, Bool.false_and, Bool.and_false, Bool.or_true, Bool.true_or, Bool.false_or, Bool.or_false, Bool.false_eq_true, t, i1, rg]) e
  have e0 : ∀ S : Sto, S ++ [SO.lst ([] : List D)] = S ++ [.lst []] := fun _ => rfl
  have cm : cmpD [q'.so, .lst (b.map fun (n : Nat) => D.int n)] .ne (.ref 1) (.lst []) = some (!(b.map fun (n : Nat) => D.int n).isEmpty) := c_ne_nil [q'.so] (int_ok (fun (n : Nat) => (n : Int)) b)
  have pt1 : prim [q'.so, .lst (b.map fun (n : Nat) => D.int n)] .tuple [.ref 1] = some (.tup (b.map fun (n : Nat) => D.int n)) := rfl
  have st : [q.so] ++ [SO.lst []] = [q.so, .lst []] := rfl
  have ln : [q.so].length = 1 := rfl
  cases hb : b with
  | nil =>
    subst hb
    refine ⟨[2], q', ⟨by decide, by decide, by decide, by decide⟩, r1, run_gen (C := cN pg FU (n + 1)) (f := d19) (v0 := [some (.ref 0), none, none, none, none]) (v := [some (.ref 0), some (.ref 1), some (.int 1), a', c']) (p := .ret (bx [2])) (d := bx [2]) rfl rfl rfl (S1 := [q'.so, .lst []]) ?_ rfl rfl⟩
    simp only [d19, b_ok, b_ex, b_bad, bnd_b, ret_ap, bad_ap, ofO_some, ofO_none, getV_cons, getV_zero, nxt_nx, nxt_ret, nxt_brk, nxt_cnt, s_nil, s_cons, s_asg, a_nm, s_ex, s_ret, s_retN, s_iff, s_pas, s_brk, s_cnt, s_rai, e_var, e_cst, e_glo, e_bin, negD_int, e_neg, e_cmp, e_chn, notD_bl, e_not, isB_bl, e_and, e_or, and_nil, and_cons, or_nil, or_cons, e_ite, e_tup, limM_b, e_ls, e_mk, l_ls, l_cat, repD_int, l_rep, l_lc, l_of, e_call, e_pri, e_idx, e_lc, e_rev, revTD_tup, e_revT, toI_int, o_none, o_some, e_sli, es_nil, es_cons, t_cmp, t_chn, t_var, t_call, t_pri, t_cst, t_not, t_and, t_or, tand_nil, tand_cons, tor_nil, tor_cons, cond_none, cond_some, tru_bl, tru_int, itOf_lst, itOf_tup, i_seq, i_rg1, i_rg2, enD_lst, enD_tup, i_enum, zipD_lst, zipD_tup, i_zip, s_fr, c_eqI, c_neI, c_ltI, c_leI, c_gtI, c_geI, c_is, c_isn, ar_add, ar_sub, p_lenT, p_lenL, p_tuple, p_tupleT, p_list, p_listL, p_sorted, p_min2, p_max2, p_sumT, p_sumL, p_all, p_any, k_and, k_or, k_andT, k_orT, k_opt, k_lim, beq_nat, lim1, lim0, lim2, lim3, lim4, isTu_tup, isW_int, List.set_cons_zero, List.set_cons_succ, Option.map_some, Option.map_none, cond_true, cond_false, Bool.not_true, Bool.not_false, List.length_cons, List.length_nil, List.length_map, reduceIte, Bool.true_and, Bool.and_true, Bool.false_and, Bool.and_false, Bool.or_true, Bool.true_or, Bool.false_or, Bool.or_false, Bool.false_eq_true, st, ln]
    rw [e1]
    simp only [b_ok, b_ex, b_bad, bnd_b, ret_ap, bad_ap, ofO_some, ofO_none, getV_cons, getV_zero, nxt_nx, nxt_ret, nxt_brk, nxt_cnt, s_nil, s_cons, s_asg, a_nm, s_ex, s_ret, s_retN, s_iff, s_pas, s_brk, s_cnt, s_rai, e_var, e_cst, e_glo, e_bin, negD_int, e_neg, e_cmp, e_chn, notD_bl, e_not, isB_bl, e_and, e_or, and_nil, and_cons, or_nil, or_cons, e_ite, e_tup, limM_b, e_ls, e_mk, l_ls, l_cat, repD_int, l_rep, l_lc, l_of, e_call, e_pri, e_idx, e_lc, e_rev, revTD_tup, e_revT, toI_int, o_none, o_some, e_sli, es_nil, es_cons, t_cmp, t_chn, t_var, t_call, t_pri, t_cst, t_not, t_and, t_or, tand_nil, tand_cons, tor_nil, tor_cons, cond_none, cond_some, tru_bl, tru_int, itOf_lst, itOf_tup, i_seq, i_rg1, i_rg2, enD_lst, enD_tup, i_enum, zipD_lst, zipD_tup, i_zip, s_fr, c_eqI, c_neI, c_ltI, c_leI, c_gtI, c_geI, c_is, c_isn, ar_add, ar_sub, p_lenT, p_lenL, p_tuple, p_tupleT, p_list, p_listL, p_sorted, p_min2, p_max2, p_sumT, p_sumL, p_all, p_any, k_and, k_or, k_andT, k_orT, k_opt, k_lim, beq_nat, lim1, lim0, lim2, lim3, lim4, isTu_tup, isW_int, List.set_cons_zero, List.set_cons_succ, Option.map_some, Option.map_none, cond_true, cond_false, Bool.not_true, Bool.not_false, List.length_cons, List.length_nil, List.length_map, reduceIte, Bool.true_and, Bool.and_true, Bool.false_and, Bool.and_false, Bool.or_true, Bool.true_or, Bool.false_or, Bool.or_false, Bool.false_eq_true, cm] <;> rfl
  | cons s b0 =>
    refine ⟨b, q', ⟨by rw [hb]; simp, r4, r2, r3⟩, r1, run_gen (C := cN pg FU (n + 1)) (f := d19) (v0 := [some (.ref 0), none, none, none, none]) (v := [some (.ref 0), some (.ref 1), some (.int (size b)), a', c']) (p := .ret (bx b)) (d := bx b) rfl rfl rfl (S1 := [q'.so, .lst (b.map fun (n : Nat) => D.int n)]) ?_ rfl (frz_dt (bx_dt b))⟩
    have ne : (b.map fun (n : Nat) => D.int n).isEmpty = false := by rw [hb] <;> rfl
    rw [ne] at cm
    simp only [d19, b_ok, b_ex, b_bad, bnd_b, ret_ap, bad_ap, ofO_some, ofO_none, getV_cons, getV_zero, nxt_nx, nxt_ret, nxt_brk, nxt_cnt, s_nil, s_cons, s_asg, a_nm, s_ex, s_ret, s_retN, s_iff, s_pas, s_brk, s_cnt, s_rai, e_var, e_cst, e_glo, e_bin, negD_int, e_neg, e_cmp, e_chn, notD_bl, e_not, isB_bl, e_and, e_or, and_nil, and_cons, or_nil, or_cons, e_ite, e_tup, limM_b, e_ls, e_mk, l_ls, l_cat, repD_int, l_rep, l_lc, l_of, e_call, e_pri, e_idx, e_lc, e_rev, revTD_tup, e_revT, toI_int, o_none, o_some, e_sli, es_nil, es_cons, t_cmp, t_chn, t_var, t_call, t_pri, t_cst, t_not, t_and, t_or, tand_nil, tand_cons, tor_nil, tor_cons, cond_none, cond_some, tru_bl, tru_int, itOf_lst, itOf_tup, i_seq, i_rg1, i_rg2, enD_lst, enD_tup, i_enum, zipD_lst, zipD_tup, i_zip, s_fr, c_eqI, c_neI, c_ltI, c_leI, c_gtI, c_geI, c_is, c_isn, ar_add, ar_sub, p_lenT, p_lenL, p_tuple, p_tupleT, p_list, p_listL, p_sorted, p_min2, p_max2, p_sumT, p_sumL, p_all, p_any, k_and, k_or, k_andT, k_orT, k_opt, k_lim, beq_nat, lim1, lim0, lim2, lim3, lim4, isTu_tup, isW_int, List.set_cons_zero, List.set_cons_succ, Option.map_some, Option.map_none, cond_true, cond_false, Bool.not_true, Bool.not_false, List.length_cons, List.length_nil, List.length_map, reduceIte, Bool.true_and, Bool.and_true, Bool.false_and, Bool.and_false, Bool.or_true, Bool.true_or, Bool.false_or, Bool.or_false, Bool.false_eq_true, st, ln]
    rw [e1]
    simp only [b_ok, b_ex, b_bad, bnd_b, ret_ap, bad_ap, ofO_some, ofO_none, getV_cons, getV_zero, nxt_nx, nxt_ret, nxt_brk, nxt_cnt, s_nil, s_cons, s_asg, a_nm, s_ex, s_ret, s_retN, s_iff, s_pas, s_brk, s_cnt, s_rai, e_var, e_cst, e_glo, e_bin, negD_int, e_neg, e_cmp, e_chn, notD_bl, e_not, isB_bl, e_and, e_or, and_nil, and_cons, or_nil, or_cons, e_ite, e_tup, limM_b, e_ls, e_mk, l_ls, l_cat, repD_int, l_rep, l_lc, l_of, e_call, e_pri, e_idx, e_lc, e_rev, revTD_tup, e_revT, toI_int, o_none, o_some, e_sli, es_nil, es_cons, t_cmp, t_chn, t_var, t_call, t_pri, t_cst, t_not, t_and, t_or, tand_nil, tand_cons, tor_nil, tor_cons, cond_none, cond_some, tru_bl, tru_int, itOf_lst, itOf_tup, i_seq, i_rg1, i_rg2, enD_lst, enD_tup, i_enum, zipD_lst, zipD_tup, i_zip, s_fr, c_eqI, c_neI, c_ltI, c_leI, c_gtI, c_geI, c_is, c_isn, ar_add, ar_sub, p_lenT, p_lenL, p_tuple, p_tupleT, p_list, p_listL, p_sorted, p_min2, p_max2, p_sumT, p_sumL, p_all, p_any, k_and, k_or, k_andT, k_orT, k_opt, k_lim, beq_nat, lim1, lim0, lim2, lim3, lim4, isTu_tup, isW_int, List.set_cons_zero, List.set_cons_succ, Option.map_some, Option.map_none, cond_true, cond_false, Bool.not_true, Bool.not_false, List.length_cons, List.length_nil, List.length_map, reduceIte, Bool.true_and, Bool.and_true, Bool.false_and, Bool.and_false, Bool.or_true, Bool.true_or, Bool.false_or, Bool.or_false, Bool.false_eq_true, cm, pt1] <;> rfl
end Ri.G
set_option maxHeartbeats 1000000
namespace Ri.G
open Ri PySem
open Ri.Enc (enc)
def badL (b : List Nat) : List D := [.non, .tup [], .lst (b.map fun (n : Nat) => D.int n), .tup [.int 5], .tup [.int (-1)], .tup [.bl true], .tup [.int 4, .int 4, .int 4, .int 4], .tup [.int 1, .int 1, .int 1, .int 1, .int 1, .int 1], .tup ((b.map fun (n : Nat) => D.int n) ++ [.non]), .int 5]
structure Bad (z : D) : Prop where
  dt : isDt z = true
  lim : ∀ l, z = .tup l → l.length ≤ 1000 ∧ ∀ i, D.int i ∈ l → -10 ≤ i ∧ i ≤ 10
  no : isBoxD z = false
theorem ints_dt (b : List Nat) : isDts (b.map fun (n : Nat) => D.int n) = true := bx_dt b
theorem bad_all {b : List Nat} (g : Good b) : ∀ z ∈ badL b, Bad z := by
  intro z hz
  unfold badL at hz
  rcases List.mem_cons.mp hz with rfl | hz
  · exact ⟨rfl, fun l h => (by cases h), rfl⟩
  rcases List.mem_cons.mp hz with rfl | hz
  · exact ⟨rfl, fun l h => by cases h; exact ⟨by decide, fun i hi => by cases hi⟩, rfl⟩
  rcases List.mem_cons.mp hz with rfl | hz
  · exact ⟨ints_dt b, fun l h => (by cases h), rfl⟩
  rcases List.mem_cons.mp hz with rfl | hz
  · exact ⟨rfl, fun l h => by cases h; exact ⟨by decide, fun i hi => by simp at hi; omega⟩, by decide⟩
  rcases List.mem_cons.mp hz with rfl | hz
  · exact ⟨rfl, fun l h => by cases h; exact ⟨by decide, fun i hi => by simp at hi; omega⟩, by decide⟩
  rcases List.mem_cons.mp hz with rfl | hz
  · exact ⟨rfl, fun l h => by cases h; exact ⟨by decide, fun i hi => by simp at hi⟩, by decide⟩
  rcases List.mem_cons.mp hz with rfl | hz
  · exact ⟨rfl, fun l h => by cases h; exact ⟨by decide, fun i hi => by simp at hi; omega⟩, by decide⟩
  rcases List.mem_cons.mp hz with rfl | hz
  · exact ⟨rfl, fun l h => by cases h; exact ⟨by decide, fun i hi => by simp at hi; omega⟩, by decide⟩
  rcases List.mem_cons.mp hz with rfl | hz
  · refine ⟨dts_iff.mpr fun x hx => ?_, fun l h => ?_, ?_⟩
    · rcases List.mem_append.mp hx with hx | hx
      · exact dts_iff.mp (ints_dt b) x hx
      · rcases List.mem_singleton.mp hx with rfl
        rfl
    · cases h
      refine ⟨by have := g.h5; simp; omega, fun i hi => ?_⟩
      rcases List.mem_append.mp hi with hi | hi
      · exact (g.lim _ rfl).2 i hi
      · simp at hi
    · show (_ && ((b.map fun (n : Nat) => D.int n) ++ [D.non]).all isW && _) = false
      rw [List.all_append]
      simp [isW]
  · rcases List.mem_singleton.mp hz with rfl
    exact ⟨rfl, fun l h => (by cases h), rfl⟩
theorem get_mem {l : List D} {r : Nat} (h : r < l.length) : ∃ z ∈ l, l[r]? = some z := ⟨l[r], List.getElem_mem h, List.getElem?_eq_getElem h⟩
theorem f23 (n : Nat) (bs : List Nat) {q : Dr} (hq : q.ok) {b : List Nat} (g : Good b) : ∃ (z : D) (q' : Dr), z ∈ badL b ∧ q'.ok ∧ Fn (n + 2) 23 bs [.ref 0, bx b] [q.so] = .ok z [q'.so] := by
  obtain ⟨r, q1, hr, hq1, t⟩ := f17 n (1 :: bs) [] (q := q) 10 (by decide) (by decide) hq
  have t : callF pg FU (n + 1) 17 (1 :: bs) [.ref 0, .int 10] [q.so] = .ok (.int r) [q1.so] := t
  obtain ⟨z, hz, ez⟩ := get_mem (l := badL b) (r := r) hr
  refine ⟨z, q1, hz, hq1, run_gen (C := cN pg FU (n + 1)) (f := d23) (v0 := [some (.ref 0), some (bx b), none]) (v := [some (.ref 0), some (bx b), some (.lst (badL b))]) (p := .ret z) (d := z) rfl rfl rfl (S1 := [q1.so]) ?_ rfl (frz_dt (bad_all g z hz).dt)⟩
  have a1 : arith [q.so] .mul (.tup [.int 1]) (.int 6) = some (.tup [.int 1, .int 1, .int 1, .int 1, .int 1, .int 1]) := rfl
  have a2 := ar_tup [q.so] (l := b.map fun (n : Nat) => D.int n) (k := [.non]) (by have := g.h5; simp [LIM]; omega)
  have lm : limL (badL b) = true := rfl
  have ez := idx_lst [q1.so] (badL b) r z ez
  have ln : [q.so].length = 1 := rfl
  unfold badL at ez lm ⊢
  simp only [d23, b_ok, b_ex, b_bad, bnd_b, ret_ap, bad_ap, ofO_some, ofO_none, getV_cons, getV_zero, nxt_nx, nxt_ret, nxt_brk, nxt_cnt, s_nil, s_cons, s_asg, a_nm, s_ex, s_ret, s_retN, s_iff, s_pas, s_brk, s_cnt, s_rai, e_var, e_cst, e_glo, e_bin, negD_int, e_neg, e_cmp, e_chn, notD_bl, e_not, isB_bl, e_and, e_or, and_nil, and_cons, or_nil, or_cons, e_ite, e_tup, limM_b, e_ls, e_mk, l_ls, l_cat, repD_int, l_rep, l_lc, l_of, e_call, e_pri, e_idx, e_lc, e_rev, revTD_tup, e_revT, toI_int, o_none, o_some, e_sli, es_nil, es_cons, t_cmp, t_chn, t_var, t_call, t_pri, t_cst, t_not, t_and, t_or, tand_nil, tand_cons, tor_nil, tor_cons, cond_none, cond_some, tru_bl, tru_int, itOf_lst, itOf_tup, i_seq, i_rg1, i_rg2, enD_lst, enD_tup, i_enum, zipD_lst, zipD_tup, i_zip, s_fr, c_eqI, c_neI, c_ltI, c_leI, c_gtI, c_geI, c_is, c_isn, ar_add, ar_sub, p_lenT, p_lenL, p_tuple, p_tupleT, p_list, p_listL, p_sorted, p_min2, p_max2, p_sumT, p_sumL, p_all, p_any, k_and, k_or, k_andT, k_orT, k_opt, k_lim, beq_nat, lim1, lim0, lim2, lim3, lim4, isTu_tup, isW_int, List.set_cons_zero, List.set_cons_succ, Option.map_some, Option.map_none, cond_true, cond_false, Bool.not_true, Bool.not_false, List.length_cons, List.length_nil, List.length_map, reduceIte, Bool.true_and, Bool.and_true, Bool.false_and, Bool.and_false, Bool.or_true, Bool.true_or, Bool.false_or, Bool.or_false, Bool.false_eq_true, a1, a2, lm, ln, t, ez]
theorem x7 (n : Nat) (bs : List Nat) (S : Sto) {z : D} (b : Bad z) : Fn (n + 4) 7 bs [z] S = .ex 1 .non S := by
  refine run_ex (C := cN pg FU (n + 3)) (f := d7) (v0 := [some z]) (T := []) rfl rfl rfl ?_
  simp only [d7, b_ok, b_ex, b_bad, bnd_b, ret_ap, bad_ap, ofO_some, ofO_none, getV_cons, getV_zero, nxt_nx, nxt_ret, nxt_brk, nxt_cnt, s_nil, s_cons, s_asg, a_nm, s_ex, s_ret, s_retN, s_iff, s_pas, s_brk, s_cnt, s_rai, e_var, e_cst, e_glo, e_bin, negD_int, e_neg, e_cmp, e_chn, notD_bl, e_not, isB_bl, e_and, e_or, and_nil, and_cons, or_nil, or_cons, e_ite, e_tup, limM_b, e_ls, e_mk, l_ls, l_cat, repD_int, l_rep, l_lc, l_of, e_call, e_pri, e_idx, e_lc, e_rev, revTD_tup, e_revT, toI_int, o_none, o_some, e_sli, es_nil, es_cons, t_cmp, t_chn, t_var, t_call, t_pri, t_cst, t_not, t_and, t_or, tand_nil, tand_cons, tor_nil, tor_cons, cond_none, cond_some, tru_bl, tru_int, itOf_lst, itOf_tup, i_seq, i_rg1, i_rg2, enD_lst, enD_tup, i_enum, zipD_lst, zipD_tup, i_zip, s_fr, c_eqI, c_neI, c_ltI, c_leI, c_gtI, c_geI, c_is, c_isn, ar_add, ar_sub, p_lenT, p_lenL, p_tuple, p_tupleT, p_list, p_listL, p_sorted, p_min2, p_max2, p_sumT, p_sumL, p_all, p_any, k_and, k_or, k_andT, k_orT, k_opt, k_lim, beq_nat, lim1, lim0, lim2, lim3, lim4, isTu_tup, isW_int, List.set_cons_zero, List.set_cons_succ, Option.map_some, Option.map_none, cond_true, cond_false, Bool.not_true, Bool.not_false, List.length_cons, List.length_nil, List.length_map, reduceIte, Bool.true_and, Bool.and_true, Bool.false_and, Bool.and_false, Bool.or_true, Bool.true_or, Bool.false_or, Bool.or_false, Bool.false_eq_true, f3x n _ S b.dt b.lim b.no, List.append_nil]
theorem x9 (n : Nat) (bs : List Nat) (S : Sto) {z : D} (b : Bad z) : Fn (n + 4) 9 bs [z] S = .ex 1 .non S := by
  refine run_ex (C := cN pg FU (n + 3)) (f := d9) (v0 := [some z, none, none]) (T := []) rfl rfl rfl ?_
  simp only [d9, b_ok, b_ex, b_bad, bnd_b, ret_ap, bad_ap, ofO_some, ofO_none, getV_cons, getV_zero, nxt_nx, nxt_ret, nxt_brk, nxt_cnt, s_nil, s_cons, s_asg, a_nm, s_ex, s_ret, s_retN, s_iff, s_pas, s_brk, s_cnt, s_rai, e_var, e_cst, e_glo, e_bin, negD_int, e_neg, e_cmp, e_chn, notD_bl, e_not, isB_bl, e_and, e_or, and_nil, and_cons, or_nil, or_cons, e_ite, e_tup, limM_b, e_ls, e_mk, l_ls, l_cat, repD_int, l_rep, l_lc, l_of, e_call, e_pri, e_idx, e_lc, e_rev, revTD_tup, e_revT, toI_int, o_none, o_some, e_sli, es_nil, es_cons, t_cmp, t_chn, t_var, t_call, t_pri, t_cst, t_not, t_and, t_or, tand_nil, tand_cons, tor_nil, tor_cons, cond_none, cond_some, tru_bl, tru_int, itOf_lst, itOf_tup, i_seq, i_rg1, i_rg2, enD_lst, enD_tup, i_enum, zipD_lst, zipD_tup, i_zip, s_fr, c_eqI, c_neI, c_ltI, c_leI, c_gtI, c_geI, c_is, c_isn, ar_add, ar_sub, p_lenT, p_lenL, p_tuple, p_tupleT, p_list, p_listL, p_sorted, p_min2, p_max2, p_sumT, p_sumL, p_all, p_any, k_and, k_or, k_andT, k_orT, k_opt, k_lim, beq_nat, lim1, lim0, lim2, lim3, lim4, isTu_tup, isW_int, List.set_cons_zero, List.set_cons_succ, Option.map_some, Option.map_none, cond_true, cond_false, Bool.not_true, Bool.not_false, List.length_cons, List.length_nil, List.length_map, reduceIte, Bool.true_and, Bool.and_true, Bool.false_and, Bool.and_false, Bool.or_true, Bool.true_or, Bool.false_or, Bool.or_false, Bool.false_eq_true, f3x n _ S b.dt b.lim b.no, List.append_nil]
theorem x12 (n : Nat) (bs : List Nat) (S : Sto) {z y : D} (b : Bad z) : Fn (n + 4) 12 bs [z, y] S = .ex 1 .non S := by
  refine run_ex (C := cN pg FU (n + 3)) (f := d12) (v0 := [some z, some y, none, none, none]) (T := []) rfl rfl rfl ?_
  simp only [d12, b_ok, b_ex, b_bad, bnd_b, ret_ap, bad_ap, ofO_some, ofO_none, getV_cons, getV_zero, nxt_nx, nxt_ret, nxt_brk, nxt_cnt, s_nil, s_cons, s_asg, a_nm, s_ex, s_ret, s_retN, s_iff, s_pas, s_brk, s_cnt, s_rai, e_var, e_cst, e_glo, e_bin, negD_int, e_neg, e_cmp, e_chn, notD_bl, e_not, isB_bl, e_and, e_or, and_nil, and_cons, or_nil, or_cons, e_ite, e_tup, limM_b, e_ls, e_mk, l_ls, l_cat, repD_int, l_rep, l_lc, l_of, e_call, e_pri, e_idx, e_lc, e_rev, revTD_tup, e_revT, toI_int, o_none, o_some, e_sli, es_nil, es_cons, t_cmp, t_chn, t_var, t_call, t_pri, t_cst, t_not, t_and, t_or, tand_nil, tand_cons, tor_nil, tor_cons, cond_none, cond_some, tru_bl, tru_int, itOf_lst, itOf_tup, i_seq, i_rg1, i_rg2, enD_lst, enD_tup, i_enum, zipD_lst, zipD_tup, i_zip, s_fr, c_eqI, c_neI, c_ltI, c_leI, c_gtI, c_geI, c_is, c_isn, ar_add, ar_sub, p_lenT, p_lenL, p_tuple, p_tupleT, p_list, p_listL, p_sorted, p_min2, p_max2, p_sumT, p_sumL, p_all, p_any, k_and, k_or, k_andT, k_orT, k_opt, k_lim, beq_nat, lim1, lim0, lim2, lim3, lim4, isTu_tup, isW_int, List.set_cons_zero, List.set_cons_succ, Option.map_some, Option.map_none, cond_true, cond_false, Bool.not_true, Bool.not_false, List.length_cons, List.length_nil, List.length_map, reduceIte, Bool.true_and, Bool.and_true, Bool.false_and, Bool.and_false, Bool.or_true, Bool.true_or, Bool.false_or, Bool.or_false, Bool.false_eq_true, f3x n _ S b.dt b.lim b.no, List.append_nil]
theorem x13 (n : Nat) (bs : List Nat) (S : Sto) {z : D} (b : Bad z) : Fn (n + 4) 13 bs [z] S = .ex 1 .non S := by
  refine run_ex (C := cN pg FU (n + 3)) (f := d13) (v0 := [some z, none, none]) (T := []) rfl rfl rfl ?_
  simp only [d13, b_ok, b_ex, b_bad, bnd_b, ret_ap, bad_ap, ofO_some, ofO_none, getV_cons, getV_zero, nxt_nx, nxt_ret, nxt_brk, nxt_cnt, s_nil, s_cons, s_asg, a_nm, s_ex, s_ret, s_retN, s_iff, s_pas, s_brk, s_cnt, s_rai, e_var, e_cst, e_glo, e_bin, negD_int, e_neg, e_cmp, e_chn, notD_bl, e_not, isB_bl, e_and, e_or, and_nil, and_cons, or_nil, or_cons, e_ite, e_tup, limM_b, e_ls, e_mk, l_ls, l_cat, repD_int, l_rep, l_lc, l_of, e_call, e_pri, e_idx, e_lc, e_rev, revTD_tup, e_revT, toI_int, o_none, o_some, e_sli, es_nil, es_cons, t_cmp, t_chn, t_var, t_call, t_pri, t_cst, t_not, t_and, t_or, tand_nil, tand_cons, tor_nil, tor_cons, cond_none, cond_some, tru_bl, tru_int, itOf_lst, itOf_tup, i_seq, i_rg1, i_rg2, enD_lst, enD_tup, i_enum, zipD_lst, zipD_tup, i_zip, s_fr, c_eqI, c_neI, c_ltI, c_leI, c_gtI, c_geI, c_is, c_isn, ar_add, ar_sub, p_lenT, p_lenL, p_tuple, p_tupleT, p_list, p_listL, p_sorted, p_min2, p_max2, p_sumT, p_sumL, p_all, p_any, k_and, k_or, k_andT, k_orT, k_opt, k_lim, beq_nat, lim1, lim0, lim2, lim3, lim4, isTu_tup, isW_int, List.set_cons_zero, List.set_cons_succ, Option.map_some, Option.map_none, cond_true, cond_false, Bool.not_true, Bool.not_false, List.length_cons, List.length_nil, List.length_map, reduceIte, Bool.true_and, Bool.and_true, Bool.false_and, Bool.and_false, Bool.or_true, Bool.true_or, Bool.false_or, Bool.or_false, Bool.false_eq_true, f3x n _ S b.dt b.lim b.no, List.append_nil]
theorem x14 (n : Nat) (bs : List Nat) (S : Sto) {z : D} (b : Bad z) : Fn (n + 4) 14 bs [z] S = .ex 1 .non S := by
  refine run_ex (C := cN pg FU (n + 3)) (f := d14) (v0 := [some z]) (T := []) rfl rfl rfl ?_
  simp only [d14, b_ok, b_ex, b_bad, bnd_b, ret_ap, bad_ap, ofO_some, ofO_none, getV_cons, getV_zero, nxt_nx, nxt_ret, nxt_brk, nxt_cnt, s_nil, s_cons, s_asg, a_nm, s_ex, s_ret, s_retN, s_iff, s_pas, s_brk, s_cnt, s_rai, e_var, e_cst, e_glo, e_bin, negD_int, e_neg, e_cmp, e_chn, notD_bl, e_not, isB_bl, e_and, e_or, and_nil, and_cons, or_nil, or_cons, e_ite, e_tup, limM_b, e_ls, e_mk, l_ls, l_cat, repD_int, l_rep, l_lc, l_of, e_call, e_pri, e_idx, e_lc, e_rev, revTD_tup, e_revT, toI_int, o_none, o_some, e_sli, es_nil, es_cons, t_cmp, t_chn, t_var, t_call, t_pri, t_cst, t_not, t_and, t_or, tand_nil, tand_cons, tor_nil, tor_cons, cond_none, cond_some, tru_bl, tru_int, itOf_lst, itOf_tup, i_seq, i_rg1, i_rg2, enD_lst, enD_tup, i_enum, zipD_lst, zipD_tup, i_zip, s_fr, c_eqI, c_neI, c_ltI, c_leI, c_gtI, c_geI, c_is, c_isn, ar_add, ar_sub, p_lenT, p_lenL, p_tuple, p_tupleT, p_list, p_listL, p_sorted, p_min2, p_max2, p_sumT, p_sumL, p_all, p_any, k_and, k_or, k_andT, k_orT, k_opt, k_lim, beq_nat, lim1, lim0, lim2, lim3, lim4, isTu_tup, isW_int, List.set_cons_zero, List.set_cons_succ, Option.map_some, Option.map_none, cond_true, cond_false, Bool.not_true, Bool.not_false, List.length_cons, List.length_nil, List.length_map, reduceIte, Bool.true_and, Bool.and_true, Bool.false_and, Bool.and_false, Bool.or_true, Bool.true_or, Bool.false_or, Bool.or_false, Bool.false_eq_true, f3x n _ S b.dt b.lim b.no, List.append_nil]
theorem x15 (n : Nat) (bs : List Nat) (S : Sto) {z y : D} (b : Bad z) : Fn (n + 4) 15 bs [z, y] S = .ex 1 .non S := by
  refine run_ex (C := cN pg FU (n + 3)) (f := d15) (v0 := [some z, some y, none]) (T := []) rfl rfl rfl ?_
  simp only [d15, b_ok, b_ex, b_bad, bnd_b, ret_ap, bad_ap, ofO_some, ofO_none, getV_cons, getV_zero, nxt_nx, nxt_ret, nxt_brk, nxt_cnt, s_nil, s_cons, s_asg, a_nm, s_ex, s_ret, s_retN, s_iff, s_pas, s_brk, s_cnt, s_rai, e_var, e_cst, e_glo, e_bin, negD_int, e_neg, e_cmp, e_chn, notD_bl, e_not, isB_bl, e_and, e_or, and_nil, and_cons, or_nil, or_cons, e_ite, e_tup, limM_b, e_ls, e_mk, l_ls, l_cat, repD_int, l_rep, l_lc, l_of, e_call, e_pri, e_idx, e_lc, e_rev, revTD_tup, e_revT, toI_int, o_none, o_some, e_sli, es_nil, es_cons, t_cmp, t_chn, t_var, t_call, t_pri, t_cst, t_not, t_and, t_or, tand_nil, tand_cons, tor_nil, tor_cons, cond_none, cond_some, tru_bl, tru_int, itOf_lst, itOf_tup, i_seq, i_rg1, i_rg2, enD_lst, enD_tup, i_enum, zipD_lst, zipD_tup, i_zip, s_fr, c_eqI, c_neI, c_ltI, c_leI, c_gtI, c_geI, c_is, c_isn, ar_add, ar_sub, p_lenT, p_lenL, p_tuple, p_tupleT, p_list, p_listL, p_sorted, p_min2, p_max2, p_sumT, p_sumL, p_all, p_any, k_and, k_or, k_andT, k_orT, k_opt, k_lim, beq_nat, lim1, lim0, lim2, lim3, lim4, isTu_tup, isW_int, List.set_cons_zero, List.set_cons_succ, Option.map_some, Option.map_none, cond_true, cond_false, Bool.not_true, Bool.not_false, List.length_cons, List.length_nil, List.length_map, reduceIte, Bool.true_and, Bool.and_true, Bool.false_and, Bool.and_false, Bool.or_true, Bool.true_or, Bool.false_or, Bool.or_false, Bool.false_eq_true, f3x n _ S b.dt b.lim b.no, List.append_nil]
/-- no point -/
structure Odd (b : List Nat) (y : D) : Prop where
  dt : isDt y = true
  lim : ∀ l, y = .tup l → l.length ≤ LIM
  no : isPt b y = false
theorem x15o (n : Nat) (bs : List Nat) (S : Sto) {b : List Nat} (g : Good b) {y : D} (o : Odd b y) : Fn (n + 4) 15 bs [bx b, y] S = .ex 1 .non S := by
  refine run_ex (C := cN pg FU (n + 3)) (f := d15) (v0 := [some (bx b), some y, none]) (T := []) rfl rfl rfl ?_
  have h4 := f4 (n + 1) (S.length :: bs) S (b := b) (by have := g.h5; omega) o.dt o.lim
  rw [o.no] at h4
  simp only [d15, b_ok, b_ex, b_bad, bnd_b, ret_ap, bad_ap, ofO_some, ofO_none, getV_cons, getV_zero, nxt_nx, nxt_ret, nxt_brk, nxt_cnt, s_nil, s_cons, s_asg, a_nm, s_ex, s_ret, s_retN, s_iff, s_pas, s_brk, s_cnt, s_rai, e_var, e_cst, e_glo, e_bin, negD_int, e_neg, e_cmp, e_chn, notD_bl, e_not, isB_bl, e_and, e_or, and_nil, and_cons, or_nil, or_cons, e_ite, e_tup, limM_b, e_ls, e_mk, l_ls, l_cat, repD_int, l_rep, l_lc, l_of, e_call, e_pri, e_idx, e_lc, e_rev, revTD_tup, e_revT, toI_int, o_none, o_some, e_sli, es_nil, es_cons, t_cmp, t_chn, t_var, t_call, t_pri, t_cst, t_not, t_and, t_or, tand_nil, tand_cons, tor_nil, tor_cons, cond_none, cond_some, tru_bl, tru_int, itOf_lst, itOf_tup, i_seq, i_rg1, i_rg2, enD_lst, enD_tup, i_enum, zipD_lst, zipD_tup, i_zip, s_fr, c_eqI, c_neI, c_ltI, c_leI, c_gtI, c_geI, c_is, c_isn, ar_add, ar_sub, p_lenT, p_lenL, p_tuple, p_tupleT, p_list, p_listL, p_sorted, p_min2, p_max2, p_sumT, p_sumL, p_all, p_any, k_and, k_or, k_andT, k_orT, k_opt, k_lim, beq_nat, lim1, lim0, lim2, lim3, lim4, isTu_tup, isW_int, List.set_cons_zero, List.set_cons_succ, Option.map_some, Option.map_none, cond_true, cond_false, Bool.not_true, Bool.not_false, List.length_cons, List.length_nil, List.length_map, reduceIte, Bool.true_and, Bool.and_true, Bool.false_and, Bool.and_false, Bool.or_true, Bool.true_or, Bool.false_or, Bool.or_false, Bool.false_eq_true, f3g n _ S g, h4, List.append_nil]
theorem a_tp3 (C : Ctx) (bs : List Nat) (i j k : Nat) (v : Vs) (a b c : D) (S : Sto) : asg C bs (.tp (.cons (.nm i) (.cons (.nm j) (.cons (.nm k) .nil)))) v (.tup [a, b, c]) S = .ok (((v.set i (some a)).set j (some b)).set k (some c)) S := rfl
abbrev cal (k : Int) (z y : D) : D := .tup [.int k, z, y]
theorem x24 (n : Nat) (bs : List Nat) (S : Sto) {z y : D} (b : Bad z) : ∀ k : Nat, k < 6 → Fn (n + 5) 24 bs [cal k z y] S = .ex 1 .non S
  | 0, _ => by
    refine run_ex (C := cN pg FU (n + 4)) (f := d24) (v0 := [some (cal 0 z y), none, none, none]) (T := []) rfl rfl rfl ?_
    have e : ((0 : Int) == 0) = true := rfl
    simp only [d24, b_ok, b_ex, b_bad, bnd_b, ret_ap, bad_ap, ofO_some, ofO_none, getV_cons, getV_zero, nxt_nx, nxt_ret, nxt_brk, nxt_cnt, s_nil, s_cons, s_asg, a_nm, s_ex, s_ret, s_retN, s_iff, s_pas, s_brk, s_cnt, s_rai, e_var, e_cst, e_glo, e_bin, negD_int, e_neg, e_cmp, e_chn, notD_bl, e_not, isB_bl, e_and, e_or, and_nil, and_cons, or_nil, or_cons, e_ite, e_tup, limM_b, e_ls, e_mk, l_ls, l_cat, repD_int, l_rep, l_lc, l_of, e_call, e_pri, e_idx, e_lc, e_rev, revTD_tup, e_revT, toI_int, o_none, o_some, e_sli, es_nil, es_cons, t_cmp, t_chn, t_var, t_call, t_pri, t_cst, t_not, t_and, t_or, tand_nil, tand_cons, tor_nil, tor_cons, cond_none, cond_some, tru_bl, tru_int, itOf_lst, itOf_tup, i_seq, i_rg1, i_rg2, enD_lst, enD_tup, i_enum, zipD_lst, zipD_tup, i_zip, s_fr, c_eqI, c_neI, c_ltI, c_leI, c_gtI, c_geI, c_is, c_isn, ar_add, ar_sub, p_lenT, p_lenL, p_tuple, p_tupleT, p_list, p_listL, p_sorted, p_min2, p_max2, p_sumT, p_sumL, p_all, p_any, k_and, k_or, k_andT, k_orT, k_opt, k_lim, beq_nat, lim1, lim0, lim2, lim3, lim4, isTu_tup, isW_int, List.set_cons_zero, List.set_cons_succ, Option.map_some, Option.map_none, cond_true, cond_false, Bool.not_true, Bool.not_false, List.length_cons, List.length_nil, List.length_map, reduceIte, Bool.true_and, Bool.and_true, Bool.false_and, Bool.and_false, Bool.or_true, Bool.true_or, Bool.false_or, Bool.or_false, Bool.false_eq_true, a_tp3, e, x7 n _ S b, List.append_nil]
  | 1, _ => by
    refine run_ex (C := cN pg FU (n + 4)) (f := d24) (v0 := [some (cal 1 z y), none, none, none]) (T := []) rfl rfl rfl ?_
    have e : ((1 : Int) == 0) = false := rfl
    have e1 : ((1 : Int) == 1) = true := rfl
    simp only [d24, b_ok, b_ex, b_bad, bnd_b, ret_ap, bad_ap, ofO_some, ofO_none, getV_cons, getV_zero, nxt_nx, nxt_ret, nxt_brk, nxt_cnt, s_nil, s_cons, s_asg, a_nm, s_ex, s_ret, s_retN, s_iff, s_pas, s_brk, s_cnt, s_rai, e_var, e_cst, e_glo, e_bin, negD_int, e_neg, e_cmp, e_chn, notD_bl, e_not, isB_bl, e_and, e_or, and_nil, and_cons, or_nil, or_cons, e_ite, e_tup, limM_b, e_ls, e_mk, l_ls, l_cat, repD_int, l_rep, l_lc, l_of, e_call, e_pri, e_idx, e_lc, e_rev, revTD_tup, e_revT, toI_int, o_none, o_some, e_sli, es_nil, es_cons, t_cmp, t_chn, t_var, t_call, t_pri, t_cst, t_not, t_and, t_or, tand_nil, tand_cons, tor_nil, tor_cons, cond_none, cond_some, tru_bl, tru_int, itOf_lst, itOf_tup, i_seq, i_rg1, i_rg2, enD_lst, enD_tup, i_enum, zipD_lst, zipD_tup, i_zip, s_fr, c_eqI, c_neI, c_ltI, c_leI, c_gtI, c_geI, c_is, c_isn, ar_add, ar_sub, p_lenT, p_lenL, p_tuple, p_tupleT, p_list, p_listL, p_sorted, p_min2, p_max2, p_sumT, p_sumL, p_all, p_any, k_and, k_or, k_andT, k_orT, k_opt, k_lim, beq_nat, lim1, lim0, lim2, lim3, lim4, isTu_tup, isW_int, List.set_cons_zero, List.set_cons_succ, Option.map_some, Option.map_none, cond_true, cond_false, Bool.not_true, Bool.not_false, List.length_cons, List.length_nil, List.length_map, reduceIte, Bool.true_and, Bool.and_true, Bool.false_and, Bool.and_false, Bool.or_true, Bool.true_or, Bool.false_or, Bool.or_false, Bool.false_eq_true, a_tp3, e, e1, x9 n _ S b, List.append_nil]
  | 2, _ => by
    refine run_ex (C := cN pg FU (n + 4)) (f := d24) (v0 := [some (cal 2 z y), none, none, none]) (T := []) rfl rfl rfl ?_
    have e : ((2 : Int) == 0) = false := rfl
    have e1 : ((2 : Int) == 1) = false := rfl
    have e2 : ((2 : Int) == 2) = true := rfl
    simp only [d24, b_ok, b_ex, b_bad, bnd_b, ret_ap, bad_ap, ofO_some, ofO_none, getV_cons, getV_zero, nxt_nx, nxt_ret, nxt_brk, nxt_cnt, s_nil, s_cons, s_asg, a_nm, s_ex, s_ret, s_retN, s_iff, s_pas, s_brk, s_cnt, s_rai, e_var, e_cst, e_glo, e_bin, negD_int, e_neg, e_cmp, e_chn, notD_bl, e_not, isB_bl, e_and, e_or, and_nil, and_cons, or_nil, or_cons, e_ite, e_tup, limM_b, e_ls, e_mk, l_ls, l_cat, repD_int, l_rep, l_lc, l_of, e_call, e_pri, e_idx, e_lc, e_rev, revTD_tup, e_revT, toI_int, o_none, o_some, e_sli, es_nil, es_cons, t_cmp, t_chn, t_var, t_call, t_pri, t_cst, t_not, t_and, t_or, tand_nil, tand_cons, tor_nil, tor_cons, cond_none, cond_some, tru_bl, tru_int, itOf_lst, itOf_tup, i_seq, i_rg1, i_rg2, enD_lst, enD_tup, i_enum, zipD_lst, zipD_tup, i_zip, s_fr, c_eqI, c_neI, c_ltI, c_leI, c_gtI, c_geI, c_is, c_isn, ar_add, ar_sub, p_lenT, p_lenL, p_tuple, p_tupleT, p_list, p_listL, p_sorted, p_min2, p_max2, p_sumT, p_sumL, p_all, p_any, k_and, k_or, k_andT, k_orT, k_opt, k_lim, beq_nat, lim1, lim0, lim2, lim3, lim4, isTu_tup, isW_int, List.set_cons_zero, List.set_cons_succ, Option.map_some, Option.map_none, cond_true, cond_false, Bool.not_true, Bool.not_false, List.length_cons, List.length_nil, List.length_map, reduceIte, Bool.true_and, Bool.and_true, Bool.false_and, Bool.and_false, Bool.or_true, Bool.true_or, Bool.false_or, Bool.or_false, Bool.false_eq_true, a_tp3, e, e1, e2, x12 n _ S b, List.append_nil]
  | 3, _ => by
    refine run_ex (C := cN pg FU (n + 4)) (f := d24) (v0 := [some (cal 3 z y), none, none, none]) (T := []) rfl rfl rfl ?_
    have e : ((3 : Int) == 0) = false := rfl
    have e1 : ((3 : Int) == 1) = false := rfl
    have e2 : ((3 : Int) == 2) = false := rfl
    have e3 : ((3 : Int) == 3) = true := rfl
    simp only [d24, b_ok, b_ex, b_bad, bnd_b, ret_ap, bad_ap, ofO_some, ofO_none, getV_cons, getV_zero, nxt_nx, nxt_ret, nxt_brk, nxt_cnt, s_nil, s_cons, s_asg, a_nm, s_ex, s_ret, s_retN, s_iff, s_pas, s_brk, s_cnt, s_rai, e_var, e_cst, e_glo, e_bin, negD_int, e_neg, e_cmp, e_chn, notD_bl, e_not, isB_bl, e_and, e_or, and_nil, and_cons, or_nil, or_cons, e_ite, e_tup, limM_b, e_ls, e_mk, l_ls, l_cat, repD_int, l_rep, l_lc, l_of, e_call, e_pri, e_idx, e_lc, e_rev, revTD_tup, e_revT, toI_int, o_none, o_some, e_sli, es_nil, es_cons, t_cmp, t_chn, t_var, t_call, t_pri, t_cst, t_not, t_and, t_or, tand_nil, tand_cons, tor_nil, tor_cons, cond_none, cond_some, tru_bl, tru_int, itOf_lst, itOf_tup, i_seq, i_rg1, i_rg2, enD_lst, enD_tup, i_enum, zipD_lst, zipD_tup, i_zip, s_fr, c_eqI, c_neI, c_ltI, c_leI, c_gtI, c_geI, c_is, c_isn, ar_add, ar_sub, p_lenT, p_lenL, p_tuple, p_tupleT, p_list, p_listL, p_sorted, p_min2, p_max2, p_sumT, p_sumL, p_all, p_any, k_and, k_or, k_andT, k_orT, k_opt, k_lim, beq_nat, lim1, lim0, lim2, lim3, lim4, isTu_tup, isW_int, List.set_cons_zero, List.set_cons_succ, Option.map_some, Option.map_none, cond_true, cond_false, Bool.not_true, Bool.not_false, List.length_cons, List.length_nil, List.length_map, reduceIte, Bool.true_and, Bool.and_true, Bool.false_and, Bool.and_false, Bool.or_true, Bool.true_or, Bool.false_or, Bool.or_false, Bool.false_eq_true, a_tp3, e, e1, e2, e3, x13 n _ S b, List.append_nil]
  | 4, _ => by
    refine run_ex (C := cN pg FU (n + 4)) (f := d24) (v0 := [some (cal 4 z y), none, none, none]) (T := []) rfl rfl rfl ?_
    have e : ((4 : Int) == 0) = false := rfl
    have e1 : ((4 : Int) == 1) = false := rfl
    have e2 : ((4 : Int) == 2) = false := rfl
    have e3 : ((4 : Int) == 3) = false := rfl
    have e4 : ((4 : Int) == 4) = true := rfl
    simp only [d24, b_ok, b_ex, b_bad, bnd_b, ret_ap, bad_ap, ofO_some, ofO_none, getV_cons, getV_zero, nxt_nx, nxt_ret, nxt_brk, nxt_cnt, s_nil, s_cons, s_asg, a_nm, s_ex, s_ret, s_retN, s_iff, s_pas, s_brk, s_cnt, s_rai, e_var, e_cst, e_glo, e_bin, negD_int, e_neg, e_cmp, e_chn, notD_bl, e_not, isB_bl, e_and, e_or, and_nil, and_cons, or_nil, or_cons, e_ite, e_tup, limM_b, e_ls, e_mk, l_ls, l_cat, repD_int, l_rep, l_lc, l_of, e_call, e_pri, e_idx, e_lc, e_rev, revTD_tup, e_revT, toI_int, o_none, o_some, e_sli, es_nil, es_cons, t_cmp, t_chn, t_var, t_call, t_pri, t_cst, t_not, t_and, t_or, tand_nil, tand_cons, tor_nil, tor_cons, cond_none, cond_some, tru_bl, tru_int, itOf_lst, itOf_tup, i_seq, i_rg1, i_rg2, enD_lst, enD_tup, i_enum, zipD_lst, zipD_tup, i_zip, s_fr, c_eqI, c_neI, c_ltI, c_leI, c_gtI, c_geI, c_is, c_isn, ar_add, ar_sub, p_lenT, p_lenL, p_tuple, p_tupleT, p_list, p_listL, p_sorted, p_min2, p_max2, p_sumT, p_sumL, p_all, p_any, k_and, k_or, k_andT, k_orT, k_opt, k_lim, beq_nat, lim1, lim0, lim2, lim3, lim4, isTu_tup, isW_int, List.set_cons_zero, List.set_cons_succ, Option.map_some, Option.map_none, cond_true, cond_false, Bool.not_true, Bool.not_false, List.length_cons, List.length_nil, List.length_map, reduceIte, Bool.true_and, Bool.and_true, Bool.false_and, Bool.and_false, Bool.or_true, Bool.true_or, Bool.false_or, Bool.or_false, Bool.false_eq_true, a_tp3, e, e1, e2, e3, e4, x14 n _ S b, List.append_nil]
  | 5, _ => by
    refine run_ex (C := cN pg FU (n + 4)) (f := d24) (v0 := [some (cal 5 z y), none, none, none]) (T := []) rfl rfl rfl ?_
    have e : ((5 : Int) == 0) = false := rfl
    have e1 : ((5 : Int) == 1) = false := rfl
    have e2 : ((5 : Int) == 2) = false := rfl
    have e3 : ((5 : Int) == 3) = false := rfl
    have e4 : ((5 : Int) == 4) = false := rfl
    simp only [d24, b_ok, b_ex, b_bad, bnd_b, ret_ap, bad_ap, ofO_some, ofO_none, getV_cons, getV_zero, nxt_nx, nxt_ret, nxt_brk, nxt_cnt, s_nil, s_cons, s_asg, a_nm, s_ex, s_ret, s_retN, s_iff, s_pas, s_brk, s_cnt, s_rai, e_var, e_cst, e_glo, e_bin, negD_int, e_neg, e_cmp, e_chn, notD_bl, e_not, isB_bl, e_and, e_or, and_nil, and_cons, or_nil, or_cons, e_ite, e_tup, limM_b, e_ls, e_mk, l_ls, l_cat, repD_int, l_rep, l_lc, l_of, e_call, e_pri, e_idx, e_lc, e_rev, revTD_tup, e_revT, toI_int, o_none, o_some, e_sli, es_nil, es_cons, t_cmp, t_chn, t_var, t_call, t_pri, t_cst, t_not, t_and, t_or, tand_nil, tand_cons, tor_nil, tor_cons, cond_none, cond_some, tru_bl, tru_int, itOf_lst, itOf_tup, i_seq, i_rg1, i_rg2, enD_lst, enD_tup, i_enum, zipD_lst, zipD_tup, i_zip, s_fr, c_eqI, c_neI, c_ltI, c_leI, c_gtI, c_geI, c_is, c_isn, ar_add, ar_sub, p_lenT, p_lenL, p_tuple, p_tupleT, p_list, p_listL, p_sorted, p_min2, p_max2, p_sumT, p_sumL, p_all, p_any, k_and, k_or, k_andT, k_orT, k_opt, k_lim, beq_nat, lim1, lim0, lim2, lim3, lim4, isTu_tup, isW_int, List.set_cons_zero, List.set_cons_succ, Option.map_some, Option.map_none, cond_true, cond_false, Bool.not_true, Bool.not_false, List.length_cons, List.length_nil, List.length_map, reduceIte, Bool.true_and, Bool.and_true, Bool.false_and, Bool.and_false, Bool.or_true, Bool.true_or, Bool.false_or, Bool.or_false, Bool.false_eq_true, a_tp3, e, e1, e2, e3, e4, x15 n _ S b, List.append_nil]
  | _ + 6, h => absurd h (by omega)
theorem x24o (n : Nat) (bs : List Nat) (S : Sto) {b : List Nat} (g : Good b) {y : D} (o : Odd b y) : Fn (n + 5) 24 bs [cal 5 (bx b) y] S = .ex 1 .non S := by
  refine run_ex (C := cN pg FU (n + 4)) (f := d24) (v0 := [some (cal 5 (bx b) y), none, none, none]) (T := []) rfl rfl rfl ?_
  have e : ((5 : Int) == 0) = false := rfl
  have e1 : ((5 : Int) == 1) = false := rfl
  have e2 : ((5 : Int) == 2) = false := rfl
  have e3 : ((5 : Int) == 3) = false := rfl
  have e4 : ((5 : Int) == 4) = false := rfl
  simp only [d24, b_ok, b_ex, b_bad, bnd_b, ret_ap, bad_ap, ofO_some, ofO_none, getV_cons, getV_zero, nxt_nx, nxt_ret, nxt_brk, nxt_cnt, s_nil, s_cons, s_asg, a_nm, s_ex, s_ret, s_retN, s_iff, s_pas, s_brk, s_cnt, s_rai, e_var, e_cst, e_glo, e_bin, negD_int, e_neg, e_cmp, e_chn, notD_bl, e_not, isB_bl, e_and, e_or, and_nil, and_cons, or_nil, or_cons, e_ite, e_tup, limM_b, e_ls, e_mk, l_ls, l_cat, repD_int, l_rep, l_lc, l_of, e_call, e_pri, e_idx, e_lc, e_rev, revTD_tup, e_revT, toI_int, o_none, o_some, e_sli, es_nil, es_cons, t_cmp, t_chn, t_var, t_call, t_pri, t_cst, t_not, t_and, t_or, tand_nil, tand_cons, tor_nil, tor_cons, cond_none, cond_some, tru_bl, tru_int, itOf_lst, itOf_tup, i_seq, i_rg1, i_rg2, enD_lst, enD_tup, i_enum, zipD_lst, zipD_tup, i_zip, s_fr, c_eqI, c_neI, c_ltI, c_leI, c_gtI, c_geI, c_is, c_isn, ar_add, ar_sub, p_lenT, p_lenL, p_tuple, p_tupleT, p_list, p_listL, p_sorted, p_min2, p_max2, p_sumT, p_sumL, p_all, p_any, k_and, k_or, k_andT, k_orT, k_opt, k_lim, beq_nat, lim1, lim0, lim2, lim3, lim4, isTu_tup, isW_int, List.set_cons_zero, List.set_cons_succ, Option.map_some, Option.map_none, cond_true, cond_false, Bool.not_true, Bool.not_false, List.length_cons, List.length_nil, List.length_map, reduceIte, Bool.true_and, Bool.and_true, Bool.false_and, Bool.and_false, Bool.or_true, Bool.true_or, Bool.false_or, Bool.or_false, Bool.false_eq_true, a_tp3, e, e1, e2, e3, e4, x15o n _ S g o, List.append_nil]
theorem s_tri (C : Ctx) (bs : List Nat) (b : Ss) (hs : List Hd) (v : Vs) (S S1 : Sto) (c : Nat) (d : D) (h : xss C bs b v S = .ex c d S1) : xs C bs (.tri b hs) v S = hsRun C c d v hs S1 := by
  show (match xss C bs b v S with
    | .ok p S' => R.ok p S'
    | .ex c d S' => hsRun C c d v hs S'
    | .bad => .bad) = _
  rw [h]
theorem f25 (n : Nat) (bs : List Nat) (S : Sto) {c : D} (h : ∀ bs, Fn (n + 5) 24 bs [c] S = .ex 1 .non S) : Fn (n + 6) 25 bs [c] S = .ok (.str "malformed") S := by
  refine run_dt (C := cN pg FU (n + 5)) (f := d25) rfl rfl rfl (v0 := [some c, none]) (v := [some c, none]) ?_ rfl
  have e1 : xss (cN pg FU (n + 5)) (S.length :: bs) (.cons (.ex (.call 24 (.cons (.var 0) .nil))) .nil) [some c, none] S = .ex 1 .non S := by simp only [b_ok, b_ex, b_bad, bnd_b, ret_ap, bad_ap, ofO_some, ofO_none, getV_cons, getV_zero, nxt_nx, nxt_ret, nxt_brk, nxt_cnt, s_nil, s_cons, s_asg, a_nm, s_ex, s_ret, s_retN, s_iff, s_pas, s_brk, s_cnt, s_rai, e_var, e_cst, e_glo, e_bin, negD_int, e_neg, e_cmp, e_chn, notD_bl, e_not, isB_bl, e_and, e_or, and_nil, and_cons, or_nil, or_cons, e_ite, e_tup, limM_b, e_ls, e_mk, l_ls, l_cat, repD_int, l_rep, l_lc, l_of, e_call, e_pri, e_idx, e_lc, e_rev, revTD_tup, e_revT, toI_int, o_none, o_some, e_sli, es_nil, es_cons, t_cmp, t_chn, t_var, t_call, t_pri, t_cst, t_not, t_and, t_or, tand_nil, tand_cons, tor_nil, tor_cons, cond_none, cond_some, tru_bl, tru_int, itOf_lst, itOf_tup, i_seq, i_rg1, i_rg2, enD_lst, enD_tup, i_enum, zipD_lst, zipD_tup, i_zip, s_fr, c_eqI, c_neI, c_ltI, c_leI, c_gtI, c_geI, c_is, c_isn, ar_add, ar_sub, p_lenT, p_lenL, p_tuple, p_tupleT, p_list, p_listL, p_sorted, p_min2, p_max2, p_sumT, p_sumL, p_all, p_any, k_and, k_or, k_andT, k_orT, k_opt, k_lim, beq_nat, lim1, lim0, lim2, lim3, lim4, isTu_tup, isW_int, List.set_cons_zero, List.set_cons_succ, Option.map_some, Option.map_none, cond_true, cond_false, Bool.not_true, Bool.not_false, List.length_cons, List.length_nil, List.length_map, reduceIte, Bool.true_and, Bool.and_true, Bool.false_and, Bool.and_false, Bool.or_true, Bool.true_or, Bool.false_or, Bool.or_false, Bool.false_eq_true, h]
  have e2 := s_tri (cN pg FU (n + 5)) (S.length :: bs) _ [⟨1, some 1, (.retIs (.str "malformed") (.str "other") 0)⟩, ⟨2, some 1, (.retReason .non 0)⟩] [some c, none] S S 1 .non e1
  have e3 : hsRun (cN pg FU (n + 5)) 1 .non [some c, none] [⟨1, some 1, (.retIs (.str "malformed") (.str "other") 0)⟩, ⟨2, some 1, (.retReason .non 0)⟩] S = .ok (.ret (.str "malformed"), [some c, none]) S := rfl
  rw [e3] at e2
  simp only [d25, b_ok, b_ex, b_bad, bnd_b, ret_ap, bad_ap, ofO_some, ofO_none, getV_cons, getV_zero, nxt_nx, nxt_ret, nxt_brk, nxt_cnt, s_nil, s_cons, s_asg, a_nm, s_ex, s_ret, s_retN, s_iff, s_pas, s_brk, s_cnt, s_rai, e_var, e_cst, e_glo, e_bin, negD_int, e_neg, e_cmp, e_chn, notD_bl, e_not, isB_bl, e_and, e_or, and_nil, and_cons, or_nil, or_cons, e_ite, e_tup, limM_b, e_ls, e_mk, l_ls, l_cat, repD_int, l_rep, l_lc, l_of, e_call, e_pri, e_idx, e_lc, e_rev, revTD_tup, e_revT, toI_int, o_none, o_some, e_sli, es_nil, es_cons, t_cmp, t_chn, t_var, t_call, t_pri, t_cst, t_not, t_and, t_or, tand_nil, tand_cons, tor_nil, tor_cons, cond_none, cond_some, tru_bl, tru_int, itOf_lst, itOf_tup, i_seq, i_rg1, i_rg2, enD_lst, enD_tup, i_enum, zipD_lst, zipD_tup, i_zip, s_fr, c_eqI, c_neI, c_ltI, c_leI, c_gtI, c_geI, c_is, c_isn, ar_add, ar_sub, p_lenT, p_lenL, p_tuple, p_tupleT, p_list, p_listL, p_sorted, p_min2, p_max2, p_sumT, p_sumL, p_all, p_any, k_and, k_or, k_andT, k_orT, k_opt, k_lim, beq_nat, lim1, lim0, lim2, lim3, lim4, isTu_tup, isW_int, List.set_cons_zero, List.set_cons_succ, Option.map_some, Option.map_none, cond_true, cond_false, Bool.not_true, Bool.not_false, List.length_cons, List.length_nil, List.length_map, reduceIte, Bool.true_and, Bool.and_true, Bool.false_and, Bool.and_false, Bool.or_true, Bool.true_or, Bool.false_or, Bool.or_false, Bool.false_eq_true, e2]
end Ri.G
set_option maxHeartbeats 1000000
namespace Ri.G
open Ri PySem
open Ri.Enc (enc)
theorem cut_mem {α : Type} {l : List α} {lo hi : Option Int} {x : α} (h : x ∈ cut l lo hi) : x ∈ l := List.mem_of_mem_drop (List.mem_of_mem_take h)
theorem cut_len {α : Type} (l : List α) (lo hi : Option Int) : (cut l lo hi).length ≤ l.length := by
  show ((l.drop _).take _).length ≤ _
  rw [List.length_take, List.length_drop]
  omega
theorem sl_tup (S : Sto) (l : List D) (lo hi : Option Int) : sliD S (.tup l) lo hi = some (.tup (cut l lo hi)) := rfl
/-- like a point, like a chain -/
structure PL (x : D) : Prop where
  dt : isDt x = true
  dep : depD x ≤ 10
  len : ∀ q, x = .tup q → q.length ≤ 500
structure CL (x : D) : Prop where
  dt : isDt x = true
  dep : depD x ≤ 20
  len : ∀ k, x = .tup k → k.length ≤ 500 ∧ ∀ p ∈ k, ∀ q, p = .tup q → q.length ≤ 500
theorem cl_tup {k : List D} (h : ∀ p ∈ k, PL p) (hl : k.length ≤ 500) : CL (.tup k) where
  dt := dts_iff.mpr fun x hx => (h x hx).dt
  dep := Nat.succ_le_of_lt (Nat.lt_succ_of_le (Nat.le_trans (depL_le.mpr fun x hx => (h x hx).dep) (by decide : 10 ≤ 19)))
  len k' e := by
    cases e
    exact ⟨hl, fun p hp => (h p hp).len⟩
theorem cl_lst {k : List D} (h : ∀ p ∈ k, PL p) : CL (.lst k) where
  dt := show isDts k = true from dts_iff.mpr fun x hx => (h x hx).dt
  dep := Nat.succ_le_of_lt (Nat.lt_succ_of_le (Nat.le_trans (depL_le.mpr fun x hx => (h x hx).dep) (by decide : 10 ≤ 19)))
  len k' e := by cases e
theorem cl_non : CL .non := ⟨rfl, by decide, fun k e => by cases e⟩
theorem fit_tup {k : List D} (h : ∀ p ∈ k, CL p) (hl : k.length ≤ 500) : Fit (.tup k) where
  dt := dts_iff.mpr fun x hx => (h x hx).dt
  dep := Nat.succ_le_of_lt (Nat.lt_succ_of_le (Nat.le_trans (depL_le.mpr fun x hx => (h x hx).dep) (by decide : 20 ≤ 39)))
  one k' e := by
    cases e
    exact ⟨hl, fun p hp => (h p hp).len⟩
theorem fit_lst {k : List D} (h : ∀ p ∈ k, CL p) : Fit (.lst k) where
  dt := show isDts k = true from dts_iff.mpr fun x hx => (h x hx).dt
  dep := Nat.succ_le_of_lt (Nat.lt_succ_of_le (Nat.le_trans (depL_le.mpr fun x hx => (h x hx).dep) (by decide : 20 ≤ 39)))
  one k' e := by cases e
theorem pl_ints {k : List D} (h : ∀ p ∈ k, isDt p = true ∧ depD p = 0) (hl : k.length ≤ 500) : PL (.tup k) where
  dt := dts_iff.mpr fun x hx => (h x hx).1
  dep := Nat.succ_le_of_lt (Nat.lt_succ_of_le (Nat.le_trans (depL_le.mpr fun x hx => Nat.le_of_eq (h x hx).2) (by decide : 0 ≤ 9)))
  len k' e := by
    cases e
    exact hl
theorem pl_pt {p : List Int} (h : p.length ≤ 500) : PL (pt p) := pl_ints (fun x hx => by
  obtain ⟨i, _, rfl⟩ := List.mem_map.mp hx
  exact ⟨rfl, rfl⟩) (by rw [List.length_map]; exact h)
theorem mem3 {α : Type} {P : α → Prop} {l : List α} {lo hi lo' hi' : Option Int} {m : List α} (h : ∀ x ∈ l, P x) (hm : ∀ x ∈ m, P x) : ∀ x ∈ (cut l lo hi ++ m) ++ cut l lo' hi', P x := fun x hx => by
  rcases List.mem_append.mp hx with hx | hx
  · rcases List.mem_append.mp hx with hx | hx
    · exact h x (cut_mem hx)
    · exact hm x hx
  · exact h x (cut_mem hx)
theorem len3 {α : Type} (l m : List α) (lo hi lo' hi' : Option Int) : ((cut l lo hi ++ m) ++ cut l lo' hi').length ≤ l.length + m.length + l.length := by
  have h1 := cut_len l lo hi
  have h2 := cut_len l lo' hi'
  rw [List.length_append, List.length_append]
  omega
theorem add3 (S : Sto) {l m : List D} {lo hi lo' hi' : Option Int} (h : l.length ≤ 1000) (hm : m.length ≤ 1000) : arith S .add (.tup (cut l lo hi)) (.tup m) = some (.tup (cut l lo hi ++ m)) ∧ arith S .add (.tup (cut l lo hi ++ m)) (.tup (cut l lo' hi')) = some (.tup ((cut l lo hi ++ m) ++ cut l lo' hi')) := by
  have h1 := cut_len l lo hi
  have h2 := cut_len l lo' hi'
  refine ⟨ar_tup S (by show _ ≤ 1000000; omega), ar_tup S (by rw [List.length_append]; show _ ≤ 1000000; omega)⟩
def othL (p : List Int) (i : Nat) (z : D) : D := .tup ((cut (p.map D.int) none (some i) ++ [z]) ++ cut (p.map D.int) (some (i + 1)) none)
def rowL (c : Ch) (j : Nat) (o : D) : List D := [.tup ((cut (c.map pt) none (some j) ++ [o]) ++ cut (c.map pt) (some (j + 1)) none), .tup (cut (c.map pt) none (some (-1))), .tup (c.map pt ++ cut (c.map pt) none (some 1)), .lst (c.map pt), .tup [], .tup (cut (c.map pt) (some 1) none), .non]
def parL (L : List D) (k : Nat) (c : Ch) (j : Nat) : D := .tup ((cut L none (some k) ++ [.tup (cut (c.map pt) none (some j)), .tup (cut (c.map pt) (some j) none)]) ++ cut L (some (k + 1)) none)
def finL (L : List D) (k : Nat) (r o : D) : List D := [.tup ((cut L none (some k) ++ [r]) ++ cut L (some (k + 1)) none), .tup (cut L none (some (-1))), .tup (L ++ cut L none (some 1)), .lst L, .tup (cut L (some 1) none ++ cut L none (some 1)), o]
theorem row_cl {c : Ch} (hp : ∀ p ∈ c, p.length ≤ 100) (hc : c.length ≤ 100) {o : D} (ho : PL o) (j : Nat) : ∀ r ∈ rowL c j o, CL r := by
  have hpl : ∀ x ∈ c.map pt, PL x := fun x hx => by
    obtain ⟨p, h, rfl⟩ := List.mem_map.mp hx
    exact pl_pt (Nat.le_trans (hp p h) (by decide))
  have hlen : (c.map pt).length ≤ 100 := by rw [List.length_map]; exact hc
  have ho1 : ∀ x ∈ [o], PL x := fun x hx => by rcases List.mem_singleton.mp hx with rfl; exact ho
  intro r hr
  unfold rowL at hr
  rcases List.mem_cons.mp hr with rfl | hr
  · have := len3 (c.map pt) [o] none (some j) (some (j + 1)) none
    exact cl_tup (mem3 hpl ho1) (by simp only [List.length_singleton] at this; omega)
  rcases List.mem_cons.mp hr with rfl | hr
  · exact cl_tup (fun x hx => hpl x (cut_mem hx)) (by have := cut_len (c.map pt) none (some (-1)); omega)
  rcases List.mem_cons.mp hr with rfl | hr
  · refine cl_tup (fun x hx => ?_) (by have := cut_len (c.map pt) none (some 1); rw [List.length_append]; omega)
    rcases List.mem_append.mp hx with hx | hx
    · exact hpl x hx
    · exact hpl x (cut_mem hx)
  rcases List.mem_cons.mp hr with rfl | hr
  · exact cl_lst hpl
  rcases List.mem_cons.mp hr with rfl | hr
  · exact cl_tup (fun x hx => by cases hx) (by decide)
  rcases List.mem_cons.mp hr with rfl | hr
  · exact cl_tup (fun x hx => hpl x (cut_mem hx)) (by have := cut_len (c.map pt) (some 1) none; omega)
  · rcases List.mem_singleton.mp hr with rfl
    exact cl_non
theorem fin_fit {L : List D} (hL : ∀ x ∈ L, CL x) (hl : L.length ≤ 120) {r o : D} (hr : CL r) (ho : Fit o) (k : Nat) : ∀ z ∈ finL L k r o, Fit z := by
  have hr1 : ∀ x ∈ [r], CL x := fun x hx => by rcases List.mem_singleton.mp hx with rfl; exact hr
  intro z hz
  unfold finL at hz
  rcases List.mem_cons.mp hz with rfl | hz
  · have := len3 L [r] none (some k) (some (k + 1)) none
    exact fit_tup (mem3 hL hr1) (by simp only [List.length_singleton] at this; omega)
  rcases List.mem_cons.mp hz with rfl | hz
  · exact fit_tup (fun x hx => hL x (cut_mem hx)) (by have := cut_len L none (some (-1)); omega)
  rcases List.mem_cons.mp hz with rfl | hz
  · refine fit_tup (fun x hx => ?_) (by have := cut_len L none (some 1); rw [List.length_append]; omega)
    rcases List.mem_append.mp hx with hx | hx
    · exact hL x hx
    · exact hL x (cut_mem hx)
  rcases List.mem_cons.mp hz with rfl | hz
  · exact fit_lst hL
  rcases List.mem_cons.mp hz with rfl | hz
  · refine fit_tup (fun x hx => ?_) (by have := cut_len L (some 1) none; have := cut_len L none (some 1); rw [List.length_append]; omega)
    rcases List.mem_append.mp hx with hx | hx
    · exact hL x (cut_mem hx)
    · exact hL x (cut_mem hx)
  · rcases List.mem_singleton.mp hz with rfl
    exact ho
theorem f27 (n : Nat) (bs : List Nat) {q : Dr} (hq : q.ok) {cs : List Ch} (h0 : 0 < cs.length) (h1 : cs.length ≤ 120) (hc : ∀ c ∈ cs, 0 < c.length ∧ c.length ≤ 100 ∧ ∀ p ∈ c, 0 < p.length ∧ p.length ≤ 100) :
    ∃ (z : D) (q' : Dr), Fit z ∧ q'.ok ∧ Fn (n + 2) 27 bs [.ref 0, .tup (cs.map ch)] [q.so] = .ok z [q'.so] := by
  obtain ⟨k, q1, hk, hq1, t1⟩ := f17 n (1 :: bs) [] (q := q) cs.length h0 (by omega) hq
  have t1 : callF pg FU (n + 1) 17 (1 :: bs) [.ref 0, .int cs.length] [q.so] = .ok (.int k) [q1.so] := t1
  obtain ⟨c0, c1, c2⟩ := hc cs[k] (List.getElem_mem hk)
  have g1 := idx_tup [q1.so] (cs.map ch) k (ch cs[k]) (by rw [List.getElem?_map, List.getElem?_eq_getElem hk] <;> rfl)
  generalize hcd : cs[k] = c at c0 c1 c2 g1
  obtain ⟨j, q2, hj, hq2, t2⟩ := f17 n (1 :: bs) [] (q := q1) c.length c0 (by omega) hq1
  have t2 : callF pg FU (n + 1) 17 (1 :: bs) [.ref 0, .int c.length] [q1.so] = .ok (.int j) [q2.so] := t2
  obtain ⟨p0, p1⟩ := c2 c[j] (List.getElem_mem hj)
  have g2 := idx_tup [q2.so] (c.map pt) j (pt c[j]) (by rw [List.getElem?_map, List.getElem?_eq_getElem hj] <;> rfl)
  generalize hpd : c[j] = p at p0 p1 g2
  obtain ⟨i, q3, hi, hq3, t3⟩ := f17 n (1 :: bs) [] (q := q2) p.length p0 (by omega) hq2
  have t3 : callF pg FU (n + 1) 17 (1 :: bs) [.ref 0, .int p.length] [q2.so] = .ok (.int i) [q3.so] := t3
  have g3 := fun S => idx_tup S (p.map D.int) i _ (getE hi)
  obtain ⟨a, q4, ha, hq4, t4⟩ := f17 n (1 :: bs) [] (q := q3) 4 (by decide) (by decide) hq3
  have t4 : callF pg FU (n + 1) 17 (1 :: bs) [.ref 0, .int 4] [q3.so] = .ok (.int a) [q4.so] := t4
  obtain ⟨z4, hz4, ez4⟩ := get_mem (l := [D.int (p.getD i 0 + 1), .int (p.getD i 0 - 1), .bl true, .non]) (r := a) ha
  have hz4' : isDt z4 = true ∧ depD z4 = 0 := by
    simp only [List.mem_cons, List.not_mem_nil, or_false] at hz4
    rcases hz4 with rfl | rfl | rfl | rfl <;> exact ⟨rfl, rfl⟩
  have g4 := idx_lst [q4.so] _ a z4 ez4
  have pm : (p.map D.int).length ≤ 1000 := by rw [List.length_map]; omega
  have a4 := fun S => add3 S (l := p.map D.int) (m := [z4]) (lo := none) (hi := some i) (lo' := some (i + 1)) (hi' := none) pm (by show 1 ≤ 1000; decide)
  have ho : PL (othL p i z4) := by
    have := len3 (p.map D.int) [z4] none (some i) (some (i + 1)) none
    refine pl_ints (mem3 (fun x hx => ?_) (fun x hx => ?_)) (by simp only [List.length_singleton, List.length_map] at this; omega)
    · obtain ⟨y, _, rfl⟩ := List.mem_map.mp hx
      exact ⟨rfl, rfl⟩
    · rcases List.mem_singleton.mp hx with rfl
      exact hz4'
  obtain ⟨r, q5, hr, hq5, t5⟩ := f17 n (1 :: bs) [] (q := q4) 7 (by decide) (by decide) hq4
  have t5 : callF pg FU (n + 1) 17 (1 :: bs) [.ref 0, .int 7] [q4.so] = .ok (.int r) [q5.so] := t5
  obtain ⟨z5, hz5, ez5⟩ := get_mem (l := rowL c j (othL p i z4)) (r := r) hr
  have hz5' := row_cl (fun x hx => (c2 x hx).2) c1 ho j z5 hz5
  have g5 := idx_lst [q5.so] _ r z5 ez5
  have cm : (c.map pt).length ≤ 1000 := by rw [List.length_map]; omega
  have a5 := fun S => add3 S (l := c.map pt) (m := [othL p i z4]) (lo := none) (hi := some j) (lo' := some (j + 1)) (hi' := none) cm (by show 1 ≤ 1000; decide)
  have b5 := fun S => ar_tup S (l := c.map pt) (k := cut (c.map pt) none (some 1)) (by have := cut_len (c.map pt) none (some 1); show _ ≤ 1000000; omega)
  have Lm : (cs.map ch).length ≤ 120 := by rw [List.length_map]; exact h1
  have a6 := fun S => add3 S (l := cs.map ch) (m := [.tup (cut (c.map pt) none (some j)), .tup (cut (c.map pt) (some j) none)]) (lo := none) (hi := some k) (lo' := some (k + 1)) (hi' := none) (by omega) (by show 2 ≤ 1000; decide)
  have a7 := fun S => add3 S (l := cs.map ch) (m := [z5]) (lo := none) (hi := some k) (lo' := some (k + 1)) (hi' := none) (by omega) (by show 1 ≤ 1000; decide)
  have b7 := fun S => ar_tup S (l := cs.map ch) (k := cut (cs.map ch) none (some 1)) (by have := cut_len (cs.map ch) none (some 1); show _ ≤ 1000000; omega)
  have b8 := fun S => ar_tup S (l := cut (cs.map ch) (some 1) none) (k := cut (cs.map ch) none (some 1)) (by have := cut_len (cs.map ch) none (some 1); have := cut_len (cs.map ch) (some 1) none; show _ ≤ 1000000; omega)
  have hpl : ∀ x ∈ c.map pt, PL x := fun x hx => by
    obtain ⟨y, h, rfl⟩ := List.mem_map.mp hx
    exact pl_pt (Nat.le_trans (c2 y h).2 (by decide))
  have hL : ∀ x ∈ cs.map ch, CL x := fun x hx => by
    obtain ⟨y, h, rfl⟩ := List.mem_map.mp hx
    obtain ⟨y0, y1, y2⟩ := hc y h
    refine cl_tup (fun x hx => ?_) (by rw [List.length_map]; omega)
    obtain ⟨w, hw, rfl⟩ := List.mem_map.mp hx
    exact pl_pt (Nat.le_trans (y2 w hw).2 (by decide))
  have hpar : Fit (parL (cs.map ch) k c j) := by
    have := len3 (cs.map ch) [.tup (cut (c.map pt) none (some j)), .tup (cut (c.map pt) (some j) none)] none (some k) (some (k + 1)) none
    refine fit_tup (mem3 hL fun x hx => ?_) (by simp only [List.length_cons, List.length_nil] at this; omega)
    have cc : ∀ lo hi, CL (.tup (cut (c.map pt) lo hi)) := fun lo hi => cl_tup (fun x hx => hpl x (cut_mem hx)) (by have := cut_len (c.map pt) lo hi; rw [List.length_map] at this; omega)
    rcases List.mem_cons.mp hx with rfl | hx
    · exact cc _ _
    · rcases List.mem_singleton.mp hx with rfl
      exact cc _ _
  obtain ⟨m, q6, hm, hq6, t6⟩ := f17 n (1 :: bs) [] (q := q5) 6 (by decide) (by decide) hq5
  have t6 : callF pg FU (n + 1) 17 (1 :: bs) [.ref 0, .int 6] [q5.so] = .ok (.int m) [q6.so] := t6
  obtain ⟨z6, hz6, ez6⟩ := get_mem (l := finL (cs.map ch) k z5 (parL (cs.map ch) k c j)) (r := m) hm
  have hf := fin_fit hL Lm hz5' hpar k z6 hz6
  have g6 := idx_lst [q6.so] _ m z6 ez6
  have l7 : limL (rowL c j (othL p i z4)) = true := rfl
  have l6 : limL (finL (cs.map ch) k z5 (parL (cs.map ch) k c j)) = true := rfl
  have ln : [q.so].length = 1 := rfl
  unfold rowL othL at g5 l7 a5
  unfold finL parL at g6 l6
  have hout : ∃ v, xss (cN pg FU (n + 1)) (1 :: bs) d27.body [some (.ref 0), some (.tup (cs.map ch)), none, none, none, none, none, none, none, none, none] [q.so] = .ok (.ret z6, v) [q6.so] := by
    apply Exists.intro
    simp only [d27, b_ok, b_ex, b_bad, bnd_b, ret_ap, bad_ap, ofO_some, ofO_none, getV_cons, getV_zero, nxt_nx, nxt_ret, nxt_brk, nxt_cnt, s_nil, s_cons, s_asg, a_nm, s_ex, s_ret, s_retN, s_iff, s_pas, s_brk, s_cnt, s_rai, e_var, e_cst, e_glo, e_bin, negD_int, e_neg, e_cmp, e_chn, notD_bl, e_not, isB_bl, e_and, e_or, and_nil, and_cons, or_nil, or_cons, e_ite, e_tup, limM_b, e_ls, e_mk, l_ls, l_cat, repD_int, l_rep, l_lc, l_of, e_call, e_pri, e_idx, e_lc, e_rev, revTD_tup, e_revT, toI_int, o_none, o_some, e_sli, es_nil, es_cons, t_cmp, t_chn, t_var, t_call, t_pri, t_cst, t_not, t_and, t_or, tand_nil, tand_cons, tor_nil, tor_cons, cond_none, cond_some, tru_bl, tru_int, itOf_lst, itOf_tup, i_seq, i_rg1, i_rg2, enD_lst, enD_tup, i_enum, zipD_lst, zipD_tup, i_zip, s_fr, c_eqI, c_neI, c_ltI, c_leI, c_gtI, c_geI, c_is, c_isn, ar_add, ar_sub, p_lenT, p_lenL, p_tuple, p_tupleT, p_list, p_listL, p_sorted, p_min2, p_max2, p_sumT, p_sumL, p_all, p_any, k_and, k_or, k_andT, k_orT, k_opt, k_lim, beq_nat, lim1, lim0, lim2, lim3, lim4, isTu_tup, isW_int, List.set_cons_zero, List.set_cons_succ, Option.map_some, Option.map_none, cond_true, cond_false, Bool.not_true, Bool.not_false, List.length_cons, List.length_nil, List.length_map, reduceIte, Bool.true_and, Bool.and_true, Bool.false_and, Bool.and_false, Bool.or_true, Bool.true_or, Bool.false_or, Bool.or_false, Bool.false_eq_true, t1, g1, t2, g2, t3, g3, t4, g4, sl_tup, a4, t5, a5, b5, l7, g5, a6, a7, b7, b8, l6, t6, g6]
    rfl
  obtain ⟨v, e⟩ := hout
  exact ⟨z6, q6, hf, hq6, run_gen (C := cN pg FU (n + 1)) (f := d27) (v0 := [some (.ref 0), some (.tup (cs.map ch)), none, none, none, none, none, none, none, none, none]) (v := v) (p := .ret z6) (d := z6) rfl rfl rfl (S1 := [q6.so]) e rfl (frz_dt hf.dt)⟩
end Ri.G
set_option maxHeartbeats 2000000
namespace Ri.G
open Ri PySem
open Ri.Enc (enc)
theorem even_I {b : List Nat} {c : Ch} (e : Even c b.sum b.length) : evenI b c = true := by
  unfold evenI
  rw [Bool.and_eq_true, range_all_iff]
  have e0 := e.ne
  refine ⟨fun i hi => ?_, ?_⟩
  · have h1 := e.up i (by omega)
    have h2 := e.up (i + 1) (by omega)
    show ((at_ c (i + 1)).sum == (at_ c i).sum + 1 && le_ (at_ c i) (at_ c (i + 1))) = true
    rw [e.le i (by omega), Bool.and_true, beq_iff_eq]
    omega
  · have h1 := e.up (c.length - 1) (by omega)
    have h2 := e.end_
    rw [beq_iff_eq]
    omega
theorem even_D {b : List Nat} {c : Ch} (h : c ∈ chOf b) : isEvenD b (ch c) = true := by
  obtain ⟨h1, h2⟩ := chains_of b
  have e := h1 c h
  have hp : ∀ p ∈ c, okP b p := fun p hp => okP_pts b p (h2.mem_iff.mp (List.mem_flatten.mpr ⟨c, h, hp⟩))
  show (!(c.map pt).isEmpty && (c.map pt).all (isPt b) && evenI b (chIn (ch c))) = true
  rw [chIn_ch, even_I e, Bool.and_true, Bool.and_eq_true, List.isEmpty_map]
  refine ⟨?_, ?_⟩
  · have := e.ne
    cases c with
    | nil => simp at this
    | cons _ _ => rfl
  · rw [List.all_map, List.all_eq_true]
    exact fun p h => isPt_pt (hp p h)
theorem takes_told (b : List Nat) : takesD b (.tup ((toldCh b).map ch)) = true := by
  show (((toldCh b).map ch).all (isEvenD b) && decide (sortE (ptsAll ((toldCh b).map ch)) = ptsOf b)) = true
  rw [Bool.and_eq_true, ptsAll_ch]
  refine ⟨?_, ?_⟩
  · rw [List.all_map, List.all_eq_true]
    exact fun c h => even_D ((told_perm b).mem_iff.mp h)
  · rw [decide_eq_true_iff, ← sort_pts b]
    exact sortE_perm_eq ((told_perm b).flatten.trans (chains_of b).2)
theorem told_even {b : List Nat} {c : Ch} (h : c ∈ toldCh b) : Even c b.sum b.length := (chains_of b).1 c ((told_perm b).mem_iff.mp h)
theorem told_cl {b : List Nat} (g : Good b) {c : Ch} (h : c ∈ toldCh b) : 0 < c.length ∧ c.length ≤ 100 ∧ ∀ p ∈ c, 0 < p.length ∧ p.length ≤ 100 := by
  have e := told_even h
  have h1 := e.end_
  have h2 := e.low
  have h3 := Good.sum_le g.side
  have h4 := g.h5
  have h5 := g.h1
  exact ⟨e.ne, by omega, fun p hp => by rw [e.points p hp]; omega⟩
theorem cl_ch {b : List Nat} (g : Good b) {c : Ch} (h : c ∈ toldCh b) : CL (ch c) := by
  obtain ⟨h1, h2, h3⟩ := told_cl g h
  refine cl_tup (fun x hx => ?_) (by rw [List.length_map]; omega)
  obtain ⟨p, hp, rfl⟩ := List.mem_map.mp hx
  exact pl_pt (Nat.le_trans (h3 p hp).2 (by decide))
theorem fit_told {b : List Nat} (g : Good b) : Fit (.tup ((toldCh b).map ch)) := fit_tup (fun x hx => by
  obtain ⟨c, hc, rfl⟩ := List.mem_map.mp hx
  exact cl_ch g hc) (by have := told_len g; rw [List.length_map]; omega)
theorem pl_pts {b : List Nat} (g : Good b) {p : List Int} (h : p ∈ ptsOf b) : PL (pt p) := pl_pt (by rw [(okP_pts b p h).1]; have := g.h5; omega)
theorem pts_le {b : List Nat} (g : Good b) : (ptsOf b).length ≤ 120 := by rw [pts_len]; exact g.size
theorem c_neP (S : Sto) (x y : List Int) : cmpD S .ne (pt x) (pt y) = some (!decide (x = y)) := by
  show (eqq S (enc x) (enc y)).map (!·) = _
  rw [eqq_enc (α := List Int) (by decide) x y] <;> rfl
theorem c_neC (S : Sto) (x y : Ch) : cmpD S .ne (ch x) (ch y) = some (!decide (x = y)) := by
  show (eqq S (enc x) (enc y)).map (!·) = _
  rw [eqq_enc (α := Ch) (by decide) x y] <;> rfl
theorem c_neLC (S : Sto) (x y : List Ch) : cmpD S .ne (.lst (x.map ch)) (.lst (y.map ch)) = some (!decide (x = y)) := by
  show (eqq S (encL x) (encL y)).map (!·) = _
  rw [eqq_encL (α := Ch) (by decide) x y] <;> rfl
theorem c_neB (S : Sto) (x y : Bool) : cmpD S .ne (.bl x) (.bl y) = some (!(x == y)) := rfl
theorem cut_init {α : Type} (l : List α) : cut l none (some (-1)) = l.take (l.length - 1) := rfl
theorem odd_last {b : List Nat} (g : Good b) {p : List Int} (hp : okP b p) {i : Int} (hi : i < 0 ∨ 4 < i) : isPt b (.tup (cut (p.map D.int) none (some (-1)) ++ [.int i])) = false := by
  rw [cut_init, List.length_map]
  cases h : isPt b (.tup ((p.map D.int).take (p.length - 1) ++ [.int i])) with
  | false => rfl
  | true =>
    have h : (((p.map D.int).take (p.length - 1) ++ [D.int i]).length == b.length && ((p.map D.int).take (p.length - 1) ++ [D.int i]).all isW && (((p.map D.int).take (p.length - 1) ++ [D.int i]).zip b).all fun z => inB z.1 z.2) = true := h
    rw [Bool.and_eq_true, Bool.and_eq_true] at h
    obtain ⟨⟨h1, _⟩, h3⟩ := h
    have h1 : ((p.map D.int).take (p.length - 1) ++ [D.int i]).length = b.length := by simpa using h1
    have h0 := g.h1
    have hl := hp.1
    have z := (zip_all_iff (fun z : D × Nat => inB z.1 z.2) .non 0 _ b h1).mp h3 (p.length - 1) (by rw [h1]; omega)
    have e1 : ((p.map D.int).take (p.length - 1) ++ [D.int i]).getD (p.length - 1) .non = .int i := by
      have : ((p.map D.int).take (p.length - 1)).length = p.length - 1 := by rw [List.length_take, List.length_map]; omega
      rw [List.getD_eq_getElem?_getD, List.getElem?_append_right (by omega), this, Nat.sub_self] <;> rfl
    have e2 : b.getD (p.length - 1) 0 ≤ 4 := by
      rw [List.getD_eq_getElem?_getD, List.getElem?_eq_getElem (by omega)]
      exact g.side _ (List.getElem_mem _)
    rw [e1] at z
    have z : (decide (0 ≤ i) && decide (i ≤ (b.getD (p.length - 1) 0 : Nat))) = true := z
    rw [Bool.and_eq_true, decide_eq_true_iff, decide_eq_true_iff] at z
    omega
theorem rep_tr (S : Sto) {n : Nat} (h1 : 1 ≤ n) (h : n ≤ 5) : arith S .mul (.tup [.bl true]) (.int n) = some (.tup (List.replicate n (.bl true))) := by
  have : n = 1 ∨ n = 2 ∨ n = 3 ∨ n = 4 ∨ n = 5 := by omega
  rcases this with rfl | rfl | rfl | rfl | rfl <;> rfl
def oddL (b : List Nat) (p : List Int) : List D := [.non, .tup (p.map D.int ++ [.int 0]), .tup (cut (p.map D.int) none (some (-1)) ++ [.int 5]), .lst (p.map D.int), .tup (cut (p.map D.int) none (some (-1)) ++ [.int (-1)]), .tup (List.replicate b.length (.bl true))]
theorem odd_all {b : List Nat} (g : Good b) {p : List Int} (hp : okP b p) : ∀ y ∈ oddL b p, Odd b y := by
  have hl := hp.1
  have h5 := g.h5
  have di : ∀ x ∈ p.map D.int, isDt x = true := fun x hx => by
    obtain ⟨i, _, rfl⟩ := List.mem_map.mp hx
    rfl
  have dc : ∀ i : Int, ∀ x ∈ cut (p.map D.int) none (some (-1)) ++ [D.int i], isDt x = true := fun i x hx => by
    rcases List.mem_append.mp hx with hx | hx
    · exact di x (cut_mem hx)
    · rcases List.mem_singleton.mp hx with rfl
      rfl
  have lc : ∀ i : Int, (cut (p.map D.int) none (some (-1)) ++ [D.int i]).length ≤ LIM := fun i => by
    have := cut_len (p.map D.int) none (some (-1))
    rw [List.length_map] at this
    rw [List.length_append, List.length_singleton]
    show _ ≤ 1000000
    omega
  intro y hy
  unfold oddL at hy
  rcases List.mem_cons.mp hy with rfl | hy
  · exact ⟨rfl, fun l e => (by cases e), rfl⟩
  rcases List.mem_cons.mp hy with rfl | hy
  · refine ⟨dts_iff.mpr fun x hx => ?_, fun l e => ?_, ?_⟩
    · rcases List.mem_append.mp hx with hx | hx
      · exact di x hx
      · rcases List.mem_singleton.mp hx with rfl
        rfl
    · cases e
      rw [List.length_append, List.length_map, List.length_singleton]
      show _ ≤ 1000000
      omega
    · have : ((p.map D.int ++ [D.int 0]).length == b.length) = false := by
        rw [List.length_append, List.length_map, List.length_singleton]
        simp
        omega
      show ((p.map D.int ++ [D.int 0]).length == b.length && _ && _) = false
      rw [this] <;> rfl
  rcases List.mem_cons.mp hy with rfl | hy
  · exact ⟨dts_iff.mpr (dc 5), fun l e => (by cases e; exact lc 5), odd_last g hp (.inr (by decide))⟩
  rcases List.mem_cons.mp hy with rfl | hy
  · exact ⟨show isDts (p.map D.int) = true from dts_iff.mpr di, fun l e => (by cases e), rfl⟩
  rcases List.mem_cons.mp hy with rfl | hy
  · exact ⟨dts_iff.mpr (dc (-1)), fun l e => (by cases e; exact lc (-1)), odd_last g hp (.inl (by decide))⟩
  · rcases List.mem_singleton.mp hy with rfl
    refine ⟨dts_iff.mpr fun x hx => by rw [(List.mem_replicate.mp hx).2] <;> rfl, fun l e => ?_, ?_⟩
    · cases e
      rw [List.length_replicate]
      show _ ≤ 1000000
      omega
    · have : (List.replicate b.length (D.bl true)).all isW = false := by
        have h1 := g.h1
        cases h : b.length with
        | zero => omega
        | succ n => rw [List.replicate_succ, List.all_cons] <;> rfl
      show (_ && (List.replicate b.length (D.bl true)).all isW && _) = false
      rw [this, Bool.and_false] <;> rfl
abbrev C : Ctx := cN pg FU 11
abbrev B : Ss := d28.body

theorem lc_0 (S : Sto) (b : List Nat) (k : Nat) (hl : (ptsOf b).length ≤ 120) (x0 x1 x2 x4 x5 x6 x7 x8 x9 x10 x11 x12 x13 x14 x16 x17 x18 x19 : Option D) : evC C d28c0 ⟨[0], [x0, x1, x2, some (.lst ((ptsOf b).map pt)), x4, x5, x6, x7, x8, x9, x10, x11, x12, x13, x14, some (.int k), x16, x17, x18, x19]⟩ S = .ok (((ptsOf b).filter fun p => p.sum == (k : Int)).map pt) S :=
  lc_fil (e := pt) (xs := ptsOf b) (by simp only [b_ok, b_ex, b_bad, bnd_b, ret_ap, bad_ap, ofO_some, ofO_none, getV_cons, getV_zero, nxt_nx, nxt_ret, nxt_brk, nxt_cnt, s_nil, s_cons, s_asg, a_nm, s_ex, s_ret, s_retN, s_iff, s_pas, s_brk, s_cnt, s_rai, e_var, e_cst, e_glo, e_bin, negD_int, e_neg, e_cmp, e_chn, notD_bl, e_not, isB_bl, e_and, e_or, and_nil, and_cons, or_nil, or_cons, e_ite, e_tup, limM_b, e_ls, e_mk, l_ls, l_cat, repD_int, l_rep, l_lc, l_of, e_call, e_pri, e_idx, e_lc, e_rev, revTD_tup, e_revT, toI_int, o_none, o_some, e_sli, es_nil, es_cons, t_cmp, t_chn, t_var, t_call, t_pri, t_cst, t_not, t_and, t_or, tand_nil, tand_cons, tor_nil, tor_cons, cond_none, cond_some, tru_bl, tru_int, itOf_lst, itOf_tup, i_seq, i_rg1, i_rg2, enD_lst, enD_tup, i_enum, zipD_lst, zipD_tup, i_zip, s_fr, c_eqI, c_neI, c_ltI, c_leI, c_gtI, c_geI, c_is, c_isn, ar_add, ar_sub, p_lenT, p_lenL, p_tuple, p_tupleT, p_list, p_listL, p_sorted, p_min2, p_max2, p_sumT, p_sumL, p_all, p_any, k_and, k_or, k_andT, k_orT, k_opt, k_lim, beq_nat, lim1, lim0, lim2, lim3, lim4, isTu_tup, isW_int, List.set_cons_zero, List.set_cons_succ, Option.map_some, Option.map_none, cond_true, cond_false, Bool.not_true, Bool.not_false, List.length_cons, List.length_nil, List.length_map, reduceIte, Bool.true_and, Bool.and_true, Bool.false_and, Bool.and_false, Bool.or_true, Bool.true_or, Bool.false_or, Bool.or_false, Bool.false_eq_true]) (fun p _ => by simp only [cB_nm, b_ok, b_ex, b_bad, bnd_b, ret_ap, bad_ap, ofO_some, ofO_none, getV_cons, getV_zero, nxt_nx, nxt_ret, nxt_brk, nxt_cnt, s_nil, s_cons, s_asg, a_nm, s_ex, s_ret, s_retN, s_iff, s_pas, s_brk, s_cnt, s_rai, e_var, e_cst, e_glo, e_bin, negD_int, e_neg, e_cmp, e_chn, notD_bl, e_not, isB_bl, e_and, e_or, and_nil, and_cons, or_nil, or_cons, e_ite, e_tup, limM_b, e_ls, e_mk, l_ls, l_cat, repD_int, l_rep, l_lc, l_of, e_call, e_pri, e_idx, e_lc, e_rev, revTD_tup, e_revT, toI_int, o_none, o_some, e_sli, es_nil, es_cons, t_cmp, t_chn, t_var, t_call, t_pri, t_cst, t_not, t_and, t_or, tand_nil, tand_cons, tor_nil, tor_cons, cond_none, cond_some, tru_bl, tru_int, itOf_lst, itOf_tup, i_seq, i_rg1, i_rg2, enD_lst, enD_tup, i_enum, zipD_lst, zipD_tup, i_zip, s_fr, c_eqI, c_neI, c_ltI, c_leI, c_gtI, c_geI, c_is, c_isn, ar_add, ar_sub, p_lenT, p_lenL, p_tuple, p_tupleT, p_list, p_listL, p_sorted, p_min2, p_max2, p_sumT, p_sumL, p_all, p_any, k_and, k_or, k_andT, k_orT, k_opt, k_lim, beq_nat, lim1, lim0, lim2, lim3, lim4, isTu_tup, isW_int, List.set_cons_zero, List.set_cons_succ, Option.map_some, Option.map_none, cond_true, cond_false, Bool.not_true, Bool.not_false, List.length_cons, List.length_nil, List.length_map, reduceIte, Bool.true_and, Bool.and_true, Bool.false_and, Bool.and_false, Bool.or_true, Bool.true_or, Bool.false_or, Bool.or_false, Bool.false_eq_true]) (by show _ ≤ 1000000; omega)
theorem rk_len (b : List Nat) : (rkOf b).length = b.sum + 1 := (ranks_of b).len
theorem rk_get (b : List Nat) (k : Nat) : (rkOf b).getD k 0 = cnt (ptsOf b) k := (ranks_of b).get k
theorem e_row (b : List Nat) : ((List.range (b.sum + 1)).map fun (k : Nat) => D.int ((((ptsOf b).filter fun p => p.sum == (k : Int)).length : Nat) : Int)) = (rkOf b).map D.int := by
  rw [rk_eq, List.map_map]
  refine List.map_congr_left fun k _ => ?_
  show D.int _ = D.int _
  congr 2
  unfold cnt
  rw [List.countP_eq_length_filter]
end Ri.G
set_option maxHeartbeats 4000000
namespace Ri.G
open Ri PySem
open Ri.Enc (enc)
abbrev dR (b : List Nat) : D := .tup ((rkOf b).map D.int)
abbrev dP (b : List Nat) : D := .lst ((ptsOf b).map pt)
abbrev dM (b : List Nat) : D := .tup ((midOf b).map pt)
abbrev dC (b : List Nat) : D := .tup ((toldCh b).map ch)
theorem t0 (ns : List Int) {S S1 : Sto} (e : callF pg FU 11 16 [0] [.scr ns] S = .ok (.ref 0) S1) : xs C [0] d28s0 [some (.scr ns), none, none, none, none, none, none, none, none, none, none, none, none, none, none, none, none, none, none, none] S = .ok (.nx, [some (.scr ns), some (.ref 0), none, none, none, none, none, none, none, none, none, none, none, none, none, none, none, none, none, none]) S1 := by
  simp only [d28s0, b_ok, b_ex, b_bad, bnd_b, ret_ap, bad_ap, ofO_some, ofO_none, getV_cons, getV_zero, nxt_nx, nxt_ret, nxt_brk, nxt_cnt, s_nil, s_cons, s_asg, a_nm, s_ex, s_ret, s_retN, s_iff, s_pas, s_brk, s_cnt, s_rai, e_var, e_cst, e_glo, e_bin, negD_int, e_neg, e_cmp, e_chn, notD_bl, e_not, isB_bl, e_and, e_or, and_nil, and_cons, or_nil, or_cons, e_ite, e_tup, limM_b, e_ls, e_mk, l_ls, l_cat, repD_int, l_rep, l_lc, l_of, e_call, e_pri, e_idx, e_lc, e_rev, revTD_tup, e_revT, toI_int, o_none, o_some, e_sli, es_nil, es_cons, t_cmp, t_chn, t_var, t_call, t_pri, t_cst, t_not, t_and, t_or, tand_nil, tand_cons, tor_nil, tor_cons, cond_none, cond_some, tru_bl, tru_int, itOf_lst, itOf_tup, i_seq, i_rg1, i_rg2, enD_lst, enD_tup, i_enum, zipD_lst, zipD_tup, i_zip, s_fr, c_eqI, c_neI, c_ltI, c_leI, c_gtI, c_geI, c_is, c_isn, ar_add, ar_sub, p_lenT, p_lenL, p_tuple, p_tupleT, p_list, p_listL, p_sorted, p_min2, p_max2, p_sumT, p_sumL, p_all, p_any, k_and, k_or, k_andT, k_orT, k_opt, k_lim, beq_nat, lim1, lim0, lim2, lim3, lim4, isTu_tup, isW_int, List.set_cons_zero, List.set_cons_succ, Option.map_some, Option.map_none, cond_true, cond_false, Bool.not_true, Bool.not_false, List.length_cons, List.length_nil, List.length_map, reduceIte, Bool.true_and, Bool.and_true, Bool.false_and, Bool.and_false, Bool.or_true, Bool.true_or, Bool.false_or, Bool.or_false, Bool.false_eq_true, e]
theorem t1 (ns : List Int) {b : List Nat} {S S1 : Sto} (e : callF pg FU 11 19 [0] [.ref 0] S = .ok (bx b) S1) : xs C [0] d28s1 [some (.scr ns), some (.ref 0), none, none, none, none, none, none, none, none, none, none, none, none, none, none, none, none, none, none] S = .ok (.nx, [some (.scr ns), some (.ref 0), some (bx b), none, none, none, none, none, none, none, none, none, none, none, none, none, none, none, none, none]) S1 := by
  simp only [d28s1, b_ok, b_ex, b_bad, bnd_b, ret_ap, bad_ap, ofO_some, ofO_none, getV_cons, getV_zero, nxt_nx, nxt_ret, nxt_brk, nxt_cnt, s_nil, s_cons, s_asg, a_nm, s_ex, s_ret, s_retN, s_iff, s_pas, s_brk, s_cnt, s_rai, e_var, e_cst, e_glo, e_bin, negD_int, e_neg, e_cmp, e_chn, notD_bl, e_not, isB_bl, e_and, e_or, and_nil, and_cons, or_nil, or_cons, e_ite, e_tup, limM_b, e_ls, e_mk, l_ls, l_cat, repD_int, l_rep, l_lc, l_of, e_call, e_pri, e_idx, e_lc, e_rev, revTD_tup, e_revT, toI_int, o_none, o_some, e_sli, es_nil, es_cons, t_cmp, t_chn, t_var, t_call, t_pri, t_cst, t_not, t_and, t_or, tand_nil, tand_cons, tor_nil, tor_cons, cond_none, cond_some, tru_bl, tru_int, itOf_lst, itOf_tup, i_seq, i_rg1, i_rg2, enD_lst, enD_tup, i_enum, zipD_lst, zipD_tup, i_zip, s_fr, c_eqI, c_neI, c_ltI, c_leI, c_gtI, c_geI, c_is, c_isn, ar_add, ar_sub, p_lenT, p_lenL, p_tuple, p_tupleT, p_list, p_listL, p_sorted, p_min2, p_max2, p_sumT, p_sumL, p_all, p_any, k_and, k_or, k_andT, k_orT, k_opt, k_lim, beq_nat, lim1, lim0, lim2, lim3, lim4, isTu_tup, isW_int, List.set_cons_zero, List.set_cons_succ, Option.map_some, Option.map_none, cond_true, cond_false, Bool.not_true, Bool.not_false, List.length_cons, List.length_nil, List.length_map, reduceIte, Bool.true_and, Bool.and_true, Bool.false_and, Bool.and_false, Bool.or_true, Bool.true_or, Bool.false_or, Bool.or_false, Bool.false_eq_true, e]
theorem t2 (ns : List Int) {b : List Nat} (g : Good b) (S : Sto) : xs C [0] d28s2 [some (.scr ns), some (.ref 0), some (bx b), none, none, none, none, none, none, none, none, none, none, none, none, none, none, none, none, none] S = .ok (.nx, [some (.scr ns), some (.ref 0), some (bx b), some (dP b), none, none, none, none, none, none, none, none, none, none, none, none, none, none, none, none]) S := by
  have e := f20 10 [0] S (b := b) (by have := g.h5; omega) (Nat.le_trans g.size (by decide))
  simp only [d28s2, b_ok, b_ex, b_bad, bnd_b, ret_ap, bad_ap, ofO_some, ofO_none, getV_cons, getV_zero, nxt_nx, nxt_ret, nxt_brk, nxt_cnt, s_nil, s_cons, s_asg, a_nm, s_ex, s_ret, s_retN, s_iff, s_pas, s_brk, s_cnt, s_rai, e_var, e_cst, e_glo, e_bin, negD_int, e_neg, e_cmp, e_chn, notD_bl, e_not, isB_bl, e_and, e_or, and_nil, and_cons, or_nil, or_cons, e_ite, e_tup, limM_b, e_ls, e_mk, l_ls, l_cat, repD_int, l_rep, l_lc, l_of, e_call, e_pri, e_idx, e_lc, e_rev, revTD_tup, e_revT, toI_int, o_none, o_some, e_sli, es_nil, es_cons, t_cmp, t_chn, t_var, t_call, t_pri, t_cst, t_not, t_and, t_or, tand_nil, tand_cons, tor_nil, tor_cons, cond_none, cond_some, tru_bl, tru_int, itOf_lst, itOf_tup, i_seq, i_rg1, i_rg2, enD_lst, enD_tup, i_enum, zipD_lst, zipD_tup, i_zip, s_fr, c_eqI, c_neI, c_ltI, c_leI, c_gtI, c_geI, c_is, c_isn, ar_add, ar_sub, p_lenT, p_lenL, p_tuple, p_tupleT, p_list, p_listL, p_sorted, p_min2, p_max2, p_sumT, p_sumL, p_all, p_any, k_and, k_or, k_andT, k_orT, k_opt, k_lim, beq_nat, lim1, lim0, lim2, lim3, lim4, isTu_tup, isW_int, List.set_cons_zero, List.set_cons_succ, Option.map_some, Option.map_none, cond_true, cond_false, Bool.not_true, Bool.not_false, List.length_cons, List.length_nil, List.length_map, reduceIte, Bool.true_and, Bool.and_true, Bool.false_and, Bool.and_false, Bool.or_true, Bool.true_or, Bool.false_or, Bool.or_false, Bool.false_eq_true, e]
theorem t3 (ns : List Int) (b : List Nat) (S : Sto) : xs C [0] d28s3 [some (.scr ns), some (.ref 0), some (bx b), some (dP b), none, none, none, none, none, none, none, none, none, none, none, none, none, none, none, none] S = .ok (.nx, [some (.scr ns), some (.ref 0), some (bx b), some (dP b), some (.int b.sum), none, none, none, none, none, none, none, none, none, none, none, none, none, none, none]) S := by
  simp only [d28s3, b_ok, b_ex, b_bad, bnd_b, ret_ap, bad_ap, ofO_some, ofO_none, getV_cons, getV_zero, nxt_nx, nxt_ret, nxt_brk, nxt_cnt, s_nil, s_cons, s_asg, a_nm, s_ex, s_ret, s_retN, s_iff, s_pas, s_brk, s_cnt, s_rai, e_var, e_cst, e_glo, e_bin, negD_int, e_neg, e_cmp, e_chn, notD_bl, e_not, isB_bl, e_and, e_or, and_nil, and_cons, or_nil, or_cons, e_ite, e_tup, limM_b, e_ls, e_mk, l_ls, l_cat, repD_int, l_rep, l_lc, l_of, e_call, e_pri, e_idx, e_lc, e_rev, revTD_tup, e_revT, toI_int, o_none, o_some, e_sli, es_nil, es_cons, t_cmp, t_chn, t_var, t_call, t_pri, t_cst, t_not, t_and, t_or, tand_nil, tand_cons, tor_nil, tor_cons, cond_none, cond_some, tru_bl, tru_int, itOf_lst, itOf_tup, i_seq, i_rg1, i_rg2, enD_lst, enD_tup, i_enum, zipD_lst, zipD_tup, i_zip, s_fr, c_eqI, c_neI, c_ltI, c_leI, c_gtI, c_geI, c_is, c_isn, ar_add, ar_sub, p_lenT, p_lenL, p_tuple, p_tupleT, p_list, p_listL, p_sorted, p_min2, p_max2, p_sumT, p_sumL, p_all, p_any, k_and, k_or, k_andT, k_orT, k_opt, k_lim, beq_nat, lim1, lim0, lim2, lim3, lim4, isTu_tup, isW_int, List.set_cons_zero, List.set_cons_succ, Option.map_some, Option.map_none, cond_true, cond_false, Bool.not_true, Bool.not_false, List.length_cons, List.length_nil, List.length_map, reduceIte, Bool.true_and, Bool.and_true, Bool.false_and, Bool.and_false, Bool.or_true, Bool.true_or, Bool.false_or, Bool.or_false, Bool.false_eq_true, bx_sum]
theorem t4 (ns : List Int) {b : List Nat} (g : Good b) (S : Sto) : xs C [0] d28s4 [some (.scr ns), some (.ref 0), some (bx b), some (dP b), some (.int b.sum), none, none, none, none, none, none, none, none, none, none, none, none, none, none, none] S = .ok (.nx, [some (.scr ns), some (.ref 0), some (bx b), some (dP b), some (.int b.sum), some (dR b), none, none, none, none, none, none, none, none, none, none, none, none, none, none]) S := by
  have hs : b.sum ≤ 20 := by have := Good.sum_le g.side; have := g.h5; omega
  have i1 : (b.sum : Int) + 1 = ((b.sum + 1 : Nat) : Int) := by omega
  have r1 := rg1_of S (n := b.sum + 1) (by omega)
  have e : evC C d28c1 ⟨[0], [some (.scr ns), some (.ref 0), some (bx b), some (dP b), some (.int b.sum), none, none, none, none, none, none, none, none, none, none, none, none, none, none, none]⟩ S = .ok ((rkOf b).map D.int) S := by
    rw [← e_row]
    refine lc_map (e := fun (k : Nat) => D.int k) (xs := List.range (b.sum + 1)) (by simp only [b_ok, b_ex, b_bad, bnd_b, ret_ap, bad_ap, ofO_some, ofO_none, getV_cons, getV_zero, nxt_nx, nxt_ret, nxt_brk, nxt_cnt, s_nil, s_cons, s_asg, a_nm, s_ex, s_ret, s_retN, s_iff, s_pas, s_brk, s_cnt, s_rai, e_var, e_cst, e_glo, e_bin, negD_int, e_neg, e_cmp, e_chn, notD_bl, e_not, isB_bl, e_and, e_or, and_nil, and_cons, or_nil, or_cons, e_ite, e_tup, limM_b, e_ls, e_mk, l_ls, l_cat, repD_int, l_rep, l_lc, l_of, e_call, e_pri, e_idx, e_lc, e_rev, revTD_tup, e_revT, toI_int, o_none, o_some, e_sli, es_nil, es_cons, t_cmp, t_chn, t_var, t_call, t_pri, t_cst, t_not, t_and, t_or, tand_nil, tand_cons, tor_nil, tor_cons, cond_none, cond_some, tru_bl, tru_int, itOf_lst, itOf_tup, i_seq, i_rg1, i_rg2, enD_lst, enD_tup, i_enum, zipD_lst, zipD_tup, i_zip, s_fr, c_eqI, c_neI, c_ltI, c_leI, c_gtI, c_geI, c_is, c_isn, ar_add, ar_sub, p_lenT, p_lenL, p_tuple, p_tupleT, p_list, p_listL, p_sorted, p_min2, p_max2, p_sumT, p_sumL, p_all, p_any, k_and, k_or, k_andT, k_orT, k_opt, k_lim, beq_nat, lim1, lim0, lim2, lim3, lim4, isTu_tup, isW_int, List.set_cons_zero, List.set_cons_succ, Option.map_some, Option.map_none, cond_true, cond_false, Bool.not_true, Bool.not_false, List.length_cons, List.length_nil, List.length_map, reduceIte, Bool.true_and, Bool.and_true, Bool.false_and, Bool.and_false, Bool.or_true, Bool.true_or, Bool.false_or, Bool.or_false, Bool.false_eq_true, i1, r1]) (fun k _ => ?_) (by rw [List.length_range]; show _ ≤ 1000000; omega)
    simp only [cB_nm, b_ok, b_ex, b_bad, bnd_b, ret_ap, bad_ap, ofO_some, ofO_none, getV_cons, getV_zero, nxt_nx, nxt_ret, nxt_brk, nxt_cnt, s_nil, s_cons, s_asg, a_nm, s_ex, s_ret, s_retN, s_iff, s_pas, s_brk, s_cnt, s_rai, e_var, e_cst, e_glo, e_bin, negD_int, e_neg, e_cmp, e_chn, notD_bl, e_not, isB_bl, e_and, e_or, and_nil, and_cons, or_nil, or_cons, e_ite, e_tup, limM_b, e_ls, e_mk, l_ls, l_cat, repD_int, l_rep, l_lc, l_of, e_call, e_pri, e_idx, e_lc, e_rev, revTD_tup, e_revT, toI_int, o_none, o_some, e_sli, es_nil, es_cons, t_cmp, t_chn, t_var, t_call, t_pri, t_cst, t_not, t_and, t_or, tand_nil, tand_cons, tor_nil, tor_cons, cond_none, cond_some, tru_bl, tru_int, itOf_lst, itOf_tup, i_seq, i_rg1, i_rg2, enD_lst, enD_tup, i_enum, zipD_lst, zipD_tup, i_zip, s_fr, c_eqI, c_neI, c_ltI, c_leI, c_gtI, c_geI, c_is, c_isn, ar_add, ar_sub, p_lenT, p_lenL, p_tuple, p_tupleT, p_list, p_listL, p_sorted, p_min2, p_max2, p_sumT, p_sumL, p_all, p_any, k_and, k_or, k_andT, k_orT, k_opt, k_lim, beq_nat, lim1, lim0, lim2, lim3, lim4, isTu_tup, isW_int, List.set_cons_zero, List.set_cons_succ, Option.map_some, Option.map_none, cond_true, cond_false, Bool.not_true, Bool.not_false, List.length_cons, List.length_nil, List.length_map, reduceIte, Bool.true_and, Bool.and_true, Bool.false_and, Bool.and_false, Bool.or_true, Bool.true_or, Bool.false_or, Bool.or_false, Bool.false_eq_true, lc_0 S b k (pts_le g)]
  simp only [d28s4, b_ok, b_ex, b_bad, bnd_b, ret_ap, bad_ap, ofO_some, ofO_none, getV_cons, getV_zero, nxt_nx, nxt_ret, nxt_brk, nxt_cnt, s_nil, s_cons, s_asg, a_nm, s_ex, s_ret, s_retN, s_iff, s_pas, s_brk, s_cnt, s_rai, e_var, e_cst, e_glo, e_bin, negD_int, e_neg, e_cmp, e_chn, notD_bl, e_not, isB_bl, e_and, e_or, and_nil, and_cons, or_nil, or_cons, e_ite, e_tup, limM_b, e_ls, e_mk, l_ls, l_cat, repD_int, l_rep, l_lc, l_of, e_call, e_pri, e_idx, e_lc, e_rev, revTD_tup, e_revT, toI_int, o_none, o_some, e_sli, es_nil, es_cons, t_cmp, t_chn, t_var, t_call, t_pri, t_cst, t_not, t_and, t_or, tand_nil, tand_cons, tor_nil, tor_cons, cond_none, cond_some, tru_bl, tru_int, itOf_lst, itOf_tup, i_seq, i_rg1, i_rg2, enD_lst, enD_tup, i_enum, zipD_lst, zipD_tup, i_zip, s_fr, c_eqI, c_neI, c_ltI, c_leI, c_gtI, c_geI, c_is, c_isn, ar_add, ar_sub, p_lenT, p_lenL, p_tuple, p_tupleT, p_list, p_listL, p_sorted, p_min2, p_max2, p_sumT, p_sumL, p_all, p_any, k_and, k_or, k_andT, k_orT, k_opt, k_lim, beq_nat, lim1, lim0, lim2, lim3, lim4, isTu_tup, isW_int, List.set_cons_zero, List.set_cons_succ, Option.map_some, Option.map_none, cond_true, cond_false, Bool.not_true, Bool.not_false, List.length_cons, List.length_nil, List.length_map, reduceIte, Bool.true_and, Bool.and_true, Bool.false_and, Bool.and_false, Bool.or_true, Bool.true_or, Bool.false_or, Bool.or_false, Bool.false_eq_true, e]
theorem same_P (S : Sto) (x : List Int) : cmpD S .ne (pt x) (pt x) = some false := by rw [c_neP, decide_eq_true rfl] <;> rfl
theorem same_C (S : Sto) (x : Ch) : cmpD S .ne (ch x) (ch x) = some false := by rw [c_neC, decide_eq_true rfl] <;> rfl
theorem same_LC (S : Sto) (x : List Ch) : cmpD S .ne (.lst (x.map ch)) (.lst (x.map ch)) = some false := by rw [c_neLC, decide_eq_true rfl] <;> rfl
theorem same_tt : (true == true) = true := rfl
theorem same_ff : (false == false) = true := rfl
theorem t5 (ns : List Int) {b : List Nat} (g : Good b) (S : Sto) : xs C [0] d28s5 [some (.scr ns), some (.ref 0), some (bx b), some (dP b), some (.int b.sum), some (dR b), none, none, none, none, none, none, none, none, none, none, none, none, none, none] S = .ok (.nx, [some (.scr ns), some (.ref 0), some (bx b), some (dP b), some (.int b.sum), some (dR b), none, none, none, none, none, none, none, none, none, none, none, none, none, none]) S := by
  have e1 := f2g 9 [0] S g
  have e2 := f7 7 [0] S g
  have e3 := same_P S (rkOf b)
  simp only [d28s5, b_ok, b_ex, b_bad, bnd_b, ret_ap, bad_ap, ofO_some, ofO_none, getV_cons, getV_zero, nxt_nx, nxt_ret, nxt_brk, nxt_cnt, s_nil, s_cons, s_asg, a_nm, s_ex, s_ret, s_retN, s_iff, s_pas, s_brk, s_cnt, s_rai, e_var, e_cst, e_glo, e_bin, negD_int, e_neg, e_cmp, e_chn, notD_bl, e_not, isB_bl, e_and, e_or, and_nil, and_cons, or_nil, or_cons, e_ite, e_tup, limM_b, e_ls, e_mk, l_ls, l_cat, repD_int, l_rep, l_lc, l_of, e_call, e_pri, e_idx, e_lc, e_rev, revTD_tup, e_revT, toI_int, o_none, o_some, e_sli, es_nil, es_cons, t_cmp, t_chn, t_var, t_call, t_pri, t_cst, t_not, t_and, t_or, tand_nil, tand_cons, tor_nil, tor_cons, cond_none, cond_some, tru_bl, tru_int, itOf_lst, itOf_tup, i_seq, i_rg1, i_rg2, enD_lst, enD_tup, i_enum, zipD_lst, zipD_tup, i_zip, s_fr, c_eqI, c_neI, c_ltI, c_leI, c_gtI, c_geI, c_is, c_isn, ar_add, ar_sub, p_lenT, p_lenL, p_tuple, p_tupleT, p_list, p_listL, p_sorted, p_min2, p_max2, p_sumT, p_sumL, p_all, p_any, k_and, k_or, k_andT, k_orT, k_opt, k_lim, beq_nat, lim1, lim0, lim2, lim3, lim4, isTu_tup, isW_int, List.set_cons_zero, List.set_cons_succ, Option.map_some, Option.map_none, cond_true, cond_false, Bool.not_true, Bool.not_false, List.length_cons, List.length_nil, List.length_map, reduceIte, Bool.true_and, Bool.and_true, Bool.false_and, Bool.and_false, Bool.or_true, Bool.true_or, Bool.false_or, Bool.or_false, Bool.false_eq_true, e1, e2, e3, same_tt]
theorem lc_3 {ns : List Int} {b : List Nat} (g : Good b) (S : Sto) : evC C d28c3 ⟨[0], [some (.scr ns), some (.ref 0), some (bx b), some (dP b), some (.int b.sum), some (dR b), none, none, none, none, none, none, none, none, none, none, none, none, none, none]⟩ S = .ok (((List.range (b.sum + 1)).filter fun k => !((rkOf b).getD k 0 == (rkOf b).getD (b.sum - k) 0)).map fun (k : Nat) => D.int k) S := by
  have hs : b.sum ≤ 20 := by have := Good.sum_le g.side; have := g.h5; omega
  have i1 : (b.sum : Int) + 1 = ((b.sum + 1 : Nat) : Int) := by omega
  have r1 := rg1_of S (n := b.sum + 1) (by omega)
  refine lc_fil (e := fun (k : Nat) => D.int k) (xs := List.range (b.sum + 1)) (by simp only [b_ok, b_ex, b_bad, bnd_b, ret_ap, bad_ap, ofO_some, ofO_none, getV_cons, getV_zero, nxt_nx, nxt_ret, nxt_brk, nxt_cnt, s_nil, s_cons, s_asg, a_nm, s_ex, s_ret, s_retN, s_iff, s_pas, s_brk, s_cnt, s_rai, e_var, e_cst, e_glo, e_bin, negD_int, e_neg, e_cmp, e_chn, notD_bl, e_not, isB_bl, e_and, e_or, and_nil, and_cons, or_nil, or_cons, e_ite, e_tup, limM_b, e_ls, e_mk, l_ls, l_cat, repD_int, l_rep, l_lc, l_of, e_call, e_pri, e_idx, e_lc, e_rev, revTD_tup, e_revT, toI_int, o_none, o_some, e_sli, es_nil, es_cons, t_cmp, t_chn, t_var, t_call, t_pri, t_cst, t_not, t_and, t_or, tand_nil, tand_cons, tor_nil, tor_cons, cond_none, cond_some, tru_bl, tru_int, itOf_lst, itOf_tup, i_seq, i_rg1, i_rg2, enD_lst, enD_tup, i_enum, zipD_lst, zipD_tup, i_zip, s_fr, c_eqI, c_neI, c_ltI, c_leI, c_gtI, c_geI, c_is, c_isn, ar_add, ar_sub, p_lenT, p_lenL, p_tuple, p_tupleT, p_list, p_listL, p_sorted, p_min2, p_max2, p_sumT, p_sumL, p_all, p_any, k_and, k_or, k_andT, k_orT, k_opt, k_lim, beq_nat, lim1, lim0, lim2, lim3, lim4, isTu_tup, isW_int, List.set_cons_zero, List.set_cons_succ, Option.map_some, Option.map_none, cond_true, cond_false, Bool.not_true, Bool.not_false, List.length_cons, List.length_nil, List.length_map, reduceIte, Bool.true_and, Bool.and_true, Bool.false_and, Bool.and_false, Bool.or_true, Bool.true_or, Bool.false_or, Bool.or_false, Bool.false_eq_true, i1, r1]) (fun k hk => ?_) (by rw [List.length_range]; show _ ≤ 1000000; omega)
  have hk := List.mem_range.mp hk
  have i2 : (b.sum : Int) - k = ((b.sum - k : Nat) : Int) := by omega
  have g1 := idx_tup S ((rkOf b).map D.int) k _ (getE (by rw [rk_len]; omega))
  have g2 := idx_tup S ((rkOf b).map D.int) (b.sum - k) _ (getE (by rw [rk_len]; omega))
  simp only [cB_nm, b_ok, b_ex, b_bad, bnd_b, ret_ap, bad_ap, ofO_some, ofO_none, getV_cons, getV_zero, nxt_nx, nxt_ret, nxt_brk, nxt_cnt, s_nil, s_cons, s_asg, a_nm, s_ex, s_ret, s_retN, s_iff, s_pas, s_brk, s_cnt, s_rai, e_var, e_cst, e_glo, e_bin, negD_int, e_neg, e_cmp, e_chn, notD_bl, e_not, isB_bl, e_and, e_or, and_nil, and_cons, or_nil, or_cons, e_ite, e_tup, limM_b, e_ls, e_mk, l_ls, l_cat, repD_int, l_rep, l_lc, l_of, e_call, e_pri, e_idx, e_lc, e_rev, revTD_tup, e_revT, toI_int, o_none, o_some, e_sli, es_nil, es_cons, t_cmp, t_chn, t_var, t_call, t_pri, t_cst, t_not, t_and, t_or, tand_nil, tand_cons, tor_nil, tor_cons, cond_none, cond_some, tru_bl, tru_int, itOf_lst, itOf_tup, i_seq, i_rg1, i_rg2, enD_lst, enD_tup, i_enum, zipD_lst, zipD_tup, i_zip, s_fr, c_eqI, c_neI, c_ltI, c_leI, c_gtI, c_geI, c_is, c_isn, ar_add, ar_sub, p_lenT, p_lenL, p_tuple, p_tupleT, p_list, p_listL, p_sorted, p_min2, p_max2, p_sumT, p_sumL, p_all, p_any, k_and, k_or, k_andT, k_orT, k_opt, k_lim, beq_nat, lim1, lim0, lim2, lim3, lim4, isTu_tup, isW_int, List.set_cons_zero, List.set_cons_succ, Option.map_some, Option.map_none, cond_true, cond_false, Bool.not_true, Bool.not_false, List.length_cons, List.length_nil, List.length_map, reduceIte, Bool.true_and, Bool.and_true, Bool.false_and, Bool.and_false, Bool.or_true, Bool.true_or, Bool.false_or, Bool.or_false, Bool.false_eq_true, i2, g1, g2]
theorem lc_2 {ns : List Int} {b : List Nat} (g : Good b) (S : Sto) : evC C d28c2 ⟨[0], [some (.scr ns), some (.ref 0), some (bx b), some (dP b), some (.int b.sum), some (dR b), none, none, none, none, none, none, none, none, none, none, none, none, none, none]⟩ S = .ok (((List.range (b.sum / 2)).filter fun k => !(decide ((rkOf b).getD k 0 ≤ (rkOf b).getD (k + 1) 0))).map fun (k : Nat) => D.int k) S := by
  have hs : b.sum ≤ 20 := by have := Good.sum_le g.side; have := g.h5; omega
  have i1 : ((b.sum : Nat) : Int).fdiv 2 = ((b.sum / 2 : Nat) : Int) := by rw [Int.fdiv_eq_ediv_of_nonneg _ (by decide)]; omega
  have e0 := ar_fdiv S (i := ((b.sum : Nat) : Int)) (j := 2) (by decide) (by decide)
  rw [i1] at e0
  have r1 := rg1_of S (n := b.sum / 2) (by omega)
  refine lc_fil (e := fun (k : Nat) => D.int k) (xs := List.range (b.sum / 2)) (by simp only [b_ok, b_ex, b_bad, bnd_b, ret_ap, bad_ap, ofO_some, ofO_none, getV_cons, getV_zero, nxt_nx, nxt_ret, nxt_brk, nxt_cnt, s_nil, s_cons, s_asg, a_nm, s_ex, s_ret, s_retN, s_iff, s_pas, s_brk, s_cnt, s_rai, e_var, e_cst, e_glo, e_bin, negD_int, e_neg, e_cmp, e_chn, notD_bl, e_not, isB_bl, e_and, e_or, and_nil, and_cons, or_nil, or_cons, e_ite, e_tup, limM_b, e_ls, e_mk, l_ls, l_cat, repD_int, l_rep, l_lc, l_of, e_call, e_pri, e_idx, e_lc, e_rev, revTD_tup, e_revT, toI_int, o_none, o_some, e_sli, es_nil, es_cons, t_cmp, t_chn, t_var, t_call, t_pri, t_cst, t_not, t_and, t_or, tand_nil, tand_cons, tor_nil, tor_cons, cond_none, cond_some, tru_bl, tru_int, itOf_lst, itOf_tup, i_seq, i_rg1, i_rg2, enD_lst, enD_tup, i_enum, zipD_lst, zipD_tup, i_zip, s_fr, c_eqI, c_neI, c_ltI, c_leI, c_gtI, c_geI, c_is, c_isn, ar_add, ar_sub, p_lenT, p_lenL, p_tuple, p_tupleT, p_list, p_listL, p_sorted, p_min2, p_max2, p_sumT, p_sumL, p_all, p_any, k_and, k_or, k_andT, k_orT, k_opt, k_lim, beq_nat, lim1, lim0, lim2, lim3, lim4, isTu_tup, isW_int, List.set_cons_zero, List.set_cons_succ, Option.map_some, Option.map_none, cond_true, cond_false, Bool.not_true, Bool.not_false, List.length_cons, List.length_nil, List.length_map, reduceIte, Bool.true_and, Bool.and_true, Bool.false_and, Bool.and_false, Bool.or_true, Bool.true_or, Bool.false_or, Bool.or_false, Bool.false_eq_true, e0, r1]) (fun k hk => ?_) (by rw [List.length_range]; show _ ≤ 1000000; omega)
  have hk := List.mem_range.mp hk
  have i2 : (k : Int) + 1 = ((k + 1 : Nat) : Int) := by omega
  have g1 := idx_tup S ((rkOf b).map D.int) k _ (getE (by rw [rk_len]; omega))
  have g2 := idx_tup S ((rkOf b).map D.int) (k + 1) _ (getE (by rw [rk_len]; omega))
  have i3 : decide ((rkOf b).getD (k + 1) 0 < (rkOf b).getD k 0) = !decide ((rkOf b).getD k 0 ≤ (rkOf b).getD (k + 1) 0) := by
    rw [Bool.eq_iff_iff]
    simp
  simp only [cB_nm, b_ok, b_ex, b_bad, bnd_b, ret_ap, bad_ap, ofO_some, ofO_none, getV_cons, getV_zero, nxt_nx, nxt_ret, nxt_brk, nxt_cnt, s_nil, s_cons, s_asg, a_nm, s_ex, s_ret, s_retN, s_iff, s_pas, s_brk, s_cnt, s_rai, e_var, e_cst, e_glo, e_bin, negD_int, e_neg, e_cmp, e_chn, notD_bl, e_not, isB_bl, e_and, e_or, and_nil, and_cons, or_nil, or_cons, e_ite, e_tup, limM_b, e_ls, e_mk, l_ls, l_cat, repD_int, l_rep, l_lc, l_of, e_call, e_pri, e_idx, e_lc, e_rev, revTD_tup, e_revT, toI_int, o_none, o_some, e_sli, es_nil, es_cons, t_cmp, t_chn, t_var, t_call, t_pri, t_cst, t_not, t_and, t_or, tand_nil, tand_cons, tor_nil, tor_cons, cond_none, cond_some, tru_bl, tru_int, itOf_lst, itOf_tup, i_seq, i_rg1, i_rg2, enD_lst, enD_tup, i_enum, zipD_lst, zipD_tup, i_zip, s_fr, c_eqI, c_neI, c_ltI, c_leI, c_gtI, c_geI, c_is, c_isn, ar_add, ar_sub, p_lenT, p_lenL, p_tuple, p_tupleT, p_list, p_listL, p_sorted, p_min2, p_max2, p_sumT, p_sumL, p_all, p_any, k_and, k_or, k_andT, k_orT, k_opt, k_lim, beq_nat, lim1, lim0, lim2, lim3, lim4, isTu_tup, isW_int, List.set_cons_zero, List.set_cons_succ, Option.map_some, Option.map_none, cond_true, cond_false, Bool.not_true, Bool.not_false, List.length_cons, List.length_nil, List.length_map, reduceIte, Bool.true_and, Bool.and_true, Bool.false_and, Bool.and_false, Bool.or_true, Bool.true_or, Bool.false_or, Bool.or_false, Bool.false_eq_true, i2, g1, g2, i3]
theorem t6 (ns : List Int) {b : List Nat} (g : Good b) (S : Sto) : xs C [0] d28s6 [some (.scr ns), some (.ref 0), some (bx b), some (dP b), some (.int b.sum), some (dR b), none, none, none, none, none, none, none, none, none, none, none, none, none, none] S = .ok (.nx, [some (.scr ns), some (.ref 0), some (bx b), some (dP b), some (.int b.sum), some (dR b), none, none, none, none, none, none, none, none, none, none, none, none, none, none]) S := by
  have e3 := c_ne_nil S (int_ok (fun (k : Nat) => (k : Int)) ((List.range (b.sum + 1)).filter fun k => !((rkOf b).getD k 0 == (rkOf b).getD (b.sum - k) 0)))
  have n3 : ((List.range (b.sum + 1)).filter fun k => !((rkOf b).getD k 0 == (rkOf b).getD (b.sum - k) 0)).isEmpty = true := by
    rw [filter_empty, range_all_iff]
    intro k hk
    rw [rk_get, rk_get, beq_iff_eq, cnt_turn b k, show ((b.sum : Int) - k) = ((b.sum - k : Nat) : Int) by omega]
  rw [List.isEmpty_map, n3] at e3
  have e2 := c_ne_nil S (int_ok (fun (k : Nat) => (k : Int)) ((List.range (b.sum / 2)).filter fun k => !(decide ((rkOf b).getD k 0 ≤ (rkOf b).getD (k + 1) 0))))
  have n2 : ((List.range (b.sum / 2)).filter fun k => !(decide ((rkOf b).getD k 0 ≤ (rkOf b).getD (k + 1) 0))).isEmpty = true := by
    rw [filter_empty, range_all_iff]
    intro k hk
    rw [rk_get, rk_get, decide_eq_true_iff]
    have := cnt_rise b k (by omega)
    have i : ((k + 1 : Nat) : Int) = (k : Int) + 1 := by omega
    rw [i]
    omega
  rw [List.isEmpty_map, n2] at e2
  simp only [d28s6, b_ok, b_ex, b_bad, bnd_b, ret_ap, bad_ap, ofO_some, ofO_none, getV_cons, getV_zero, nxt_nx, nxt_ret, nxt_brk, nxt_cnt, s_nil, s_cons, s_asg, a_nm, s_ex, s_ret, s_retN, s_iff, s_pas, s_brk, s_cnt, s_rai, e_var, e_cst, e_glo, e_bin, negD_int, e_neg, e_cmp, e_chn, notD_bl, e_not, isB_bl, e_and, e_or, and_nil, and_cons, or_nil, or_cons, e_ite, e_tup, limM_b, e_ls, e_mk, l_ls, l_cat, repD_int, l_rep, l_lc, l_of, e_call, e_pri, e_idx, e_lc, e_rev, revTD_tup, e_revT, toI_int, o_none, o_some, e_sli, es_nil, es_cons, t_cmp, t_chn, t_var, t_call, t_pri, t_cst, t_not, t_and, t_or, tand_nil, tand_cons, tor_nil, tor_cons, cond_none, cond_some, tru_bl, tru_int, itOf_lst, itOf_tup, i_seq, i_rg1, i_rg2, enD_lst, enD_tup, i_enum, zipD_lst, zipD_tup, i_zip, s_fr, c_eqI, c_neI, c_ltI, c_leI, c_gtI, c_geI, c_is, c_isn, ar_add, ar_sub, p_lenT, p_lenL, p_tuple, p_tupleT, p_list, p_listL, p_sorted, p_min2, p_max2, p_sumT, p_sumL, p_all, p_any, k_and, k_or, k_andT, k_orT, k_opt, k_lim, beq_nat, lim1, lim0, lim2, lim3, lim4, isTu_tup, isW_int, List.set_cons_zero, List.set_cons_succ, Option.map_some, Option.map_none, cond_true, cond_false, Bool.not_true, Bool.not_false, List.length_cons, List.length_nil, List.length_map, reduceIte, Bool.true_and, Bool.and_true, Bool.false_and, Bool.and_false, Bool.or_true, Bool.true_or, Bool.false_or, Bool.or_false, Bool.false_eq_true, lc_3 g S, lc_2 g S, e3, e2]
theorem t7 (ns : List Int) {b : List Nat} (g : Good b) (S : Sto) : xs C [0] d28s7 [some (.scr ns), some (.ref 0), some (bx b), some (dP b), some (.int b.sum), some (dR b), none, none, none, none, none, none, none, none, none, none, none, none, none, none] S = .ok (.nx, [some (.scr ns), some (.ref 0), some (bx b), some (dP b), some (.int b.sum), some (dR b), some (dM b), none, none, none, none, none, none, none, none, none, none, none, none, none]) S := by
  have i1 : ((b.sum : Nat) : Int).fdiv 2 = ((b.sum / 2 : Nat) : Int) := by rw [Int.fdiv_eq_ediv_of_nonneg _ (by decide)]; omega
  have e0 := ar_fdiv S (i := ((b.sum : Nat) : Int)) (j := 2) (by decide) (by decide)
  rw [i1] at e0
  have e : evC C d28c4 ⟨[0], [some (.scr ns), some (.ref 0), some (bx b), some (dP b), some (.int b.sum), some (dR b), none, none, none, none, none, none, none, none, none, none, none, none, none, none]⟩ S = .ok ((midOf b).map pt) S :=
    lc_fil (e := pt) (xs := ptsOf b) (by simp only [b_ok, b_ex, b_bad, bnd_b, ret_ap, bad_ap, ofO_some, ofO_none, getV_cons, getV_zero, nxt_nx, nxt_ret, nxt_brk, nxt_cnt, s_nil, s_cons, s_asg, a_nm, s_ex, s_ret, s_retN, s_iff, s_pas, s_brk, s_cnt, s_rai, e_var, e_cst, e_glo, e_bin, negD_int, e_neg, e_cmp, e_chn, notD_bl, e_not, isB_bl, e_and, e_or, and_nil, and_cons, or_nil, or_cons, e_ite, e_tup, limM_b, e_ls, e_mk, l_ls, l_cat, repD_int, l_rep, l_lc, l_of, e_call, e_pri, e_idx, e_lc, e_rev, revTD_tup, e_revT, toI_int, o_none, o_some, e_sli, es_nil, es_cons, t_cmp, t_chn, t_var, t_call, t_pri, t_cst, t_not, t_and, t_or, tand_nil, tand_cons, tor_nil, tor_cons, cond_none, cond_some, tru_bl, tru_int, itOf_lst, itOf_tup, i_seq, i_rg1, i_rg2, enD_lst, enD_tup, i_enum, zipD_lst, zipD_tup, i_zip, s_fr, c_eqI, c_neI, c_ltI, c_leI, c_gtI, c_geI, c_is, c_isn, ar_add, ar_sub, p_lenT, p_lenL, p_tuple, p_tupleT, p_list, p_listL, p_sorted, p_min2, p_max2, p_sumT, p_sumL, p_all, p_any, k_and, k_or, k_andT, k_orT, k_opt, k_lim, beq_nat, lim1, lim0, lim2, lim3, lim4, isTu_tup, isW_int, List.set_cons_zero, List.set_cons_succ, Option.map_some, Option.map_none, cond_true, cond_false, Bool.not_true, Bool.not_false, List.length_cons, List.length_nil, List.length_map, reduceIte, Bool.true_and, Bool.and_true, Bool.false_and, Bool.and_false, Bool.or_true, Bool.true_or, Bool.false_or, Bool.or_false, Bool.false_eq_true]) (fun p _ => by simp only [cB_nm, b_ok, b_ex, b_bad, bnd_b, ret_ap, bad_ap, ofO_some, ofO_none, getV_cons, getV_zero, nxt_nx, nxt_ret, nxt_brk, nxt_cnt, s_nil, s_cons, s_asg, a_nm, s_ex, s_ret, s_retN, s_iff, s_pas, s_brk, s_cnt, s_rai, e_var, e_cst, e_glo, e_bin, negD_int, e_neg, e_cmp, e_chn, notD_bl, e_not, isB_bl, e_and, e_or, and_nil, and_cons, or_nil, or_cons, e_ite, e_tup, limM_b, e_ls, e_mk, l_ls, l_cat, repD_int, l_rep, l_lc, l_of, e_call, e_pri, e_idx, e_lc, e_rev, revTD_tup, e_revT, toI_int, o_none, o_some, e_sli, es_nil, es_cons, t_cmp, t_chn, t_var, t_call, t_pri, t_cst, t_not, t_and, t_or, tand_nil, tand_cons, tor_nil, tor_cons, cond_none, cond_some, tru_bl, tru_int, itOf_lst, itOf_tup, i_seq, i_rg1, i_rg2, enD_lst, enD_tup, i_enum, zipD_lst, zipD_tup, i_zip, s_fr, c_eqI, c_neI, c_ltI, c_leI, c_gtI, c_geI, c_is, c_isn, ar_add, ar_sub, p_lenT, p_lenL, p_tuple, p_tupleT, p_list, p_listL, p_sorted, p_min2, p_max2, p_sumT, p_sumL, p_all, p_any, k_and, k_or, k_andT, k_orT, k_opt, k_lim, beq_nat, lim1, lim0, lim2, lim3, lim4, isTu_tup, isW_int, List.set_cons_zero, List.set_cons_succ, Option.map_some, Option.map_none, cond_true, cond_false, Bool.not_true, Bool.not_false, List.length_cons, List.length_nil, List.length_map, reduceIte, Bool.true_and, Bool.and_true, Bool.false_and, Bool.and_false, Bool.or_true, Bool.true_or, Bool.false_or, Bool.or_false, Bool.false_eq_true, e0]) (by have := pts_le g; show _ ≤ 1000000; omega)
  simp only [d28s7, b_ok, b_ex, b_bad, bnd_b, ret_ap, bad_ap, ofO_some, ofO_none, getV_cons, getV_zero, nxt_nx, nxt_ret, nxt_brk, nxt_cnt, s_nil, s_cons, s_asg, a_nm, s_ex, s_ret, s_retN, s_iff, s_pas, s_brk, s_cnt, s_rai, e_var, e_cst, e_glo, e_bin, negD_int, e_neg, e_cmp, e_chn, notD_bl, e_not, isB_bl, e_and, e_or, and_nil, and_cons, or_nil, or_cons, e_ite, e_tup, limM_b, e_ls, e_mk, l_ls, l_cat, repD_int, l_rep, l_lc, l_of, e_call, e_pri, e_idx, e_lc, e_rev, revTD_tup, e_revT, toI_int, o_none, o_some, e_sli, es_nil, es_cons, t_cmp, t_chn, t_var, t_call, t_pri, t_cst, t_not, t_and, t_or, tand_nil, tand_cons, tor_nil, tor_cons, cond_none, cond_some, tru_bl, tru_int, itOf_lst, itOf_tup, i_seq, i_rg1, i_rg2, enD_lst, enD_tup, i_enum, zipD_lst, zipD_tup, i_zip, s_fr, c_eqI, c_neI, c_ltI, c_leI, c_gtI, c_geI, c_is, c_isn, ar_add, ar_sub, p_lenT, p_lenL, p_tuple, p_tupleT, p_list, p_listL, p_sorted, p_min2, p_max2, p_sumT, p_sumL, p_all, p_any, k_and, k_or, k_andT, k_orT, k_opt, k_lim, beq_nat, lim1, lim0, lim2, lim3, lim4, isTu_tup, isW_int, List.set_cons_zero, List.set_cons_succ, Option.map_some, Option.map_none, cond_true, cond_false, Bool.not_true, Bool.not_false, List.length_cons, List.length_nil, List.length_map, reduceIte, Bool.true_and, Bool.and_true, Bool.false_and, Bool.and_false, Bool.or_true, Bool.true_or, Bool.false_or, Bool.or_false, Bool.false_eq_true, e]
theorem t8 (ns : List Int) {b : List Nat} (g : Good b) (S : Sto) : xs C [0] d28s8 [some (.scr ns), some (.ref 0), some (bx b), some (dP b), some (.int b.sum), some (dR b), some (dM b), none, none, none, none, none, none, none, none, none, none, none, none, none] S = .ok (.nx, [some (.scr ns), some (.ref 0), some (bx b), some (dP b), some (.int b.sum), some (dR b), some (dM b), none, none, none, none, none, none, none, none, none, none, none, none, none]) S := by
  have e1 := f13 7 [0] S g
  have e2 := f14 7 [0] S g
  have e3 := same_C S (midOf b)
  have e4 : (((chOf b).length : Int) == ((midOf b).length : Int)) = true := by rw [mid_length, beq_iff_eq]
  simp only [d28s8, b_ok, b_ex, b_bad, bnd_b, ret_ap, bad_ap, ofO_some, ofO_none, getV_cons, getV_zero, nxt_nx, nxt_ret, nxt_brk, nxt_cnt, s_nil, s_cons, s_asg, a_nm, s_ex, s_ret, s_retN, s_iff, s_pas, s_brk, s_cnt, s_rai, e_var, e_cst, e_glo, e_bin, negD_int, e_neg, e_cmp, e_chn, notD_bl, e_not, isB_bl, e_and, e_or, and_nil, and_cons, or_nil, or_cons, e_ite, e_tup, limM_b, e_ls, e_mk, l_ls, l_cat, repD_int, l_rep, l_lc, l_of, e_call, e_pri, e_idx, e_lc, e_rev, revTD_tup, e_revT, toI_int, o_none, o_some, e_sli, es_nil, es_cons, t_cmp, t_chn, t_var, t_call, t_pri, t_cst, t_not, t_and, t_or, tand_nil, tand_cons, tor_nil, tor_cons, cond_none, cond_some, tru_bl, tru_int, itOf_lst, itOf_tup, i_seq, i_rg1, i_rg2, enD_lst, enD_tup, i_enum, zipD_lst, zipD_tup, i_zip, s_fr, c_eqI, c_neI, c_ltI, c_leI, c_gtI, c_geI, c_is, c_isn, ar_add, ar_sub, p_lenT, p_lenL, p_tuple, p_tupleT, p_list, p_listL, p_sorted, p_min2, p_max2, p_sumT, p_sumL, p_all, p_any, k_and, k_or, k_andT, k_orT, k_opt, k_lim, beq_nat, lim1, lim0, lim2, lim3, lim4, isTu_tup, isW_int, List.set_cons_zero, List.set_cons_succ, Option.map_some, Option.map_none, cond_true, cond_false, Bool.not_true, Bool.not_false, List.length_cons, List.length_nil, List.length_map, reduceIte, Bool.true_and, Bool.and_true, Bool.false_and, Bool.and_false, Bool.or_true, Bool.true_or, Bool.false_or, Bool.or_false, Bool.false_eq_true, e1, e2, e3]
  rw [mid_length]
  simp only [b_ok, b_ex, b_bad, bnd_b, ret_ap, bad_ap, ofO_some, ofO_none, getV_cons, getV_zero, nxt_nx, nxt_ret, nxt_brk, nxt_cnt, s_nil, s_cons, s_asg, a_nm, s_ex, s_ret, s_retN, s_iff, s_pas, s_brk, s_cnt, s_rai, e_var, e_cst, e_glo, e_bin, negD_int, e_neg, e_cmp, e_chn, notD_bl, e_not, isB_bl, e_and, e_or, and_nil, and_cons, or_nil, or_cons, e_ite, e_tup, limM_b, e_ls, e_mk, l_ls, l_cat, repD_int, l_rep, l_lc, l_of, e_call, e_pri, e_idx, e_lc, e_rev, revTD_tup, e_revT, toI_int, o_none, o_some, e_sli, es_nil, es_cons, t_cmp, t_chn, t_var, t_call, t_pri, t_cst, t_not, t_and, t_or, tand_nil, tand_cons, tor_nil, tor_cons, cond_none, cond_some, tru_bl, tru_int, itOf_lst, itOf_tup, i_seq, i_rg1, i_rg2, enD_lst, enD_tup, i_enum, zipD_lst, zipD_tup, i_zip, s_fr, c_eqI, c_neI, c_ltI, c_leI, c_gtI, c_geI, c_is, c_isn, ar_add, ar_sub, p_lenT, p_lenL, p_tuple, p_tupleT, p_list, p_listL, p_sorted, p_min2, p_max2, p_sumT, p_sumL, p_all, p_any, k_and, k_or, k_andT, k_orT, k_opt, k_lim, beq_nat, lim1, lim0, lim2, lim3, lim4, isTu_tup, isW_int, List.set_cons_zero, List.set_cons_succ, Option.map_some, Option.map_none, cond_true, cond_false, Bool.not_true, Bool.not_false, List.length_cons, List.length_nil, List.length_map, reduceIte, Bool.true_and, Bool.and_true, Bool.false_and, Bool.and_false, Bool.or_true, Bool.true_or, Bool.false_or, Bool.or_false, Bool.false_eq_true, beq_self_eq_true]
theorem t9 (ns : List Int) {b : List Nat} (g : Good b) (S : Sto) : xs C [0] d28s9 [some (.scr ns), some (.ref 0), some (bx b), some (dP b), some (.int b.sum), some (dR b), some (dM b), none, none, none, none, none, none, none, none, none, none, none, none, none] S = .ok (.nx, [some (.scr ns), some (.ref 0), some (bx b), some (dP b), some (.int b.sum), some (dR b), some (dM b), some (dC b), none, none, none, none, none, none, none, none, none, none, none, none]) S := by
  have e := f9 7 [0] S g
  simp only [d28s9, b_ok, b_ex, b_bad, bnd_b, ret_ap, bad_ap, ofO_some, ofO_none, getV_cons, getV_zero, nxt_nx, nxt_ret, nxt_brk, nxt_cnt, s_nil, s_cons, s_asg, a_nm, s_ex, s_ret, s_retN, s_iff, s_pas, s_brk, s_cnt, s_rai, e_var, e_cst, e_glo, e_bin, negD_int, e_neg, e_cmp, e_chn, notD_bl, e_not, isB_bl, e_and, e_or, and_nil, and_cons, or_nil, or_cons, e_ite, e_tup, limM_b, e_ls, e_mk, l_ls, l_cat, repD_int, l_rep, l_lc, l_of, e_call, e_pri, e_idx, e_lc, e_rev, revTD_tup, e_revT, toI_int, o_none, o_some, e_sli, es_nil, es_cons, t_cmp, t_chn, t_var, t_call, t_pri, t_cst, t_not, t_and, t_or, tand_nil, tand_cons, tor_nil, tor_cons, cond_none, cond_some, tru_bl, tru_int, itOf_lst, itOf_tup, i_seq, i_rg1, i_rg2, enD_lst, enD_tup, i_enum, zipD_lst, zipD_tup, i_zip, s_fr, c_eqI, c_neI, c_ltI, c_leI, c_gtI, c_geI, c_is, c_isn, ar_add, ar_sub, p_lenT, p_lenL, p_tuple, p_tupleT, p_list, p_listL, p_sorted, p_min2, p_max2, p_sumT, p_sumL, p_all, p_any, k_and, k_or, k_andT, k_orT, k_opt, k_lim, beq_nat, lim1, lim0, lim2, lim3, lim4, isTu_tup, isW_int, List.set_cons_zero, List.set_cons_succ, Option.map_some, Option.map_none, cond_true, cond_false, Bool.not_true, Bool.not_false, List.length_cons, List.length_nil, List.length_map, reduceIte, Bool.true_and, Bool.and_true, Bool.false_and, Bool.and_false, Bool.or_true, Bool.true_or, Bool.false_or, Bool.or_false, Bool.false_eq_true, e]
theorem t10 (ns : List Int) {b : List Nat} (g : Good b) (S : Sto) : xs C [0] d28s10 [some (.scr ns), some (.ref 0), some (bx b), some (dP b), some (.int b.sum), some (dR b), some (dM b), some (dC b), none, none, none, none, none, none, none, none, none, none, none, none] S = .ok (.nx, [some (.scr ns), some (.ref 0), some (bx b), some (dP b), some (.int b.sum), some (dR b), some (dM b), some (dC b), none, none, none, none, none, none, none, none, none, none, none, none]) S := by
  have hl := told_len g
  have e1 := f26 8 [0] S g (fit_told g)
  have e2 := f12 7 [0] S g (fit_told g)
  rw [takes_told] at e1 e2
  have e3 : ((toldCh b).length == (midOf b).length) = true := by rw [mid_length, (told_perm b).length_eq, beq_iff_eq]
  have e4 : sortedD S (dC b) = some (.lst ((sortE (toldCh b)).map ch)) := sorted_encT (α := Ch) (by decide) (by show _ ≤ 1000000; omega) (by
    have := noEmp_ch fun c hc => (told_even (b := b) hc).ne
    show (noEmp ((toldCh b).map ch) || _) = true
    rw [this] <;> rfl)
  rw [sortE_of_asc (sortE_asc (chOf b))] at e4
  have e5 := same_LC S (toldCh b)
  simp only [d28s10, b_ok, b_ex, b_bad, bnd_b, ret_ap, bad_ap, ofO_some, ofO_none, getV_cons, getV_zero, nxt_nx, nxt_ret, nxt_brk, nxt_cnt, s_nil, s_cons, s_asg, a_nm, s_ex, s_ret, s_retN, s_iff, s_pas, s_brk, s_cnt, s_rai, e_var, e_cst, e_glo, e_bin, negD_int, e_neg, e_cmp, e_chn, notD_bl, e_not, isB_bl, e_and, e_or, and_nil, and_cons, or_nil, or_cons, e_ite, e_tup, limM_b, e_ls, e_mk, l_ls, l_cat, repD_int, l_rep, l_lc, l_of, e_call, e_pri, e_idx, e_lc, e_rev, revTD_tup, e_revT, toI_int, o_none, o_some, e_sli, es_nil, es_cons, t_cmp, t_chn, t_var, t_call, t_pri, t_cst, t_not, t_and, t_or, tand_nil, tand_cons, tor_nil, tor_cons, cond_none, cond_some, tru_bl, tru_int, itOf_lst, itOf_tup, i_seq, i_rg1, i_rg2, enD_lst, enD_tup, i_enum, zipD_lst, zipD_tup, i_zip, s_fr, c_eqI, c_neI, c_ltI, c_leI, c_gtI, c_geI, c_is, c_isn, ar_add, ar_sub, p_lenT, p_lenL, p_tuple, p_tupleT, p_list, p_listL, p_sorted, p_min2, p_max2, p_sumT, p_sumL, p_all, p_any, k_and, k_or, k_andT, k_orT, k_opt, k_lim, beq_nat, lim1, lim0, lim2, lim3, lim4, isTu_tup, isW_int, List.set_cons_zero, List.set_cons_succ, Option.map_some, Option.map_none, cond_true, cond_false, Bool.not_true, Bool.not_false, List.length_cons, List.length_nil, List.length_map, reduceIte, Bool.true_and, Bool.and_true, Bool.false_and, Bool.and_false, Bool.or_true, Bool.true_or, Bool.false_or, Bool.or_false, Bool.false_eq_true, e1, e2, same_tt, e3, e4, e5]
theorem t11 (ns : List Int) {b : List Nat} (g : Good b) {q : Dr} (hq : q.ok) : ∃ (p : List Int) (q1 : Dr), p ∈ ptsOf b ∧ q1.ok ∧ xs C [0] d28s11 [some (.scr ns), some (.ref 0), some (bx b), some (dP b), some (.int b.sum), some (dR b), some (dM b), some (dC b), none, none, none, none, none, none, none, none, none, none, none, none] [q.so] = .ok (.nx, [some (.scr ns), some (.ref 0), some (bx b), some (dP b), some (.int b.sum), some (dR b), some (dM b), some (dC b), some (pt p), none, none, none, none, none, none, none, none, none, none, none]) [q1.so] := by
  have hl := pts_le g
  have h0 : 0 < (ptsOf b).length := by rw [pts_len]; exact size_pos b
  obtain ⟨r, q1, hr, hq1, t⟩ := f17 10 [0] [] (q := q) (ptsOf b).length h0 (by omega) hq
  have t : callF pg FU 11 17 [0] [.ref 0, .int (ptsOf b).length] [q.so] = .ok (.int r) [q1.so] := t
  refine ⟨(ptsOf b)[r], q1, List.getElem_mem hr, hq1, ?_⟩
  have e := idx_lst [q1.so] ((ptsOf b).map pt) r (pt (ptsOf b)[r]) (by rw [List.getElem?_map, List.getElem?_eq_getElem hr] <;> rfl)
  simp only [d28s11, b_ok, b_ex, b_bad, bnd_b, ret_ap, bad_ap, ofO_some, ofO_none, getV_cons, getV_zero, nxt_nx, nxt_ret, nxt_brk, nxt_cnt, s_nil, s_cons, s_asg, a_nm, s_ex, s_ret, s_retN, s_iff, s_pas, s_brk, s_cnt, s_rai, e_var, e_cst, e_glo, e_bin, negD_int, e_neg, e_cmp, e_chn, notD_bl, e_not, isB_bl, e_and, e_or, and_nil, and_cons, or_nil, or_cons, e_ite, e_tup, limM_b, e_ls, e_mk, l_ls, l_cat, repD_int, l_rep, l_lc, l_of, e_call, e_pri, e_idx, e_lc, e_rev, revTD_tup, e_revT, toI_int, o_none, o_some, e_sli, es_nil, es_cons, t_cmp, t_chn, t_var, t_call, t_pri, t_cst, t_not, t_and, t_or, tand_nil, tand_cons, tor_nil, tor_cons, cond_none, cond_some, tru_bl, tru_int, itOf_lst, itOf_tup, i_seq, i_rg1, i_rg2, enD_lst, enD_tup, i_enum, zipD_lst, zipD_tup, i_zip, s_fr, c_eqI, c_neI, c_ltI, c_leI, c_gtI, c_geI, c_is, c_isn, ar_add, ar_sub, p_lenT, p_lenL, p_tuple, p_tupleT, p_list, p_listL, p_sorted, p_min2, p_max2, p_sumT, p_sumL, p_all, p_any, k_and, k_or, k_andT, k_orT, k_opt, k_lim, beq_nat, lim1, lim0, lim2, lim3, lim4, isTu_tup, isW_int, List.set_cons_zero, List.set_cons_succ, Option.map_some, Option.map_none, cond_true, cond_false, Bool.not_true, Bool.not_false, List.length_cons, List.length_nil, List.length_map, reduceIte, Bool.true_and, Bool.and_true, Bool.false_and, Bool.and_false, Bool.or_true, Bool.true_or, Bool.false_or, Bool.or_false, Bool.false_eq_true, t, e]
theorem t12 (ns : List Int) {b : List Nat} (g : Good b) {p : List Int} (hp : p ∈ ptsOf b) (S : Sto) : xs C [0] d28s12 [some (.scr ns), some (.ref 0), some (bx b), some (dP b), some (.int b.sum), some (dR b), some (dM b), some (dC b), some (pt p), none, none, none, none, none, none, none, none, none, none, none] S = .ok (.nx, [some (.scr ns), some (.ref 0), some (bx b), some (dP b), some (.int b.sum), some (dR b), some (dM b), some (dC b), some (pt p), none, none, none, none, none, none, none, none, none, none, none]) S := by
  obtain ⟨c, cs, hc⟩ := thr_pos b hp
  have hl := told_len g
  have e1 := f15 6 [0] S g hp hc
  have e2 : evC C d28c5 ⟨[0], [some (.scr ns), some (.ref 0), some (bx b), some (dP b), some (.int b.sum), some (dR b), some (dM b), some (dC b), some (pt p), none, none, none, none, none, none, none, none, none, none, none]⟩ S = .ok ((thr b p).map ch) S :=
    lc_fil (e := ch) (xs := toldCh b) (by simp only [b_ok, b_ex, b_bad, bnd_b, ret_ap, bad_ap, ofO_some, ofO_none, getV_cons, getV_zero, nxt_nx, nxt_ret, nxt_brk, nxt_cnt, s_nil, s_cons, s_asg, a_nm, s_ex, s_ret, s_retN, s_iff, s_pas, s_brk, s_cnt, s_rai, e_var, e_cst, e_glo, e_bin, negD_int, e_neg, e_cmp, e_chn, notD_bl, e_not, isB_bl, e_and, e_or, and_nil, and_cons, or_nil, or_cons, e_ite, e_tup, limM_b, e_ls, e_mk, l_ls, l_cat, repD_int, l_rep, l_lc, l_of, e_call, e_pri, e_idx, e_lc, e_rev, revTD_tup, e_revT, toI_int, o_none, o_some, e_sli, es_nil, es_cons, t_cmp, t_chn, t_var, t_call, t_pri, t_cst, t_not, t_and, t_or, tand_nil, tand_cons, tor_nil, tor_cons, cond_none, cond_some, tru_bl, tru_int, itOf_lst, itOf_tup, i_seq, i_rg1, i_rg2, enD_lst, enD_tup, i_enum, zipD_lst, zipD_tup, i_zip, s_fr, c_eqI, c_neI, c_ltI, c_leI, c_gtI, c_geI, c_is, c_isn, ar_add, ar_sub, p_lenT, p_lenL, p_tuple, p_tupleT, p_list, p_listL, p_sorted, p_min2, p_max2, p_sumT, p_sumL, p_all, p_any, k_and, k_or, k_andT, k_orT, k_opt, k_lim, beq_nat, lim1, lim0, lim2, lim3, lim4, isTu_tup, isW_int, List.set_cons_zero, List.set_cons_succ, Option.map_some, Option.map_none, cond_true, cond_false, Bool.not_true, Bool.not_false, List.length_cons, List.length_nil, List.length_map, reduceIte, Bool.true_and, Bool.and_true, Bool.false_and, Bool.and_false, Bool.or_true, Bool.true_or, Bool.false_or, Bool.or_false, Bool.false_eq_true]) (fun c _ => by simp only [cB_nm, b_ok, b_ex, b_bad, bnd_b, ret_ap, bad_ap, ofO_some, ofO_none, getV_cons, getV_zero, nxt_nx, nxt_ret, nxt_brk, nxt_cnt, s_nil, s_cons, s_asg, a_nm, s_ex, s_ret, s_retN, s_iff, s_pas, s_brk, s_cnt, s_rai, e_var, e_cst, e_glo, e_bin, negD_int, e_neg, e_cmp, e_chn, notD_bl, e_not, isB_bl, e_and, e_or, and_nil, and_cons, or_nil, or_cons, e_ite, e_tup, limM_b, e_ls, e_mk, l_ls, l_cat, repD_int, l_rep, l_lc, l_of, e_call, e_pri, e_idx, e_lc, e_rev, revTD_tup, e_revT, toI_int, o_none, o_some, e_sli, es_nil, es_cons, t_cmp, t_chn, t_var, t_call, t_pri, t_cst, t_not, t_and, t_or, tand_nil, tand_cons, tor_nil, tor_cons, cond_none, cond_some, tru_bl, tru_int, itOf_lst, itOf_tup, i_seq, i_rg1, i_rg2, enD_lst, enD_tup, i_enum, zipD_lst, zipD_tup, i_zip, s_fr, c_eqI, c_neI, c_ltI, c_leI, c_gtI, c_geI, c_is, c_isn, ar_add, ar_sub, p_lenT, p_lenL, p_tuple, p_tupleT, p_list, p_listL, p_sorted, p_min2, p_max2, p_sumT, p_sumL, p_all, p_any, k_and, k_or, k_andT, k_orT, k_opt, k_lim, beq_nat, lim1, lim0, lim2, lim3, lim4, isTu_tup, isW_int, List.set_cons_zero, List.set_cons_succ, Option.map_some, Option.map_none, cond_true, cond_false, Bool.not_true, Bool.not_false, List.length_cons, List.length_nil, List.length_map, reduceIte, Bool.true_and, Bool.and_true, Bool.false_and, Bool.and_false, Bool.or_true, Bool.true_or, Bool.false_or, Bool.or_false, Bool.false_eq_true, c_in]) (by show _ ≤ 1000000; omega)
  have e3 : idxD S (.lst ((thr b p).map ch)) (.int 0) = some (ch c) := by rw [hc] <;> rfl
  have e4 := same_C S c
  simp only [d28s12, b_ok, b_ex, b_bad, bnd_b, ret_ap, bad_ap, ofO_some, ofO_none, getV_cons, getV_zero, nxt_nx, nxt_ret, nxt_brk, nxt_cnt, s_nil, s_cons, s_asg, a_nm, s_ex, s_ret, s_retN, s_iff, s_pas, s_brk, s_cnt, s_rai, e_var, e_cst, e_glo, e_bin, negD_int, e_neg, e_cmp, e_chn, notD_bl, e_not, isB_bl, e_and, e_or, and_nil, and_cons, or_nil, or_cons, e_ite, e_tup, limM_b, e_ls, e_mk, l_ls, l_cat, repD_int, l_rep, l_lc, l_of, e_call, e_pri, e_idx, e_lc, e_rev, revTD_tup, e_revT, toI_int, o_none, o_some, e_sli, es_nil, es_cons, t_cmp, t_chn, t_var, t_call, t_pri, t_cst, t_not, t_and, t_or, tand_nil, tand_cons, tor_nil, tor_cons, cond_none, cond_some, tru_bl, tru_int, itOf_lst, itOf_tup, i_seq, i_rg1, i_rg2, enD_lst, enD_tup, i_enum, zipD_lst, zipD_tup, i_zip, s_fr, c_eqI, c_neI, c_ltI, c_leI, c_gtI, c_geI, c_is, c_isn, ar_add, ar_sub, p_lenT, p_lenL, p_tuple, p_tupleT, p_list, p_listL, p_sorted, p_min2, p_max2, p_sumT, p_sumL, p_all, p_any, k_and, k_or, k_andT, k_orT, k_opt, k_lim, beq_nat, lim1, lim0, lim2, lim3, lim4, isTu_tup, isW_int, List.set_cons_zero, List.set_cons_succ, Option.map_some, Option.map_none, cond_true, cond_false, Bool.not_true, Bool.not_false, List.length_cons, List.length_nil, List.length_map, reduceIte, Bool.true_and, Bool.and_true, Bool.false_and, Bool.and_false, Bool.or_true, Bool.true_or, Bool.false_or, Bool.or_false, Bool.false_eq_true, e1, e2, e3, e4]
theorem fit_v {x : D} (h1 : isDt x = true) (h2 : depD x ≤ 40) (h3 : isTu x = false) : Fit x := ⟨h1, h2, fun l e => by rw [e] at h3; cases h3⟩
theorem t13 (ns : List Int) {b : List Nat} (g : Good b) (p : List Int) {q : Dr} (hq : q.ok) : ∃ (vs : List D) (q1 : Dr), (∀ x ∈ vs, Fit x) ∧ q1.ok ∧ xs C [0] d28s13 [some (.scr ns), some (.ref 0), some (bx b), some (dP b), some (.int b.sum), some (dR b), some (dM b), some (dC b), some (pt p), none, none, none, none, none, none, none, none, none, none, none] [q.so] = .ok (.nx, [some (.scr ns), some (.ref 0), some (bx b), some (dP b), some (.int b.sum), some (dR b), some (dM b), some (dC b), some (pt p), some (.lst vs), none, none, none, none, none, none, none, none, none, none]) [q1.so] := by
  have hpl := pts_le g
  have hcl := told_len g
  have h0 : 0 < (toldCh b).length := by
    rw [(told_perm b).length_eq]
    cases h : (chOf b).length with
    | zero =>
      have h1 : chOf b = [] := List.eq_nil_of_length_eq_zero h
      have h2 := (chains_of b).2.length_eq
      rw [h1, pts_len] at h2
      have := size_pos b
      simp at h2
      omega
    | succ n => exact Nat.succ_pos n
  have e6 : ∀ S, evC C d28c6 ⟨[0], [some (.scr ns), some (.ref 0), some (bx b), some (dP b), some (.int b.sum), some (dR b), some (dM b), some (dC b), some (pt p), none, none, none, none, none, none, none, none, none, none, none]⟩ S = .ok ((ptsOf b).map fun p => .tup [pt p]) S := fun S =>
    lc_map (e := pt) (xs := ptsOf b) (by simp only [b_ok, b_ex, b_bad, bnd_b, ret_ap, bad_ap, ofO_some, ofO_none, getV_cons, getV_zero, nxt_nx, nxt_ret, nxt_brk, nxt_cnt, s_nil, s_cons, s_asg, a_nm, s_ex, s_ret, s_retN, s_iff, s_pas, s_brk, s_cnt, s_rai, e_var, e_cst, e_glo, e_bin, negD_int, e_neg, e_cmp, e_chn, notD_bl, e_not, isB_bl, e_and, e_or, and_nil, and_cons, or_nil, or_cons, e_ite, e_tup, limM_b, e_ls, e_mk, l_ls, l_cat, repD_int, l_rep, l_lc, l_of, e_call, e_pri, e_idx, e_lc, e_rev, revTD_tup, e_revT, toI_int, o_none, o_some, e_sli, es_nil, es_cons, t_cmp, t_chn, t_var, t_call, t_pri, t_cst, t_not, t_and, t_or, tand_nil, tand_cons, tor_nil, tor_cons, cond_none, cond_some, tru_bl, tru_int, itOf_lst, itOf_tup, i_seq, i_rg1, i_rg2, enD_lst, enD_tup, i_enum, zipD_lst, zipD_tup, i_zip, s_fr, c_eqI, c_neI, c_ltI, c_leI, c_gtI, c_geI, c_is, c_isn, ar_add, ar_sub, p_lenT, p_lenL, p_tuple, p_tupleT, p_list, p_listL, p_sorted, p_min2, p_max2, p_sumT, p_sumL, p_all, p_any, k_and, k_or, k_andT, k_orT, k_opt, k_lim, beq_nat, lim1, lim0, lim2, lim3, lim4, isTu_tup, isW_int, List.set_cons_zero, List.set_cons_succ, Option.map_some, Option.map_none, cond_true, cond_false, Bool.not_true, Bool.not_false, List.length_cons, List.length_nil, List.length_map, reduceIte, Bool.true_and, Bool.and_true, Bool.false_and, Bool.and_false, Bool.or_true, Bool.true_or, Bool.false_or, Bool.or_false, Bool.false_eq_true]) (fun p _ => by simp only [cB_nm, b_ok, b_ex, b_bad, bnd_b, ret_ap, bad_ap, ofO_some, ofO_none, getV_cons, getV_zero, nxt_nx, nxt_ret, nxt_brk, nxt_cnt, s_nil, s_cons, s_asg, a_nm, s_ex, s_ret, s_retN, s_iff, s_pas, s_brk, s_cnt, s_rai, e_var, e_cst, e_glo, e_bin, negD_int, e_neg, e_cmp, e_chn, notD_bl, e_not, isB_bl, e_and, e_or, and_nil, and_cons, or_nil, or_cons, e_ite, e_tup, limM_b, e_ls, e_mk, l_ls, l_cat, repD_int, l_rep, l_lc, l_of, e_call, e_pri, e_idx, e_lc, e_rev, revTD_tup, e_revT, toI_int, o_none, o_some, e_sli, es_nil, es_cons, t_cmp, t_chn, t_var, t_call, t_pri, t_cst, t_not, t_and, t_or, tand_nil, tand_cons, tor_nil, tor_cons, cond_none, cond_some, tru_bl, tru_int, itOf_lst, itOf_tup, i_seq, i_rg1, i_rg2, enD_lst, enD_tup, i_enum, zipD_lst, zipD_tup, i_zip, s_fr, c_eqI, c_neI, c_ltI, c_leI, c_gtI, c_geI, c_is, c_isn, ar_add, ar_sub, p_lenT, p_lenL, p_tuple, p_tupleT, p_list, p_listL, p_sorted, p_min2, p_max2, p_sumT, p_sumL, p_all, p_any, k_and, k_or, k_andT, k_orT, k_opt, k_lim, beq_nat, lim1, lim0, lim2, lim3, lim4, isTu_tup, isW_int, List.set_cons_zero, List.set_cons_succ, Option.map_some, Option.map_none, cond_true, cond_false, Bool.not_true, Bool.not_false, List.length_cons, List.length_nil, List.length_map, reduceIte, Bool.true_and, Bool.and_true, Bool.false_and, Bool.and_false, Bool.or_true, Bool.true_or, Bool.false_or, Bool.or_false, Bool.false_eq_true]) (by show _ ≤ 1000000; omega)
  have i6 : evI C (.rg1 (.cst (.int 6))) ⟨[0], [some (.scr ns), some (.ref 0), some (bx b), some (dP b), some (.int b.sum), some (dR b), some (dM b), some (dC b), some (pt p), none, none, none, none, none, none, none, none, none, none, none]⟩ [q.so] = .ok (.snap ((List.range 6).map fun (k : Nat) => D.int k)) [q.so] := by
    have := rg1_of [q.so] (n := 6) (by decide)
    simp only [b_ok, b_ex, b_bad, bnd_b, ret_ap, bad_ap, ofO_some, ofO_none, getV_cons, getV_zero, nxt_nx, nxt_ret, nxt_brk, nxt_cnt, s_nil, s_cons, s_asg, a_nm, s_ex, s_ret, s_retN, s_iff, s_pas, s_brk, s_cnt, s_rai, e_var, e_cst, e_glo, e_bin, negD_int, e_neg, e_cmp, e_chn, notD_bl, e_not, isB_bl, e_and, e_or, and_nil, and_cons, or_nil, or_cons, e_ite, e_tup, limM_b, e_ls, e_mk, l_ls, l_cat, repD_int, l_rep, l_lc, l_of, e_call, e_pri, e_idx, e_lc, e_rev, revTD_tup, e_revT, toI_int, o_none, o_some, e_sli, es_nil, es_cons, t_cmp, t_chn, t_var, t_call, t_pri, t_cst, t_not, t_and, t_or, tand_nil, tand_cons, tor_nil, tor_cons, cond_none, cond_some, tru_bl, tru_int, itOf_lst, itOf_tup, i_seq, i_rg1, i_rg2, enD_lst, enD_tup, i_enum, zipD_lst, zipD_tup, i_zip, s_fr, c_eqI, c_neI, c_ltI, c_leI, c_gtI, c_geI, c_is, c_isn, ar_add, ar_sub, p_lenT, p_lenL, p_tuple, p_tupleT, p_list, p_listL, p_sorted, p_min2, p_max2, p_sumT, p_sumL, p_all, p_any, k_and, k_or, k_andT, k_orT, k_opt, k_lim, beq_nat, lim1, lim0, lim2, lim3, lim4, isTu_tup, isW_int, List.set_cons_zero, List.set_cons_succ, Option.map_some, Option.map_none, cond_true, cond_false, Bool.not_true, Bool.not_false, List.length_cons, List.length_nil, List.length_map, reduceIte, Bool.true_and, Bool.and_true, Bool.false_and, Bool.and_false, Bool.or_true, Bool.true_or, Bool.false_or, Bool.or_false, Bool.false_eq_true]
    exact this
  obtain ⟨l, S', ⟨q1, hq1, hS⟩, hF, hll, e7⟩ := lc_st (C := C) (elt := .call 27 (.cons (.var 1) (.cons (.var 7) .nil))) (t := .nm 16) (c := .none) (P := fun S => ∃ q : Dr, q.ok ∧ S = [q.so]) (Qd := Fit) i6 (fun k _ S ⟨q, hq, hS⟩ => by
    subst hS
    obtain ⟨z, q', h1, h2, h3⟩ := f27 9 [0] hq h0 hcl (fun c hc => told_cl g hc)
    have h3 : callF pg FU 11 27 [0] [.ref 0, dC b] [q.so] = .ok z [q'.so] := h3
    exact ⟨z, [q'.so], ⟨q', h2, rfl⟩, h1, by simp only [cB_nm, b_ok, b_ex, b_bad, bnd_b, ret_ap, bad_ap, ofO_some, ofO_none, getV_cons, getV_zero, nxt_nx, nxt_ret, nxt_brk, nxt_cnt, s_nil, s_cons, s_asg, a_nm, s_ex, s_ret, s_retN, s_iff, s_pas, s_brk, s_cnt, s_rai, e_var, e_cst, e_glo, e_bin, negD_int, e_neg, e_cmp, e_chn, notD_bl, e_not, isB_bl, e_and, e_or, and_nil, and_cons, or_nil, or_cons, e_ite, e_tup, limM_b, e_ls, e_mk, l_ls, l_cat, repD_int, l_rep, l_lc, l_of, e_call, e_pri, e_idx, e_lc, e_rev, revTD_tup, e_revT, toI_int, o_none, o_some, e_sli, es_nil, es_cons, t_cmp, t_chn, t_var, t_call, t_pri, t_cst, t_not, t_and, t_or, tand_nil, tand_cons, tor_nil, tor_cons, cond_none, cond_some, tru_bl, tru_int, itOf_lst, itOf_tup, i_seq, i_rg1, i_rg2, enD_lst, enD_tup, i_enum, zipD_lst, zipD_tup, i_zip, s_fr, c_eqI, c_neI, c_ltI, c_leI, c_gtI, c_geI, c_is, c_isn, ar_add, ar_sub, p_lenT, p_lenL, p_tuple, p_tupleT, p_list, p_listL, p_sorted, p_min2, p_max2, p_sumT, p_sumL, p_all, p_any, k_and, k_or, k_andT, k_orT, k_opt, k_lim, beq_nat, lim1, lim0, lim2, lim3, lim4, isTu_tup, isW_int, List.set_cons_zero, List.set_cons_succ, Option.map_some, Option.map_none, cond_true, cond_false, Bool.not_true, Bool.not_false, List.length_cons, List.length_nil, List.length_map, reduceIte, Bool.true_and, Bool.and_true, Bool.false_and, Bool.and_false, Bool.or_true, Bool.true_or, Bool.false_or, Bool.or_false, Bool.false_eq_true, h3]⟩) (by decide) ⟨q, hq, rfl⟩
  subst hS
  have e7 : evC C d28c7 ⟨[0], [some (.scr ns), some (.ref 0), some (bx b), some (dP b), some (.int b.sum), some (dR b), some (dM b), some (dC b), some (pt p), none, none, none, none, none, none, none, none, none, none, none]⟩ [q.so] = .ok l [q1.so] := e7
  refine ⟨[.non, .tup [], dC b, .tup ((ptsOf b).map fun p => .tup [pt p]), .tup [.tup ((ptsOf b).map pt)], .tup [.tup []], .int 5] ++ l, q1, fun x hx => ?_, hq1, ?_⟩
  · rcases List.mem_append.mp hx with hx | hx
    · rcases List.mem_cons.mp hx with rfl | hx
      · exact fit_v rfl (by decide) rfl
      rcases List.mem_cons.mp hx with rfl | hx
      · exact fit_tup (fun x hx => by cases hx) (by decide)
      rcases List.mem_cons.mp hx with rfl | hx
      · exact fit_told g
      rcases List.mem_cons.mp hx with rfl | hx
      · refine fit_tup (fun x hx => ?_) (by rw [List.length_map]; omega)
        obtain ⟨y, hy, rfl⟩ := List.mem_map.mp hx
        exact cl_tup (fun z hz => by rcases List.mem_singleton.mp hz with rfl; exact pl_pts g hy) (by show 1 ≤ 500; decide)
      rcases List.mem_cons.mp hx with rfl | hx
      · refine fit_tup (fun x hx => ?_) (by show 1 ≤ 500; decide)
        rcases List.mem_singleton.mp hx with rfl
        refine cl_tup (fun z hz => ?_) (by rw [List.length_map]; omega)
        obtain ⟨y, hy, rfl⟩ := List.mem_map.mp hz
        exact pl_pts g hy
      rcases List.mem_cons.mp hx with rfl | hx
      · refine fit_tup (fun x hx => ?_) (by show 1 ≤ 500; decide)
        rcases List.mem_singleton.mp hx with rfl
        exact cl_tup (fun z hz => by cases hz) (by decide)
      · rcases List.mem_singleton.mp hx with rfl
        exact fit_v rfl (by decide) rfl
    · exact hF x hx
  · have a1 := ar_lst [q1.so] (l := [.non, .tup [], dC b, .tup ((ptsOf b).map fun p => .tup [pt p]), .tup [.tup ((ptsOf b).map pt)], .tup [.tup []], .int 5]) (k := l) (by rw [hll]; exact (by decide : 7 + 6 ≤ 1000000))
    have l7 : limL [D.non, .tup [], dC b, .tup ((ptsOf b).map fun p => .tup [pt p]), .tup [.tup ((ptsOf b).map pt)], .tup [.tup []], .int 5] = true := rfl
    simp only [d28s13, b_ok, b_ex, b_bad, bnd_b, ret_ap, bad_ap, ofO_some, ofO_none, getV_cons, getV_zero, nxt_nx, nxt_ret, nxt_brk, nxt_cnt, s_nil, s_cons, s_asg, a_nm, s_ex, s_ret, s_retN, s_iff, s_pas, s_brk, s_cnt, s_rai, e_var, e_cst, e_glo, e_bin, negD_int, e_neg, e_cmp, e_chn, notD_bl, e_not, isB_bl, e_and, e_or, and_nil, and_cons, or_nil, or_cons, e_ite, e_tup, limM_b, e_ls, e_mk, l_ls, l_cat, repD_int, l_rep, l_lc, l_of, e_call, e_pri, e_idx, e_lc, e_rev, revTD_tup, e_revT, toI_int, o_none, o_some, e_sli, es_nil, es_cons, t_cmp, t_chn, t_var, t_call, t_pri, t_cst, t_not, t_and, t_or, tand_nil, tand_cons, tor_nil, tor_cons, cond_none, cond_some, tru_bl, tru_int, itOf_lst, itOf_tup, i_seq, i_rg1, i_rg2, enD_lst, enD_tup, i_enum, zipD_lst, zipD_tup, i_zip, s_fr, c_eqI, c_neI, c_ltI, c_leI, c_gtI, c_geI, c_is, c_isn, ar_add, ar_sub, p_lenT, p_lenL, p_tuple, p_tupleT, p_list, p_listL, p_sorted, p_min2, p_max2, p_sumT, p_sumL, p_all, p_any, k_and, k_or, k_andT, k_orT, k_opt, k_lim, beq_nat, lim1, lim0, lim2, lim3, lim4, isTu_tup, isW_int, List.set_cons_zero, List.set_cons_succ, Option.map_some, Option.map_none, cond_true, cond_false, Bool.not_true, Bool.not_false, List.length_cons, List.length_nil, List.length_map, reduceIte, Bool.true_and, Bool.and_true, Bool.false_and, Bool.and_false, Bool.or_true, Bool.true_or, Bool.false_or, Bool.or_false, Bool.false_eq_true, e6, l7, e7, a1]
abbrev F14 : D → Vs → M (Fl × Vs) := fun x v => match bindT v (.nm 10) x with
    | some v => xss C [0] d28b0 v
    | none => bad
theorem turn14 {ns : List Int} {b : List Nat} (g : Good b) {p : List Int} {vs : List D} {x : D} (hx : Fit x) (a0 a : Option D) (S : Sto) : F14 x [some (.scr ns), some (.ref 0), some (bx b), some (dP b), some (.int b.sum), some (dR b), some (dM b), some (dC b), some (pt p), some (.lst vs), a0, none, none, none, a, none, none, none, none, none] S = .ok (.nx, [some (.scr ns), some (.ref 0), some (bx b), some (dP b), some (.int b.sum), some (dR b), some (dM b), some (dC b), some (pt p), some (.lst vs), some (x), none, none, none, some (.bl (takesD b x)), none, none, none, none, none]) S := by
  show xss C [0] d28b0 [some (.scr ns), some (.ref 0), some (bx b), some (dP b), some (.int b.sum), some (dR b), some (dM b), some (dC b), some (pt p), some (.lst vs), some (x), none, none, none, a, none, none, none, none, none] S = _
  have e1 := f12 7 [0] S g hx
  have e2 := f26 8 [0] S g hx
  have e3 := p_isi_bool S (d := .bl (takesD b x)) rfl
  have e4 : isBl (.bl (takesD b x)) = true := rfl
  rw [e4] at e3
  have e5 : (takesD b x == takesD b x) = true := beq_self_eq_true _
  simp only [d28b0, b_ok, b_ex, b_bad, bnd_b, ret_ap, bad_ap, ofO_some, ofO_none, getV_cons, getV_zero, nxt_nx, nxt_ret, nxt_brk, nxt_cnt, s_nil, s_cons, s_asg, a_nm, s_ex, s_ret, s_retN, s_iff, s_pas, s_brk, s_cnt, s_rai, e_var, e_cst, e_glo, e_bin, negD_int, e_neg, e_cmp, e_chn, notD_bl, e_not, isB_bl, e_and, e_or, and_nil, and_cons, or_nil, or_cons, e_ite, e_tup, limM_b, e_ls, e_mk, l_ls, l_cat, repD_int, l_rep, l_lc, l_of, e_call, e_pri, e_idx, e_lc, e_rev, revTD_tup, e_revT, toI_int, o_none, o_some, e_sli, es_nil, es_cons, t_cmp, t_chn, t_var, t_call, t_pri, t_cst, t_not, t_and, t_or, tand_nil, tand_cons, tor_nil, tor_cons, cond_none, cond_some, tru_bl, tru_int, itOf_lst, itOf_tup, i_seq, i_rg1, i_rg2, enD_lst, enD_tup, i_enum, zipD_lst, zipD_tup, i_zip, s_fr, c_eqI, c_neI, c_ltI, c_leI, c_gtI, c_geI, c_is, c_isn, ar_add, ar_sub, p_lenT, p_lenL, p_tuple, p_tupleT, p_list, p_listL, p_sorted, p_min2, p_max2, p_sumT, p_sumL, p_all, p_any, k_and, k_or, k_andT, k_orT, k_opt, k_lim, beq_nat, lim1, lim0, lim2, lim3, lim4, isTu_tup, isW_int, List.set_cons_zero, List.set_cons_succ, Option.map_some, Option.map_none, cond_true, cond_false, Bool.not_true, Bool.not_false, List.length_cons, List.length_nil, List.length_map, reduceIte, Bool.true_and, Bool.and_true, Bool.false_and, Bool.and_false, Bool.or_true, Bool.true_or, Bool.false_or, Bool.or_false, Bool.false_eq_true, e1, e2, e3, c_neB, e5]
theorem for14 {ns : List Int} {b : List Nat} (g : Good b) {p : List Int} {vs : List D} (S : Sto) : ∀ (l : List D) (a0 a : Option D), (∀ x ∈ l, Fit x) → ∃ a0' a', forGo F14 l [some (.scr ns), some (.ref 0), some (bx b), some (dP b), some (.int b.sum), some (dR b), some (dM b), some (dC b), some (pt p), some (.lst vs), a0, none, none, none, a, none, none, none, none, none] S = .ok (.nx, [some (.scr ns), some (.ref 0), some (bx b), some (dP b), some (.int b.sum), some (dR b), some (dM b), some (dC b), some (pt p), some (.lst vs), a0', none, none, none, a', none, none, none, none, none]) S
  | [], a0, a, _ => ⟨a0, a, rfl⟩
  | x :: l, a0, a, h => by
    obtain ⟨a0', a', e⟩ := for14 (ns := ns) g (p := p) (vs := vs) S l (some x) (some (.bl (takesD b x))) fun y hy => h y (List.mem_cons_of_mem _ hy)
    exact ⟨a0', a', (forGo_nx (turn14 g (h x List.mem_cons_self) a0 a S)).trans e⟩
theorem t14 (ns : List Int) {b : List Nat} (g : Good b) (p : List Int) {vs : List D} (h : ∀ x ∈ vs, Fit x) (S : Sto) : ∃ a0 a, xs C [0] d28s14 [some (.scr ns), some (.ref 0), some (bx b), some (dP b), some (.int b.sum), some (dR b), some (dM b), some (dC b), some (pt p), some (.lst vs), none, none, none, none, none, none, none, none, none, none] S = .ok (.nx, [some (.scr ns), some (.ref 0), some (bx b), some (dP b), some (.int b.sum), some (dR b), some (dM b), some (dC b), some (pt p), some (.lst vs), a0, none, none, none, a, none, none, none, none, none]) S := by
  obtain ⟨a0, a, e⟩ := for14 (ns := ns) g (p := p) (vs := vs) S vs none none h
  exact ⟨a0, a, s_for (S1 := S) (l := vs) (by simp only [b_ok, b_ex, b_bad, bnd_b, ret_ap, bad_ap, ofO_some, ofO_none, getV_cons, getV_zero, nxt_nx, nxt_ret, nxt_brk, nxt_cnt, s_nil, s_cons, s_asg, a_nm, s_ex, s_ret, s_retN, s_iff, s_pas, s_brk, s_cnt, s_rai, e_var, e_cst, e_glo, e_bin, negD_int, e_neg, e_cmp, e_chn, notD_bl, e_not, isB_bl, e_and, e_or, and_nil, and_cons, or_nil, or_cons, e_ite, e_tup, limM_b, e_ls, e_mk, l_ls, l_cat, repD_int, l_rep, l_lc, l_of, e_call, e_pri, e_idx, e_lc, e_rev, revTD_tup, e_revT, toI_int, o_none, o_some, e_sli, es_nil, es_cons, t_cmp, t_chn, t_var, t_call, t_pri, t_cst, t_not, t_and, t_or, tand_nil, tand_cons, tor_nil, tor_cons, cond_none, cond_some, tru_bl, tru_int, itOf_lst, itOf_tup, i_seq, i_rg1, i_rg2, enD_lst, enD_tup, i_enum, zipD_lst, zipD_tup, i_zip, s_fr, c_eqI, c_neI, c_ltI, c_leI, c_gtI, c_geI, c_is, c_isn, ar_add, ar_sub, p_lenT, p_lenL, p_tuple, p_tupleT, p_list, p_listL, p_sorted, p_min2, p_max2, p_sumT, p_sumL, p_all, p_any, k_and, k_or, k_andT, k_orT, k_opt, k_lim, beq_nat, lim1, lim0, lim2, lim3, lim4, isTu_tup, isW_int, List.set_cons_zero, List.set_cons_succ, Option.map_some, Option.map_none, cond_true, cond_false, Bool.not_true, Bool.not_false, List.length_cons, List.length_nil, List.length_map, reduceIte, Bool.true_and, Bool.and_true, Bool.false_and, Bool.and_false, Bool.or_true, Bool.true_or, Bool.false_or, Bool.or_false, Bool.false_eq_true]) e⟩
theorem t15 (ns : List Int) {b : List Nat} (g : Good b) (p : List Int) (vs : List D) (a0 a : Option D) {q : Dr} (hq : q.ok) : ∃ (z : D) (q1 : Dr), Bad z ∧ q1.ok ∧ xs C [0] d28s15 [some (.scr ns), some (.ref 0), some (bx b), some (dP b), some (.int b.sum), some (dR b), some (dM b), some (dC b), some (pt p), some (.lst vs), a0, none, none, none, a, none, none, none, none, none] [q.so] = .ok (.nx, [some (.scr ns), some (.ref 0), some (bx b), some (dP b), some (.int b.sum), some (dR b), some (dM b), some (dC b), some (pt p), some (.lst vs), a0, some (z), none, none, a, none, none, none, none, none]) [q1.so] := by
  obtain ⟨z, q1, hz, hq1, e⟩ := f23 9 [0] hq g
  have e : callF pg FU 11 23 [0] [.ref 0, bx b] [q.so] = .ok z [q1.so] := e
  exact ⟨z, q1, bad_all g z hz, hq1, by simp only [d28s15, b_ok, b_ex, b_bad, bnd_b, ret_ap, bad_ap, ofO_some, ofO_none, getV_cons, getV_zero, nxt_nx, nxt_ret, nxt_brk, nxt_cnt, s_nil, s_cons, s_asg, a_nm, s_ex, s_ret, s_retN, s_iff, s_pas, s_brk, s_cnt, s_rai, e_var, e_cst, e_glo, e_bin, negD_int, e_neg, e_cmp, e_chn, notD_bl, e_not, isB_bl, e_and, e_or, and_nil, and_cons, or_nil, or_cons, e_ite, e_tup, limM_b, e_ls, e_mk, l_ls, l_cat, repD_int, l_rep, l_lc, l_of, e_call, e_pri, e_idx, e_lc, e_rev, revTD_tup, e_revT, toI_int, o_none, o_some, e_sli, es_nil, es_cons, t_cmp, t_chn, t_var, t_call, t_pri, t_cst, t_not, t_and, t_or, tand_nil, tand_cons, tor_nil, tor_cons, cond_none, cond_some, tru_bl, tru_int, itOf_lst, itOf_tup, i_seq, i_rg1, i_rg2, enD_lst, enD_tup, i_enum, zipD_lst, zipD_tup, i_zip, s_fr, c_eqI, c_neI, c_ltI, c_leI, c_gtI, c_geI, c_is, c_isn, ar_add, ar_sub, p_lenT, p_lenL, p_tuple, p_tupleT, p_list, p_listL, p_sorted, p_min2, p_max2, p_sumT, p_sumL, p_all, p_any, k_and, k_or, k_andT, k_orT, k_opt, k_lim, beq_nat, lim1, lim0, lim2, lim3, lim4, isTu_tup, isW_int, List.set_cons_zero, List.set_cons_succ, Option.map_some, Option.map_none, cond_true, cond_false, Bool.not_true, Bool.not_false, List.length_cons, List.length_nil, List.length_map, reduceIte, Bool.true_and, Bool.and_true, Bool.false_and, Bool.and_false, Bool.or_true, Bool.true_or, Bool.false_or, Bool.or_false, Bool.false_eq_true, e]⟩
theorem t16 (ns : List Int) (b : List Nat) (p : List Int) (vs : List D) (a0 a : Option D) {z : D} (hz : Bad z) (S : Sto) : xs C [0] d28s16 [some (.scr ns), some (.ref 0), some (bx b), some (dP b), some (.int b.sum), some (dR b), some (dM b), some (dC b), some (pt p), some (.lst vs), a0, some (z), none, none, a, none, none, none, none, none] S = .ok (.nx, [some (.scr ns), some (.ref 0), some (bx b), some (dP b), some (.int b.sum), some (dR b), some (dM b), some (dC b), some (pt p), some (.lst vs), a0, some (z), none, none, a, none, none, none, none, none]) S := by
  have e := f2 9 [0] S hz.dt hz.lim
  rw [hz.no] at e
  simp only [d28s16, b_ok, b_ex, b_bad, bnd_b, ret_ap, bad_ap, ofO_some, ofO_none, getV_cons, getV_zero, nxt_nx, nxt_ret, nxt_brk, nxt_cnt, s_nil, s_cons, s_asg, a_nm, s_ex, s_ret, s_retN, s_iff, s_pas, s_brk, s_cnt, s_rai, e_var, e_cst, e_glo, e_bin, negD_int, e_neg, e_cmp, e_chn, notD_bl, e_not, isB_bl, e_and, e_or, and_nil, and_cons, or_nil, or_cons, e_ite, e_tup, limM_b, e_ls, e_mk, l_ls, l_cat, repD_int, l_rep, l_lc, l_of, e_call, e_pri, e_idx, e_lc, e_rev, revTD_tup, e_revT, toI_int, o_none, o_some, e_sli, es_nil, es_cons, t_cmp, t_chn, t_var, t_call, t_pri, t_cst, t_not, t_and, t_or, tand_nil, tand_cons, tor_nil, tor_cons, cond_none, cond_some, tru_bl, tru_int, itOf_lst, itOf_tup, i_seq, i_rg1, i_rg2, enD_lst, enD_tup, i_enum, zipD_lst, zipD_tup, i_zip, s_fr, c_eqI, c_neI, c_ltI, c_leI, c_gtI, c_geI, c_is, c_isn, ar_add, ar_sub, p_lenT, p_lenL, p_tuple, p_tupleT, p_list, p_listL, p_sorted, p_min2, p_max2, p_sumT, p_sumL, p_all, p_any, k_and, k_or, k_andT, k_orT, k_opt, k_lim, beq_nat, lim1, lim0, lim2, lim3, lim4, isTu_tup, isW_int, List.set_cons_zero, List.set_cons_succ, Option.map_some, Option.map_none, cond_true, cond_false, Bool.not_true, Bool.not_false, List.length_cons, List.length_nil, List.length_map, reduceIte, Bool.true_and, Bool.and_true, Bool.false_and, Bool.and_false, Bool.or_true, Bool.true_or, Bool.false_or, Bool.or_false, Bool.false_eq_true, e, same_ff]
theorem t17 (ns : List Int) {b : List Nat} (g : Good b) {p : List Int} (hp : okP b p) (vs : List D) (a0 a : Option D) (z : D) {q : Dr} (hq : q.ok) : ∃ (y : D) (q1 : Dr), Odd b y ∧ q1.ok ∧ xs C [0] d28s17 [some (.scr ns), some (.ref 0), some (bx b), some (dP b), some (.int b.sum), some (dR b), some (dM b), some (dC b), some (pt p), some (.lst vs), a0, some (z), none, none, a, none, none, none, none, none] [q.so] = .ok (.nx, [some (.scr ns), some (.ref 0), some (bx b), some (dP b), some (.int b.sum), some (dR b), some (dM b), some (dC b), some (pt p), some (.lst vs), a0, some (z), some (y), none, a, none, none, none, none, none]) [q1.so] := by
  obtain ⟨r, q1, hr, hq1, t⟩ := f17 10 [0] [] (q := q) 6 (by decide) (by decide) hq
  have t : callF pg FU 11 17 [0] [.ref 0, .int 6] [q.so] = .ok (.int r) [q1.so] := t
  obtain ⟨y, hy, ey⟩ := get_mem (l := oddL b p) (r := r) hr
  refine ⟨y, q1, odd_all g hp y hy, hq1, ?_⟩
  have ey := idx_lst [q1.so] _ r y ey
  have h5 := g.h5
  have hl := hp.1
  have c1 := cut_len (p.map D.int) none (some (-1))
  rw [List.length_map] at c1
  have a1 := ar_tup [q.so] (l := p.map D.int) (k := [.int 0]) (by rw [List.length_map, List.length_singleton]; show _ ≤ 1000000; omega)
  have a2 := ar_tup [q.so] (l := cut (p.map D.int) none (some (-1))) (k := [.int 5]) (by rw [List.length_singleton]; show _ ≤ 1000000; omega)
  have a3 := ar_tup [q.so] (l := cut (p.map D.int) none (some (-1))) (k := [.int (-1)]) (by rw [List.length_singleton]; show _ ≤ 1000000; omega)
  have a4 := rep_tr [q.so] g.h1 h5
  have l6 : limL (oddL b p) = true := rfl
  unfold oddL at ey l6
  simp only [d28s17, b_ok, b_ex, b_bad, bnd_b, ret_ap, bad_ap, ofO_some, ofO_none, getV_cons, getV_zero, nxt_nx, nxt_ret, nxt_brk, nxt_cnt, s_nil, s_cons, s_asg, a_nm, s_ex, s_ret, s_retN, s_iff, s_pas, s_brk, s_cnt, s_rai, e_var, e_cst, e_glo, e_bin, negD_int, e_neg, e_cmp, e_chn, notD_bl, e_not, isB_bl, e_and, e_or, and_nil, and_cons, or_nil, or_cons, e_ite, e_tup, limM_b, e_ls, e_mk, l_ls, l_cat, repD_int, l_rep, l_lc, l_of, e_call, e_pri, e_idx, e_lc, e_rev, revTD_tup, e_revT, toI_int, o_none, o_some, e_sli, es_nil, es_cons, t_cmp, t_chn, t_var, t_call, t_pri, t_cst, t_not, t_and, t_or, tand_nil, tand_cons, tor_nil, tor_cons, cond_none, cond_some, tru_bl, tru_int, itOf_lst, itOf_tup, i_seq, i_rg1, i_rg2, enD_lst, enD_tup, i_enum, zipD_lst, zipD_tup, i_zip, s_fr, c_eqI, c_neI, c_ltI, c_leI, c_gtI, c_geI, c_is, c_isn, ar_add, ar_sub, p_lenT, p_lenL, p_tuple, p_tupleT, p_list, p_listL, p_sorted, p_min2, p_max2, p_sumT, p_sumL, p_all, p_any, k_and, k_or, k_andT, k_orT, k_opt, k_lim, beq_nat, lim1, lim0, lim2, lim3, lim4, isTu_tup, isW_int, List.set_cons_zero, List.set_cons_succ, Option.map_some, Option.map_none, cond_true, cond_false, Bool.not_true, Bool.not_false, List.length_cons, List.length_nil, List.length_map, reduceIte, Bool.true_and, Bool.and_true, Bool.false_and, Bool.and_false, Bool.or_true, Bool.true_or, Bool.false_or, Bool.or_false, Bool.false_eq_true, sl_tup, a1, a2, a3, a4, l6, t, ey]
def callL (b : List Nat) (z y : D) (p : List Int) : List D := ((List.range 6).map fun (k : Nat) => cal k z (pt p)) ++ [cal 5 (bx b) y]
theorem t18 (ns : List Int) (b : List Nat) (p : List Int) (vs : List D) (a0 a : Option D) (z y : D) (S : Sto) : xs C [0] d28s18 [some (.scr ns), some (.ref 0), some (bx b), some (dP b), some (.int b.sum), some (dR b), some (dM b), some (dC b), some (pt p), some (.lst vs), a0, some (z), some (y), none, a, none, none, none, none, none] S = .ok (.nx, [some (.scr ns), some (.ref 0), some (bx b), some (dP b), some (.int b.sum), some (dR b), some (dM b), some (dC b), some (pt p), some (.lst vs), a0, some (z), some (y), some (.lst (callL b z y p)), a, none, none, none, none, none]) S := by
  have i6 : rg1D S (.int 6) = .ok (.snap ((List.range 6).map fun (k : Nat) => D.int k)) S := rg1_of S (n := 6) (by decide)
  have e : evC C d28c8 ⟨[0], [some (.scr ns), some (.ref 0), some (bx b), some (dP b), some (.int b.sum), some (dR b), some (dM b), some (dC b), some (pt p), some (.lst vs), a0, some (z), some (y), none, a, none, none, none, none, none]⟩ S = .ok ((List.range 6).map fun (k : Nat) => cal k z (pt p)) S :=
    lc_map (e := fun (k : Nat) => D.int k) (xs := List.range 6) (by simp only [b_ok, b_ex, b_bad, bnd_b, ret_ap, bad_ap, ofO_some, ofO_none, getV_cons, getV_zero, nxt_nx, nxt_ret, nxt_brk, nxt_cnt, s_nil, s_cons, s_asg, a_nm, s_ex, s_ret, s_retN, s_iff, s_pas, s_brk, s_cnt, s_rai, e_var, e_cst, e_glo, e_bin, negD_int, e_neg, e_cmp, e_chn, notD_bl, e_not, isB_bl, e_and, e_or, and_nil, and_cons, or_nil, or_cons, e_ite, e_tup, limM_b, e_ls, e_mk, l_ls, l_cat, repD_int, l_rep, l_lc, l_of, e_call, e_pri, e_idx, e_lc, e_rev, revTD_tup, e_revT, toI_int, o_none, o_some, e_sli, es_nil, es_cons, t_cmp, t_chn, t_var, t_call, t_pri, t_cst, t_not, t_and, t_or, tand_nil, tand_cons, tor_nil, tor_cons, cond_none, cond_some, tru_bl, tru_int, itOf_lst, itOf_tup, i_seq, i_rg1, i_rg2, enD_lst, enD_tup, i_enum, zipD_lst, zipD_tup, i_zip, s_fr, c_eqI, c_neI, c_ltI, c_leI, c_gtI, c_geI, c_is, c_isn, ar_add, ar_sub, p_lenT, p_lenL, p_tuple, p_tupleT, p_list, p_listL, p_sorted, p_min2, p_max2, p_sumT, p_sumL, p_all, p_any, k_and, k_or, k_andT, k_orT, k_opt, k_lim, beq_nat, lim1, lim0, lim2, lim3, lim4, isTu_tup, isW_int, List.set_cons_zero, List.set_cons_succ, Option.map_some, Option.map_none, cond_true, cond_false, Bool.not_true, Bool.not_false, List.length_cons, List.length_nil, List.length_map, reduceIte, Bool.true_and, Bool.and_true, Bool.false_and, Bool.and_false, Bool.or_true, Bool.true_or, Bool.false_or, Bool.or_false, Bool.false_eq_true, i6]) (fun k _ => by simp only [cB_nm, b_ok, b_ex, b_bad, bnd_b, ret_ap, bad_ap, ofO_some, ofO_none, getV_cons, getV_zero, nxt_nx, nxt_ret, nxt_brk, nxt_cnt, s_nil, s_cons, s_asg, a_nm, s_ex, s_ret, s_retN, s_iff, s_pas, s_brk, s_cnt, s_rai, e_var, e_cst, e_glo, e_bin, negD_int, e_neg, e_cmp, e_chn, notD_bl, e_not, isB_bl, e_and, e_or, and_nil, and_cons, or_nil, or_cons, e_ite, e_tup, limM_b, e_ls, e_mk, l_ls, l_cat, repD_int, l_rep, l_lc, l_of, e_call, e_pri, e_idx, e_lc, e_rev, revTD_tup, e_revT, toI_int, o_none, o_some, e_sli, es_nil, es_cons, t_cmp, t_chn, t_var, t_call, t_pri, t_cst, t_not, t_and, t_or, tand_nil, tand_cons, tor_nil, tor_cons, cond_none, cond_some, tru_bl, tru_int, itOf_lst, itOf_tup, i_seq, i_rg1, i_rg2, enD_lst, enD_tup, i_enum, zipD_lst, zipD_tup, i_zip, s_fr, c_eqI, c_neI, c_ltI, c_leI, c_gtI, c_geI, c_is, c_isn, ar_add, ar_sub, p_lenT, p_lenL, p_tuple, p_tupleT, p_list, p_listL, p_sorted, p_min2, p_max2, p_sumT, p_sumL, p_all, p_any, k_and, k_or, k_andT, k_orT, k_opt, k_lim, beq_nat, lim1, lim0, lim2, lim3, lim4, isTu_tup, isW_int, List.set_cons_zero, List.set_cons_succ, Option.map_some, Option.map_none, cond_true, cond_false, Bool.not_true, Bool.not_false, List.length_cons, List.length_nil, List.length_map, reduceIte, Bool.true_and, Bool.and_true, Bool.false_and, Bool.and_false, Bool.or_true, Bool.true_or, Bool.false_or, Bool.or_false, Bool.false_eq_true]) (by decide)
  have a1 := ar_lst S (l := (List.range 6).map fun (k : Nat) => cal k z (pt p)) (k := [cal 5 (bx b) y]) (by exact (by decide : 6 + 1 ≤ 1000000))
  simp only [d28s18, b_ok, b_ex, b_bad, bnd_b, ret_ap, bad_ap, ofO_some, ofO_none, getV_cons, getV_zero, nxt_nx, nxt_ret, nxt_brk, nxt_cnt, s_nil, s_cons, s_asg, a_nm, s_ex, s_ret, s_retN, s_iff, s_pas, s_brk, s_cnt, s_rai, e_var, e_cst, e_glo, e_bin, negD_int, e_neg, e_cmp, e_chn, notD_bl, e_not, isB_bl, e_and, e_or, and_nil, and_cons, or_nil, or_cons, e_ite, e_tup, limM_b, e_ls, e_mk, l_ls, l_cat, repD_int, l_rep, l_lc, l_of, e_call, e_pri, e_idx, e_lc, e_rev, revTD_tup, e_revT, toI_int, o_none, o_some, e_sli, es_nil, es_cons, t_cmp, t_chn, t_var, t_call, t_pri, t_cst, t_not, t_and, t_or, tand_nil, tand_cons, tor_nil, tor_cons, cond_none, cond_some, tru_bl, tru_int, itOf_lst, itOf_tup, i_seq, i_rg1, i_rg2, enD_lst, enD_tup, i_enum, zipD_lst, zipD_tup, i_zip, s_fr, c_eqI, c_neI, c_ltI, c_leI, c_gtI, c_geI, c_is, c_isn, ar_add, ar_sub, p_lenT, p_lenL, p_tuple, p_tupleT, p_list, p_listL, p_sorted, p_min2, p_max2, p_sumT, p_sumL, p_all, p_any, k_and, k_or, k_andT, k_orT, k_opt, k_lim, beq_nat, lim1, lim0, lim2, lim3, lim4, isTu_tup, isW_int, List.set_cons_zero, List.set_cons_succ, Option.map_some, Option.map_none, cond_true, cond_false, Bool.not_true, Bool.not_false, List.length_cons, List.length_nil, List.length_map, reduceIte, Bool.true_and, Bool.and_true, Bool.false_and, Bool.and_false, Bool.or_true, Bool.true_or, Bool.false_or, Bool.or_false, Bool.false_eq_true, e, a1] <;> rfl
theorem word_ok {b : List Nat} (g : Good b) {z y : D} (hz : Bad z) (hy : Odd b y) (p : List Int) (S : Sto) : ∀ c ∈ callL b z y p, callF pg FU 11 25 [0] [c] S = .ok (.str "malformed") S := fun c hc => by
  rcases List.mem_append.mp hc with hc | hc
  · obtain ⟨k, hk, rfl⟩ := List.mem_map.mp hc
    exact f25 5 [0] S fun bs => x24 5 bs S hz k (List.mem_range.mp hk)
  · rcases List.mem_singleton.mp hc with rfl
    exact f25 5 [0] S fun bs => x24o 5 bs S g hy
theorem t19 (ns : List Int) {b : List Nat} (g : Good b) (p : List Int) (vs : List D) (a0 a : Option D) {z y : D} (hz : Bad z) (hy : Odd b y) (S : Sto) : ∃ v, xs C [0] d28s19 [some (.scr ns), some (.ref 0), some (bx b), some (dP b), some (.int b.sum), some (dR b), some (dM b), some (dC b), some (pt p), some (.lst vs), a0, some (z), some (y), some (.lst (callL b z y p)), a, none, none, none, none, none] S = .ok (.ret (.bl true), v) S := by
  have cm : ∀ S : Sto, cmpD S .ne (.str "malformed") (.str "malformed") = some false := fun S => rfl
  have e : evC C d28c9 ⟨[0], [some (.scr ns), some (.ref 0), some (bx b), some (dP b), some (.int b.sum), some (dR b), some (dM b), some (dC b), some (pt p), some (.lst vs), a0, some (z), some (y), some (.lst (callL b z y p)), a, none, none, none, none, none]⟩ S = .ok [] S := by
    have z0 := lc_fil (C := C) (ρ := ⟨[0], [some (.scr ns), some (.ref 0), some (bx b), some (dP b), some (.int b.sum), some (dR b), some (dM b), some (dC b), some (pt p), some (.lst vs), a0, some (z), some (y), some (.lst (callL b z y p)), a, none, none, none, none, none]⟩) (S := S) (elt := .var 18) (t := .nm 18) (it := .seq (.var 13)) (c := .some (.cmp .ne (.call 25 (.cons (.var 18) .nil)) (.cst (.str "malformed")))) (e := id) (h := id) (p := fun _ => false) (xs := callL b z y p) (by simp only [b_ok, b_ex, b_bad, bnd_b, ret_ap, bad_ap, ofO_some, ofO_none, getV_cons, getV_zero, nxt_nx, nxt_ret, nxt_brk, nxt_cnt, s_nil, s_cons, s_asg, a_nm, s_ex, s_ret, s_retN, s_iff, s_pas, s_brk, s_cnt, s_rai, e_var, e_cst, e_glo, e_bin, negD_int, e_neg, e_cmp, e_chn, notD_bl, e_not, isB_bl, e_and, e_or, and_nil, and_cons, or_nil, or_cons, e_ite, e_tup, limM_b, e_ls, e_mk, l_ls, l_cat, repD_int, l_rep, l_lc, l_of, e_call, e_pri, e_idx, e_lc, e_rev, revTD_tup, e_revT, toI_int, o_none, o_some, e_sli, es_nil, es_cons, t_cmp, t_chn, t_var, t_call, t_pri, t_cst, t_not, t_and, t_or, tand_nil, tand_cons, tor_nil, tor_cons, cond_none, cond_some, tru_bl, tru_int, itOf_lst, itOf_tup, i_seq, i_rg1, i_rg2, enD_lst, enD_tup, i_enum, zipD_lst, zipD_tup, i_zip, s_fr, c_eqI, c_neI, c_ltI, c_leI, c_gtI, c_geI, c_is, c_isn, ar_add, ar_sub, p_lenT, p_lenL, p_tuple, p_tupleT, p_list, p_listL, p_sorted, p_min2, p_max2, p_sumT, p_sumL, p_all, p_any, k_and, k_or, k_andT, k_orT, k_opt, k_lim, beq_nat, lim1, lim0, lim2, lim3, lim4, isTu_tup, isW_int, List.set_cons_zero, List.set_cons_succ, Option.map_some, Option.map_none, cond_true, cond_false, Bool.not_true, Bool.not_false, List.length_cons, List.length_nil, List.length_map, reduceIte, Bool.true_and, Bool.and_true, Bool.false_and, Bool.and_false, Bool.or_true, Bool.true_or, Bool.false_or, Bool.or_false, Bool.false_eq_true, List.map_id]) (fun c hc => by
      have := word_ok g hz hy p S c hc
      simp only [cB_nm, b_ok, b_ex, b_bad, bnd_b, ret_ap, bad_ap, ofO_some, ofO_none, getV_cons, getV_zero, nxt_nx, nxt_ret, nxt_brk, nxt_cnt, s_nil, s_cons, s_asg, a_nm, s_ex, s_ret, s_retN, s_iff, s_pas, s_brk, s_cnt, s_rai, e_var, e_cst, e_glo, e_bin, negD_int, e_neg, e_cmp, e_chn, notD_bl, e_not, isB_bl, e_and, e_or, and_nil, and_cons, or_nil, or_cons, e_ite, e_tup, limM_b, e_ls, e_mk, l_ls, l_cat, repD_int, l_rep, l_lc, l_of, e_call, e_pri, e_idx, e_lc, e_rev, revTD_tup, e_revT, toI_int, o_none, o_some, e_sli, es_nil, es_cons, t_cmp, t_chn, t_var, t_call, t_pri, t_cst, t_not, t_and, t_or, tand_nil, tand_cons, tor_nil, tor_cons, cond_none, cond_some, tru_bl, tru_int, itOf_lst, itOf_tup, i_seq, i_rg1, i_rg2, enD_lst, enD_tup, i_enum, zipD_lst, zipD_tup, i_zip, s_fr, c_eqI, c_neI, c_ltI, c_leI, c_gtI, c_geI, c_is, c_isn, ar_add, ar_sub, p_lenT, p_lenL, p_tuple, p_tupleT, p_list, p_listL, p_sorted, p_min2, p_max2, p_sumT, p_sumL, p_all, p_any, k_and, k_or, k_andT, k_orT, k_opt, k_lim, beq_nat, lim1, lim0, lim2, lim3, lim4, isTu_tup, isW_int, List.set_cons_zero, List.set_cons_succ, Option.map_some, Option.map_none, cond_true, cond_false, Bool.not_true, Bool.not_false, List.length_cons, List.length_nil, List.length_map, reduceIte, Bool.true_and, Bool.and_true, Bool.false_and, Bool.and_false, Bool.or_true, Bool.true_or, Bool.false_or, Bool.or_false, Bool.false_eq_true, id, this, cm]) (by show (callL b z y p).length ≤ 1000000; have : (callL b z y p).length = 7 := rfl; omega)
    have z1 : ((callL b z y p).filter fun _ => false).map id = [] := rfl
    rw [z1] at z0
    exact z0
  have e2 := c_eq_nil S (l := []) fun x hx => by cases hx
  have e3 : ([] : List D).isEmpty = true := rfl
  rw [e3] at e2
  apply Exists.intro
  simp only [d28s19, b_ok, b_ex, b_bad, bnd_b, ret_ap, bad_ap, ofO_some, ofO_none, getV_cons, getV_zero, nxt_nx, nxt_ret, nxt_brk, nxt_cnt, s_nil, s_cons, s_asg, a_nm, s_ex, s_ret, s_retN, s_iff, s_pas, s_brk, s_cnt, s_rai, e_var, e_cst, e_glo, e_bin, negD_int, e_neg, e_cmp, e_chn, notD_bl, e_not, isB_bl, e_and, e_or, and_nil, and_cons, or_nil, or_cons, e_ite, e_tup, limM_b, e_ls, e_mk, l_ls, l_cat, repD_int, l_rep, l_lc, l_of, e_call, e_pri, e_idx, e_lc, e_rev, revTD_tup, e_revT, toI_int, o_none, o_some, e_sli, es_nil, es_cons, t_cmp, t_chn, t_var, t_call, t_pri, t_cst, t_not, t_and, t_or, tand_nil, tand_cons, tor_nil, tor_cons, cond_none, cond_some, tru_bl, tru_int, itOf_lst, itOf_tup, i_seq, i_rg1, i_rg2, enD_lst, enD_tup, i_enum, zipD_lst, zipD_tup, i_zip, s_fr, c_eqI, c_neI, c_ltI, c_leI, c_gtI, c_geI, c_is, c_isn, ar_add, ar_sub, p_lenT, p_lenL, p_tuple, p_tupleT, p_list, p_listL, p_sorted, p_min2, p_max2, p_sumT, p_sumL, p_all, p_any, k_and, k_or, k_andT, k_orT, k_opt, k_lim, beq_nat, lim1, lim0, lim2, lim3, lim4, isTu_tup, isW_int, List.set_cons_zero, List.set_cons_succ, Option.map_some, Option.map_none, cond_true, cond_false, Bool.not_true, Bool.not_false, List.length_cons, List.length_nil, List.length_map, reduceIte, Bool.true_and, Bool.and_true, Bool.false_and, Bool.and_false, Bool.or_true, Bool.true_or, Bool.false_or, Bool.or_false, Bool.false_eq_true, e, e2]
  rfl
theorem law82r (ns : List Int) (hl : ns.length ≤ 63) : RetT C B 0 [some (.scr ns), none, none, none, none, none, none, none, none, none, none, none, none, none, none, none, none, none, none, none] [] := by
  obtain ⟨q, hq, _, e⟩ := draw_run (C := cN pg FU 10) (bs := [0]) (S := []) (ns := ns) (Nat.le_trans hl (by decide))
  have e0 : callF pg FU 11 16 [0] [.scr ns] [] = .ok (.ref 0) [q.so] := e
  refine RetT.seg (k := 1) (seg1 (r := dropS 1 B) rfl (t0 ns e0)) ?_
  obtain ⟨b, q1, g, hq1, e1⟩ := f19 9 [0] hq
  refine RetT.seg (k := 1) (seg1 (r := dropS 2 B) rfl (t1 ns e1)) ?_
  refine RetT.seg (k := 1) (seg1 (r := dropS 3 B) rfl (t2 ns g _)) ?_
  refine RetT.seg (k := 1) (seg1 (r := dropS 4 B) rfl (t3 ns b _)) ?_
  refine RetT.seg (k := 1) (seg1 (r := dropS 5 B) rfl (t4 ns g _)) ?_
  refine RetT.seg (k := 1) (seg1 (r := dropS 6 B) rfl (t5 ns g _)) ?_
  refine RetT.seg (k := 1) (seg1 (r := dropS 7 B) rfl (t6 ns g _)) ?_
  refine RetT.seg (k := 1) (seg1 (r := dropS 8 B) rfl (t7 ns g _)) ?_
  refine RetT.seg (k := 1) (seg1 (r := dropS 9 B) rfl (t8 ns g _)) ?_
  refine RetT.seg (k := 1) (seg1 (r := dropS 10 B) rfl (t9 ns g _)) ?_
  refine RetT.seg (k := 1) (seg1 (r := dropS 11 B) rfl (t10 ns g _)) ?_
  obtain ⟨p, q2, hp, hq2, e11⟩ := t11 ns g hq1
  refine RetT.seg (k := 1) (seg1 (r := dropS 12 B) rfl e11) ?_
  refine RetT.seg (k := 1) (seg1 (r := dropS 13 B) rfl (t12 ns g hp _)) ?_
  obtain ⟨vs, q3, hv, hq3, e13⟩ := t13 ns g p hq2
  refine RetT.seg (k := 1) (seg1 (r := dropS 14 B) rfl e13) ?_
  obtain ⟨a0, a, e14⟩ := t14 ns g p hv [q3.so]
  refine RetT.seg (k := 1) (seg1 (r := dropS 15 B) rfl e14) ?_
  obtain ⟨z, q4, hz, hq4, e15⟩ := t15 ns g p vs a0 a hq3
  refine RetT.seg (k := 1) (seg1 (r := dropS 16 B) rfl e15) ?_
  refine RetT.seg (k := 1) (seg1 (r := dropS 17 B) rfl (t16 ns b p vs a0 a hz _)) ?_
  obtain ⟨y, q5, hy, hq5, e17⟩ := t17 ns g (okP_pts b p hp) vs a0 a z hq4
  refine RetT.seg (k := 1) (seg1 (r := dropS 18 B) rfl e17) ?_
  refine RetT.seg (k := 1) (seg1 (r := dropS 19 B) rfl (t18 ns b p vs a0 a z y _)) ?_
  obtain ⟨v, e19⟩ := t19 ns g p vs a0 a hz hy [q5.so]
  exact ⟨v, _, xss_stop (r := .nil) e19⟩
theorem law82 (ns : List Int) (hl : ns.length ≤ 63) : ∃ S, callF pg FU 12 28 [] [.scr ns] [] = .ok (.bl true) S := by
  obtain ⟨v', S', e⟩ := law82r ns hl
  exact ⟨S'.take 0, run_gen (C := C) (f := d28) (ds := [.scr ns]) (S := []) (v0 := [some (.scr ns), none, none, none, none, none, none, none, none, none, none, none, none, none, none, none, none, none, none, none]) rfl rfl rfl e rfl rfl⟩
end Ri.G
set_option maxHeartbeats 0
open PySem PySem.W PySem.Calls PyProof.Rows
theorem PySem.Challenge.cw_risesonce_k82_whole_even_chains_holds : PySem.Challenge.rw_risesonce_k82_whole_even_chains.Holds := by
  w_on
  o_law
  refine HandSHeadRun.head_any (r := Ri.G.Rw) (q := Ri.G.qv) (H := Ri.hookR 4 Ri.G.tb Ri.G.pg Ri.G.dds) (ob := Ri.obR 4 Ri.G.tb Ri.G.pg Ri.G.dds) (M := 4000) (loose := Ri.G.names) (d := HandSHeadRun.topDef Ri.G.Rw.prog 39) (kwd := []) Ri.obR_eq
    (by kernel_rfl) (fun s => by kernel_rfl) Ri.G.run (by kernel_rfl) (by kernel_rfl) (by kernel_rfl) (by rfl) (by first
      | assumption
      | decide +kernel) (by decide +kernel) ⟨rfl, rfl, rfl, rfl, rfl, by decide +kernel⟩ ?hw ?hc
  case hw => w_witness2
  case hc =>
    exact Ri.walkR (l := PySem.Challenge.rw_risesonce_k82_whole_even_chains) (n := 12) (m := 63) (L := 28) (fu := Ri.G.FU) (x := "script") (dl := Ri.G.D28) Ri.G.still rfl (by decide) (by kernel_rfl) ⟨rfl, by decide +kernel, by decide +kernel⟩ rfl rfl (by kernel_rfl) Ri.G.law82
