import PyProof.Rows.All
import Wide.All
import OpenK.AllK
import Wide.FinOn
import KE.DataMinMax
import KE.SortData
import HandS.TupSets
import HandS.Dict
import HandS.More
import HandS.Conv
import HandS.Lambda
import KE.KDictSum
import HandS.ForMost
import HandS.Flow
import HandS.Wide
import HandS.WideBits
import HandS.TupAny
import HandS.Exc
import HandS.Deep
import HandS.DictComp
import HandS.IsInst
import HandS.SortInts
import HandS.Walk
import HandS.Zip
import HandS.NoneIn
import KE.DataAny
import KE.KTupSum
import HandS.Strs
import HandS.SetFor
import HandS.Style
import HandS.Star
import KE.GoesMore
import KE.GoesZip
import HandS.SortKw
import HandS.Ends
import PySem.Challenge.RW_calmrolls_k60_whole_poll_words
set_option Elab.async false
set_option linter.all false
set_option maxRecDepth 100000
namespace Cr
open PySem

/-- a value: numbers, texts and tuples as they are; lists, dicts and instances by their place in the store -/
inductive D where
  | non | bl (b : Bool) | int (i : Int) | str (x : Str) | tup (xs : List D) | loc (l : Nat) | lit (ns : List Int) | clo (k : Nat) (vs : List D)
  deriving Inhabited

inductive SO where
  | lst (xs : List D) | dict (kvs : List (D × D)) | ins (c : Str) (fs : List (Str × D))
  deriving Inhabited

abbrev Store := List SO
abbrev Env := List (Option D)

inductive Rs (α : Type) where
  | ok (a : α) (st : Store) | exc (c : Str) (fs : List (Str × D)) (st : Store) | err

abbrev M (α : Type) := Store → Rs α
@[reducible] def M.ret {α : Type} (a : α) : M α := fun st => .ok a st
@[reducible] def M.err {α : Type} : M α := fun _ => .err
def M.bnd {α β : Type} (m : M α) (k : α → M β) : M β := fun st => match m st with
  | .ok a st' => k a st'
  | .exc c f s => .exc c f s
  | .err => .err
def M.opt {α : Type} (o : Option α) : M α := fun st => match o with
  | some a => .ok a st
  | none => .err

def getL (st : Store) (l : Nat) : Option (List D) := match st[l]? with
  | some (.lst xs) => some xs
  | _ => none

/-- a value as data without places -/
def pd (st : Store) : Nat → D → Option PyData
  | 0, _ => none
  | _ + 1, .non => some .none
  | _ + 1, .bl b => some (.bool b)
  | _ + 1, .int i => some (.int i)
  | _ + 1, .str x => some (.str x)
  | n + 1, .tup xs => (xs.mapM (pd st n)).map .tuple
  | n + 1, .loc l => match getL st l with
    | some xs => (xs.mapM (pd st n)).map .list
    | none => none
  | _ + 1, .lit _ => none
  | _ + 1, .clo _ _ => none

def pdS (st : Store) (d : D) : Option PyData := match pd st 30 d with
  | some p => if SeqAt.shaped p then some p else none
  | none => none

def eqB (st : Store) (a b : D) : Option Bool := match a, b with
  | .str x, .str y => some (decide (x = y))
  | a, b => match pdS st a, pdS st b with
    | some p, some q => some (PyData.eqv p q)
    | _, _ => none

def intsOf : List D → Option (List Int)
  | [] => some []
  | .int i :: r => (intsOf r).map (i :: ·)
  | _ => none
def boolsOf : List D → Option (List Bool)
  | [] => some []
  | .bl b :: r => (boolsOf r).map (b :: ·)
  | _ => none

def lexLt : List Int → List Int → Bool
  | [], [] => false
  | [], _ :: _ => true
  | _ :: _, [] => false
  | a :: r, b :: t => if a = b then lexLt r t else decide (a < b)

def ltB (a b : D) : Option Bool := match a, b with
  | .int i, .int j => some (decide (i < j))
  | .tup xs, .tup ys => match intsOf xs, intsOf ys with
    | some ns, some ms => some (lexLt ns ms)
    | _, _ => none
  | _, _ => none
def gtB (a b : D) : Option Bool := match a, b with
  | .int i, .int j => some (decide (j < i))
  | _, _ => none
def geB (a b : D) : Option Bool := match a, b with
  | .int i, .int j => some (decide (j ≤ i))
  | _, _ => none
def leB (a b : D) : Option Bool := match a, b with
  | .int i, .int j => some (decide (i ≤ j))
  | _, _ => none

def inB (st : Store) (a c : D) : Option Bool := match pdS st a, pdS st c with
  | some p, some (.tuple ps) => some (ps.any fun z => PyData.eqv z p)
  | some p, some (.list ps) => some (ps.any fun z => PyData.eqv z p)
  | _, _ => none

inductive Op2 where
  | add | sub | mul | mod | fdiv | pow
  deriving DecidableEq, Repr
inductive Cp where
  | eq | ne | lt | le | gt | ge | isN | notN | isIn | notIn
  deriving DecidableEq, Repr
/-- functions of one value -/
inductive F1 where
  | neg | abs | len | int | repr | lenSet
  deriving DecidableEq, Repr
/-- functions of a list or tuple -/
inductive FS where
  | tuple | all | any | sum | min | max
  deriving DecidableEq, Repr
/-- .. that make a list -/
inductive FL where
  | list | sorted
  deriving DecidableEq, Repr
inductive F2 where
  | max | min | divmod
  deriving DecidableEq, Repr
inductive Me where
  | append | extend | pop | index
  deriving DecidableEq, Repr
inductive Ty where
  | int | bool | tuple | str
  deriving DecidableEq, Repr

def alloc (o : SO) : M D := fun st => .ok (.loc st.length) (st ++ [o])

def bigOk (i : Int) : Bool := decide (i.natAbs < 2 ^ 64)
def wideOk (i : Int) : Bool := decide (i.natAbs < 2 ^ 8000)

def op2 (o : Op2) (a b : D) : M D := fun st => match o, a, b with
  | .add, .int i, .int j => .ok (.int (i + j)) st
  | .add, .str x, .str y => if x.length + y.length ≤ 100000 then .ok (.str (x ++ y)) st else .err
  | .add, .tup xs, .tup ys => if xs.length + ys.length ≤ 100000 then .ok (.tup (xs ++ ys)) st else .err
  | .add, .loc l, .loc m => match st[l]?, st[m]? with
    | some (.lst xs), some (.lst ys) => if xs.length + ys.length ≤ 100000 then .ok (.loc st.length) (st ++ [.lst (xs ++ ys)]) else .err
    | _, _ => .err
  | .sub, .int i, .int j => .ok (.int (i - j)) st
  | .mul, .int i, .int j => if bigOk i || bigOk j || (wideOk i && wideOk j) then .ok (.int (i * j)) st else .err
  | .mul, .loc l, .int j => match st[l]? with
    | some (.lst xs) => if 0 ≤ j ∧ j ≤ 1000 ∧ xs.length ≤ 100 then .ok (.loc st.length) (st ++ [.lst (List.replicate j.toNat xs).flatten]) else .err
    | _ => .err
  | .mod, .int i, .int j => if 0 < j then .ok (.int (i % j)) st else .err
  | .fdiv, .int i, .int j => if 0 < j ∧ j < 2 ^ 29 then .ok (.int (i / j)) st else .err
  | .pow, .int i, .int j => if 0 ≤ j ∧ j ≤ 100000 ∧ bigOk i then .ok (.int (i ^ j.toNat)) st else .err
  | _, _, _ => .err

def isNonB : D → Bool
  | .non => true
  | _ => false
def cmpB (o : Cp) (a b : D) (st : Store) : Option Bool := match o with
  | .eq => eqB st a b
  | .ne => (eqB st a b).map (!·)
  | .lt => ltB a b
  | .gt => gtB a b
  | .le => leB a b
  | .ge => geB a b
  | .isN => match b with | .non => some (isNonB a) | _ => none
  | .notN => match b with | .non => some (!isNonB a) | _ => none
  | .isIn => inB st a b
  | .notIn => (inB st a b).map (!·)
def cmp (o : Cp) (a b : D) : M Bool := fun st => match cmpB o a b st with
  | some c => .ok c st
  | none => .err

def truthy (a : D) : M Bool := fun st => match a with
  | .bl b => .ok b st
  | .non => .ok false st
  | .int i => .ok (i != 0) st
  | .tup xs => .ok (!xs.isEmpty) st
  | .loc l => match getL st l with
    | some xs => .ok (!xs.isEmpty) st
    | none => .err
  | _ => .err

def lenNub : List Int → Nat
  | [] => 0
  | x :: r => if r.contains x then lenNub r else lenNub r + 1

def f1 (f : F1) (a : D) : M D := fun st => match f, a with
  | .neg, .int i => .ok (.int (-i)) st
  | .abs, .int i => .ok (.int (if i < 0 then -i else i)) st
  | .int, .int i => .ok (.int i) st
  | .int, .bl b => .ok (.int (if b then 1 else 0)) st
  | .len, .tup xs => .ok (.int xs.length) st
  | .len, .lit xs => .ok (.int xs.length) st
  | .len, .loc l => match getL st l with
    | some xs => .ok (.int xs.length) st
    | none => .err
  | .repr, a => match pdS st a with
    | some p => if p.showable && decide (p.shown.length ≤ 100000) then .ok (.str p.shown) st else .err
    | none => .err
  | .lenSet, .tup xs => match intsOf xs with
    | some ns => if ns.length < 1000 then .ok (.int (lenNub ns)) st else .err
    | none => .err
  | _, _ => .err

def ilist (ns : List Int) : List D := ns.map .int
def maxI (m : Int) (xs : List Int) : Int := xs.foldl max m
def minI (m : Int) (xs : List Int) : Int := xs.foldl min m
def insI (x : Int) : List Int → List Int
  | [] => [x]
  | y :: r => if x ≤ y then x :: y :: r else y :: insI x r
def sortI : List Int → List Int
  | [] => []
  | x :: r => insI x (sortI r)
/-- tuples of ints, of one length, of numbers that are small -/
def tupI? : D → Option (List Int)
  | .tup xs => intsOf xs
  | _ => none
def tupsOf : List D → Option (List (List Int))
  | [] => some []
  | d :: r => match tupI? d, tupsOf r with
    | some n, some ns => some (n :: ns)
    | _, _ => none
def smallT (d : Nat) (ts : List (List Int)) : Bool := ts.all fun t => decide (t.length = d) && t.all fun i => decide (0 ≤ i) && decide (i < 1000000)
def okTs : List (List Int) → Bool
  | [] => true
  | t :: r => decide (1 ≤ t.length) && smallT t.length (t :: r) && decide ((t :: r).length < 64)
def insT (x : List Int) : List (List Int) → List (List Int)
  | [] => [x]
  | y :: r => if lexLt y x then y :: insT x r else x :: y :: r
def sortT : List (List Int) → List (List Int)
  | [] => []
  | x :: r => insT x (sortT r)
def nubT : List (List Int) → List (List Int)
  | [] => []
  | x :: r => if r.contains x then nubT r else x :: nubT r
def tlist (ts : List (List Int)) : List D := ts.map fun t => .tup (ilist t)
/-- the least of data that are alike -/
def alikeB (ps : List PyData) : Bool := (ps.all fun x => ps.all fun y => PySem.W.alike x y) && ps.all fun x => match x with | .none => false | _ => true
def minBy (ps : D → PyData) (x : D) (xs : List D) : D := xs.foldl (fun a y => if PySem.W.dataLt (ps y) (ps a) then y else a) x
def dataMin (xs : List D) : Option D := match xs.mapM (pd [] 30) with
  | some ps => match xs with
    | [] => none
    | x :: r => if alikeB ps && decide (PyData.depthAll ps ≤ 30) then some (minBy (fun d => (pd [] 30 d).getD .none) x r) else none
  | none => none
def encD (d : D) : PyData := (pd [] 30 d).getD .none
def tupNE : PyData → Bool
  | .tuple (_ :: _) => true
  | _ => false
def notTN : PyData → Bool
  | .tuple _ => false
  | .none => false
  | _ => true
def sortDat (xs : List D) : Option (List D) := match xs.mapM (pd [] 30) with
  | some ps => if alikeB ps && (ps.all tupNE || ps.all notTN) && decide (PyData.depthAll ps ≤ 30) && decide (ps.length ≤ 1000) then some (xs.mergeSort (PySem.W.dataLe false encD)) else none
  | none => none
def minNB (xs : List D) : M D := fun st => match xs with
  | [] => .ok .non st
  | x :: r => match dataMin (x :: r) with
    | some d => .ok d st
    | none => .err
def fs (f : FS) (xs : List D) : M D := fun st => match f with
  | .tuple => .ok (.tup xs) st
  | .all => match boolsOf xs with
    | some bs => .ok (.bl (bs.all id)) st
    | none => .err
  | .any => match boolsOf xs with
    | some bs => .ok (.bl (bs.any id)) st
    | none => .err
  | .sum => match intsOf xs with
    | some ns => .ok (.int ns.sum) st
    | none => .err
  | .max => match intsOf xs with
    | some (n :: ns) => .ok (.int (maxI n ns)) st
    | _ => .err
  | .min => match intsOf xs with
    | some (n :: ns) => .ok (.int (minI n ns)) st
    | _ => match dataMin xs with
      | some d => .ok d st
      | none => .err
def fl (f : FL) (xs : List D) : Option (List D) := match f with
  | .list => some xs
  | .sorted => match intsOf xs with
    | some ns => some (ilist (sortI ns))
    | none => match tupsOf xs with
      | some ts => if okTs ts then some (tlist (sortT ts)) else none
      | none => none
/-- a dict of the store whose keys are tuples of ints, whose values are True -/
def dtsO (ts : List (List Int)) : SO := .ins (Str.ofString "") (ts.map fun t => (Str.ofString "", .tup (ilist t)))
def dtsOf : SO → Option (List (List Int))
  | .ins _ fs => tupsOf (fs.map (·.2))
  | _ => none
def putTs (ts : List (List Int)) (ns : List Int) : List (List Int) := if ns ∈ ts then ts else ts ++ [ns]
def dtsB (x : D) : M (List (List Int)) := fun st => match x with
  | .loc l => (match (st[l]?).bind dtsOf with
    | some ts => .ok ts st
    | none => .err)
  | _ => .err
def srtT (ts : List (List Int)) : Option (List D) := if okTs ts then some (tlist (sortT ts)) else none
/-- sorted(set(..)) of tuples of ints -/
def ssetL (xs : List D) : Option (List D) := match tupsOf xs with
  | some ts => if okTs ts then some (tlist (sortT (nubT ts))) else none
  | none => none

def f2 (f : F2) (a b : D) : M D := fun st => match f, a, b with
  | .max, .int i, .int j => .ok (.int (if j > i then j else i)) st
  | .min, .int i, .int j => .ok (.int (if j < i then j else i)) st
  | .divmod, .int i, .int j => if 0 < j ∧ j < 2 ^ 29 then .ok (.tup [.int (i / j), .int (i % j)]) st else .err
  | _, _, _ => .err

def ixN (n : Nat) (i : Int) : Option Nat := if 0 ≤ i then (if i < n then some i.toNat else none) else (if -(n : Int) ≤ i then some (i + n).toNat else none)
def atL {α : Type} (xs : List α) (i : Int) : Option α := (ixN xs.length i).bind fun j => xs[j]?
def dget (st : Store) (k : D) : List (D × D) → Option D
  | [] => none
  | (a, b) :: r => match k, a with
    | .int i, .int j => if i = j then some b else dget st k r
    | .str x, .str y => if x = y then some b else dget st k r
    | _, _ => none
def idx (a i : D) : M D := fun st => match a, i with
  | .tup xs, .int k => match atL xs k with
    | some v => .ok v st
    | none => .err
  | .lit ns, .int k => match atL ns k with
    | some v => .ok (.int v) st
    | none => .err
  | .loc l, k => match st[l]?, k with
    | some (.lst xs), .int k => (match atL xs k with
      | some v => .ok v st
      | none => .err)
    | some (.dict kvs), k => (match dget st k kvs with
      | some v => .ok v st
      | none => .err)
    | _, _ => .err
  | _, _ => .err
def sIx (n : Nat) (dflt : Nat) : Option Int → Nat
  | none => dflt
  | some i => (max 0 (min (n : Int) (if i < 0 then i + n else i))).toNat
def cut {α : Type} (xs : List α) (lo hi : Option Int) : List α :=
  (xs.drop (sIx xs.length 0 lo)).take (sIx xs.length xs.length hi - sIx xs.length 0 lo)
def slc (a : D) (lo hi : Option Int) : M D := fun st => match a with
  | .tup xs => .ok (.tup (cut xs lo hi)) st
  | .lit ns => .ok (.loc st.length) (st ++ [.lst (ilist (cut ns lo hi))])
  | .loc l => match getL st l with
    | some xs => .ok (.loc st.length) (st ++ [.lst (cut xs lo hi)])
    | none => .err
  | _ => .err
def rev (a : D) : M D := fun st => match a with
  | .tup xs => .ok (.tup xs.reverse) st
  | _ => .err
def setAt (a i v : D) : M Unit := fun st => match a, i with
  | .loc l, .int k => match st[l]? with
    | some (.lst xs) => (match ixN xs.length k with
      | some j => .ok () (st.set l (.lst (xs.set j v)))
      | none => .err)
    | _ => .err
  | .loc l, .tup ds => match st[l]?, intsOf ds, v with
    | some o, some ns, .bl true => (match dtsOf o with
      | some ts => if ts.length < 100000 then .ok () (st.set l (dtsO (putTs ts ns))) else .err
      | none => .err)
    | _, _, _ => .err
  | _, _ => .err
inductive Kt where
  | non | bl | int | str | tup | lst | dict
  deriving DecidableEq, Repr
def ktOf (st : Store) (a : D) : Option Kt := match a with
  | .non => some .non
  | .bl _ => some .bl
  | .int _ => some .int
  | .str _ => some .str
  | .tup _ => some .tup
  | .loc l => match st[l]? with
    | some (.lst _) => some .lst
    | some (.dict _) => some .dict
    | _ => none
  | _ => none
def isaK (k : Kt) (t : Ty) : Bool := match k, t with
  | .int, .int => true
  | .bl, .int => true
  | .bl, .bool => true
  | .tup, .tuple => true
  | .str, .str => true
  | _, _ => false
def isTy (a : D) (t : Ty) : M Bool := fun st => match ktOf st a with
  | some k => .ok (isaK k t) st
  | none => .err
def findIx (st : Store) (a c : D) : Option Nat := match pdS st a, pdS st c with
  | some p, some (.tuple ps) => ps.findIdx? fun z => PyData.eqv z p
  | some p, some (.list ps) => ps.findIdx? fun z => PyData.eqv z p
  | _, _ => none
inductive Kd where
  | list | tuple
  deriving DecidableEq, Repr
def kindIs (k : Kd) (a : D) : M Unit := fun st => match k, a with
  | .tuple, .tup _ => .ok () st
  | .list, .loc l => match st[l]? with
    | some (.lst _) => .ok () st
    | _ => .err
  | _, _ => .err
def mkd : Me → Kd
  | .index => .tuple
  | _ => .list
def meth (m : Me) (k : Kd) (o : D) (as : List D) : M D := fun st => match m, k, o, as with
  | .append, .list, .loc l, [v] => match st[l]? with
    | some (.lst xs) => if xs.length < 100000 then .ok .non (st.set l (.lst (xs ++ [v]))) else .err
    | _ => .err
  | .pop, .list, .loc l, [.int i] => match st[l]? with
    | some (.lst xs) => (match ixN xs.length i with
      | some j => (match xs[j]? with
        | some v => .ok v (st.set l (.lst (xs.eraseIdx j)))
        | none => .err)
      | none => .err)
    | _ => .err
  | .index, .tuple, .tup xs, [v] => match findIx st v (.tup xs) with
    | some k => .ok (.int k) st
    | none => .err
  | _, _, _, _ => .err
/-- a method without arguments -/
def meth0 (m : Me) (k : Kd) (o : D) : M D := fun st => match m, k, o with
  | .pop, .list, .loc l => match st[l]? with
    | some (.lst xs) => (match xs[xs.length - 1]? with
      | some v => .ok v (st.set l (.lst xs.dropLast))
      | none => .err)
    | _ => .err
  | _, _, _ => .err
/-- l.extend of a list that is made on the way -/
def extend (o : D) (ys : List D) : M D := fun st => match o with
  | .loc l => match st[l]? with
    | some (.lst xs) => if xs.length + ys.length ≤ 100000 then .ok .non (st.set l (.lst (xs ++ ys))) else .err
    | _ => .err
  | _ => .err
def itemsOf (a : D) : M (List D) := fun st => match a with
  | .tup xs => .ok xs st
  | .lit ns => .ok (ilist ns) st
  | .loc l => match getL st l with
    | some xs => .ok xs st
    | none => .err
  | _ => .err

def combs {α : Type} : Nat → List α → List (List α)
  | 0, _ => [[]]
  | _ + 1, [] => []
  | k + 1, x :: r => (combs k r).map (x :: ·) ++ combs (k + 1) r
def picks {α : Type} : List α → List (α × List α)
  | [] => []
  | x :: r => (x, r) :: (picks r).map fun p => (p.1, x :: p.2)
def perms {α : Type} : Nat → List α → List (List α)
  | 0, _ => [[]]
  | k + 1, xs => (picks xs).flatMap fun p => (perms k p.2).map (p.1 :: ·)

inductive Tg where
  | nm (i : Nat) | tp (is : List Nat) | tn (i : Nat) (is : List Nat)
  deriving Repr
/-- what a for walks, once it is reckoned -/
inductive Hd where
  | its (xs : List D) | ls (l : Nat) | rg (lo : Int) (n : Nat) | en (h : Hd) | zp (a b : Hd)
def Hd.get (st : Store) (i : Nat) : Hd → Option (Option D)
  | .its xs => some xs[i]?
  | .ls l => match getL st l with
    | some xs => some xs[i]?
    | none => none
  | .rg lo n => some (if i < n then some (.int (lo + i)) else none)
  | .en h => match h.get st i with
    | some (some d) => some (some (.tup [.int i, d]))
    | some none => some none
    | none => none
  | .zp a b => match a.get st i, b.get st i with
    | some (some d), some (some e) => some (some (.tup [d, e]))
    | some _, some _ => some none
    | _, _ => none
def Hd.len (st : Store) : Hd → Option Nat
  | .its xs => some xs.length
  | .ls l => (getL st l).map (·.length)
  | .rg _ n => some n
  | .en h => h.len st
  | .zp a b => match a.len st, b.len st with
    | some n, some m => some (min n m)
    | _, _ => none

mutual
inductive Ex where
  | cst (d : D) | var (i : Nat) | gc (x : Str)
  | tup (es : List Ex) | new (n : Ne)
  | op2 (o : Op2) (a b : Ex) | f1 (f : F1) (a : Ex) | f2 (f : F2) (a b : Ex) | fs (f : FS) (a : Ls)
  | cmp (o : Cp) (a b : Ex) | chn (o o' : Cp) (a b c : Ex)
  | not (a : Ex) | and (a b : Ex) | or (a b : Ex) | ite (c : Te) (a b : Ex)
  | idx (a i : Ex) | slc (a : Ex) (lo hi : Option Ex) | rev (a : Ex)
  | tupR (lo hi : Ex)
  | call (f : Str) (es : List Ex) (ks : List Str)
  | meth (m : Me) (o : Ex) (es : List Ex) | meth0 (m : Me) (o : Ex) | ext (o : Ex) (l : Ls)
  | dc (k v : Ex) (tg : Tg) (it : Sq) (own : List Nat)
  | dct (es : List Ex) | dctT (k v : Ex) | minN (a : Ls) | tupS (a : List Ex) (b : Ex) (c : List Ex)
  | isi (a : Ex) (t : Ty)
  | cloc (i : Nat) (es : List Ex) | fwr (a b : Ex) (p q : Nat)
/-- a list that is made -/
inductive Ne where
  | lst (es : List Ex) | fl (f : FL) (a : Ls) | sset (a : Ex) | dsrt (a : Ex) | revL (a : Ex) | srtD (a : Ex) | lstS (a : List Ex) (b : Ex) (c : List Ex) | lc (elt : Ex) (tg : Tg) (it : Sq) (ifs : Option Te) (own : List Nat) | lc2 (elt : Ex) (tg : Tg) (it : Sq) (ifs : Option Te) (tg1 : Tg) (it1 : Sq) (ifs1 : Option Te) (own own1 : List Nat) | rng (lo hi : Ex)
/-- what is read as a list or a tuple -/
inductive Ls where
  | val (e : Ex) | new (n : Ne)
/-- a test -/
inductive Te where
  | val (e : Ex) | not (a : Te) | and (a b : Te) | or (a b : Te)
/-- what a loop walks -/
inductive Sq where
  | ls (l : Ls) | rng (lo hi : Ex) | rng3 (lo hi st : Ex) | enm (l : Ls) | zip (a b : Ex) | prm (l : Ls) (r : Option Ex) | prmR (lo hi : Ex) | cmb (l : Ls) (r : Ex)
end
inductive TgS where
  | nm (i : Nat) | tp (ts : List TgS) | sub (o i : Ex)
inductive Sm where
  | asg (t : TgS) (e : Ex) | par (is : List Nat) (es : List Ex)
  | exp (e : Ex) | ret (e : Ex) | iff (c : Te) (a b : List Sm)
  | for (tg : Tg) (it : Sq) (b : List Sm) | whl (c : Te) (b : List Sm)
  | rse (c : Str) (es : List Ex)

structure Fn where
  ps : List Str
  n : Nat
  body : List Sm
/-- what the language leaves open: calls of defs (positional values, keywords' names and values), constants of the module -/
structure Cl where
  call : Str → List D → List Str → M D
  gc : Str → Option D
  clo : Nat → Option (List D → M D) := fun _ => none

def bindTg (t : Tg) (d : D) (env : Env) : M Env := match t with
  | .nm i => M.ret (env.set i (some d))
  | .tp is => match d with
    | .tup xs => if xs.length = is.length then M.ret ((is.zip xs).foldl (fun e p => e.set p.1 (some p.2)) env) else M.err
    | _ => M.err
  | .tn i is => match d with
    | .tup [x, .tup xs] => if xs.length = is.length then M.ret ((is.zip xs).foldl (fun e p => e.set p.1 (some p.2)) (env.set i (some x))) else M.err
    | _ => M.err
def wipe (env : Env) : List Nat → Env
  | [] => env
  | v :: vs => (wipe env vs).set v none

/-- a comprehension's turns: how many are left, the turn, what is made -/
def compN (get : Store → Nat → Option (Option D)) (step : D → M (Option D)) : Nat → Nat → List D → M (List D)
  | 0, i, acc => fun st => match get st i with
    | some none => .ok acc st
    | _ => .err
  | n + 1, i, acc => fun st => match get st i with
    | some none => .ok acc st
    | some (some d) => (match step d st with
      | .ok (some v) st' => if acc.length < 100000 then compN get step n (i + 1) (acc ++ [v]) st' else .err
      | .ok none st' => compN get step n (i + 1) acc st'
      | _ => .err)
    | none => .err
def compH (h : Hd) (step : D → M (Option D)) : M (List D) := fun st => match h.len st with
  | some n => compN (fun st i => h.get st i) step n 0 [] st
  | none => .err

/-- .. that goes on with what is there -/
def compA (h : Hd) (step : D → M (Option D)) (acc : List D) : M (List D) := fun st => match h.len st with
  | some n => compN (fun st i => h.get st i) step n 0 acc st
  | none => .err
/-- turns that each lead on what is made -/
def compF (get : Store → Nat → Option (Option D)) (step : D → List D → M (List D)) : Nat → Nat → List D → M (List D)
  | 0, i, acc => fun st => match get st i with
    | some none => .ok acc st
    | _ => .err
  | n + 1, i, acc => fun st => match get st i with
    | some none => .ok acc st
    | some (some d) => (match step d acc st with
      | .ok acc' st' => compF get step n (i + 1) acc' st'
      | _ => .err)
    | none => .err
def compHF (h : Hd) (step : D → List D → M (List D)) : M (List D) := fun st => match h.len st with
  | some n => compF (fun st i => h.get st i) step n 0 [] st
  | none => .err
def keyD : D → Bool
  | .int _ => true
  | .str _ => true
  | _ => false
def sameK (k a : D) : Bool := match k, a with
  | .int i, .int j => decide (i = j)
  | .str x, .str y => decide (x = y)
  | _, _ => false
def dput (k v : D) (kvs : List (D × D)) : List (D × D) :=
  if kvs.any (fun p => sameK k p.1) then kvs.map (fun p => if sameK k p.1 then (p.1, v) else p) else kvs ++ [(k, v)]
/-- a display's keys and values, in turn -/
def dispD : List D → List (D × D) → Option (List (D × D))
  | [], kvs => some kvs
  | k :: v :: r, kvs => if keyD k then dispD r (dput k v kvs) else none
  | [_], _ => none
def compD (get : Store → Nat → Option (Option D)) (step : D → M (D × D)) : Nat → Nat → List (D × D) → M (List (D × D))
  | 0, i, acc => fun st => match get st i with
    | some none => .ok acc st
    | _ => .err
  | n + 1, i, acc => fun st => match get st i with
    | some none => .ok acc st
    | some (some d) => (match step d st with
      | .ok (k, v) st' => if keyD k && decide (acc.length < 100000) then compD get step n (i + 1) (dput k v acc) st' else .err
      | _ => .err)
    | none => .err
def compHD (h : Hd) (step : D → M (D × D)) : M (List (D × D)) := fun st => match h.len st with
  | some n => compD (fun st i => h.get st i) step n 0 [] st
  | none => .err
def dispB (xs : List D) : M (List (D × D)) := fun st => if xs.length ≤ 30 then match dispD xs [] with
  | some kvs => .ok kvs st
  | none => .err else .err

def hdOf (d : D) : M Hd := fun st => match d with
  | .tup xs => .ok (.its xs) st
  | .lit ns => .ok (.its (ilist ns)) st
  | .loc l => match getL st l with
    | some _ => .ok (.ls l) st
    | none => .err
  | _ => .err
def rngOk (i : Int) : Bool := decide (-(2 ^ 61) ≤ i ∧ i < 2 ^ 61)

def rngL (i j : Int) : List D := (List.range (j - i).toNat).map fun (k : Nat) => D.int (i + (k : Int))
def rng3H (x y z : D) : M Hd := match x, y, z with
  | .int i, .int j, .int c => if decide (0 < c ∧ c < 1000) && Builtin.Range.small i j c && decide (Builtin.Range.rangeSize i j c ≤ 1000) then M.ret (.its ((List.range (Builtin.Range.rangeSize i j c).toNat).map fun (k : Nat) => D.int (i + (k : Int) * c))) else M.err
  | _, _, _ => M.err
/-- two lists, two tuples -/
def zipB (x y : D) : M Hd := fun st => match x, y with
  | .loc l, .loc m => match getL st l, getL st m with
    | some _, some _ => .ok (.zp (.ls l) (.ls m)) st
    | _, _ => .err
  | .tup xs, .tup ys => .ok (.zp (.its xs) (.its ys)) st
  | .tup xs, .loc m => match getL st m with
    | some _ => .ok (.zp (.its xs) (.ls m)) st
    | none => .err
  | _, _ => .err
def dctB (x y : D) : M (List (List Int)) := match x, y with
  | .tup ds, .bl true => M.opt ((intsOf ds).map fun ns => [ns])
  | _, _ => M.err
def rngB (x y : D) : M (List D) := match x, y with
  | .int i, .int j => if rngOk i && rngOk j && decide ((j - i).toNat ≤ 100000) then M.ret (rngL i j) else M.err
  | _, _ => M.err
def rngH (x y : D) : M Hd := match x, y with
  | .int i, .int j => if rngOk i && rngOk j then M.ret (.rg i (j - i).toNat) else M.err
  | _, _ => M.err
/-- the closure behind a name -/
def cloB (o : Option D) : Option Nat := match o with
  | some (.clo k _) => some k
  | _ => none
def tupB (x : D) : M (List D) := match x with
  | .tup xs => M.ret xs
  | _ => M.err
/-- the first place at which the test, told what stands ahead, says no -/
def fwL (step : D → D → M Bool) : Nat → List D → List D → M D
  | _, _, [] => M.ret .non
  | i, ahead, d :: r => (step d (.tup ahead)).bnd fun t => if t then fwL step (i + 1) (ahead ++ [d]) r else M.ret (.int i)
def intB (x : D) : M Int := match x with
  | .int i => M.ret i
  | _ => M.err
def permB (xs : List D) (k : Option Int) : M Hd := match k with
  | none => if xs.length ≤ 5 then M.ret (.its ((perms xs.length xs).map .tup)) else M.err
  | some r => if 0 ≤ r ∧ r ≤ xs.length ∧ xs.length ≤ 5 then M.ret (.its ((perms r.toNat xs).map .tup)) else M.err
def combB (xs : List D) (k : Int) : M Hd :=
  if 0 ≤ k ∧ ((k ≤ 3 ∧ xs.length ≤ 12) ∨ (k ≤ 6 ∧ xs.length ≤ 6)) then M.ret (.its ((combs k.toNat xs).map .tup)) else M.err
def boxed (xs : List D) : M D := if xs.length ≤ 100000 then M.ret (.tup xs) else M.err
def listed (xs : List D) : M (List D) := if xs.length ≤ 100000 then M.ret xs else M.err
mutual
def evE (C : Cl) : Ex → Env → M D
  | .cst d, _ => M.ret d
  | .var i, env => M.opt ((env[i]?).bind id)
  | .gc x, _ => M.opt (C.gc x)
  | .tup es, env => (evEs C es env).bnd fun xs => boxed xs
  | .new n, env => (evN C n env).bnd fun xs => alloc (.lst xs)
  | .op2 o a b, env => (evE C a env).bnd fun x => (evE C b env).bnd fun y => op2 o x y
  | .f1 f a, env => (evE C a env).bnd fun x => f1 f x
  | .f2 f a b, env => (evE C a env).bnd fun x => (evE C b env).bnd fun y => f2 f x y
  | .fs f a, env => (evS C a env).bnd fun xs => fs f xs
  | .cmp o a b, env => (evE C a env).bnd fun x => (evE C b env).bnd fun y => (cmp o x y).bnd fun c => M.ret (.bl c)
  | .chn o o' a b c, env => (evE C a env).bnd fun x => (evE C b env).bnd fun y => (cmp o x y).bnd fun t =>
      if t then (evE C c env).bnd fun z => (cmp o' y z).bnd fun u => M.ret (.bl u) else M.ret (.bl false)
  | .not a, env => (evE C a env).bnd fun x => (truthy x).bnd fun t => M.ret (.bl (!t))
  | .and a b, env => (evE C a env).bnd fun x => (truthy x).bnd fun t => if t then evE C b env else M.ret x
  | .or a b, env => (evE C a env).bnd fun x => (truthy x).bnd fun t => if t then M.ret x else evE C b env
  | .ite c a b, env => (evT C c env).bnd fun t => if t then evE C a env else evE C b env
  | .idx a i, env => (evE C a env).bnd fun x => (evE C i env).bnd fun y => idx x y
  | .slc a lo hi, env => (evE C a env).bnd fun x => (evO C lo env).bnd fun l => (evO C hi env).bnd fun h => slc x l h
  | .rev a, env => (evE C a env).bnd fun x => rev x
  | .tupR lo hi, env => (evE C lo env).bnd fun x => (evE C hi env).bnd fun y => (rngB x y).bnd fun xs => M.ret (.tup xs)
  | .call f es ks, env => (evEs C es env).bnd fun xs => C.call f xs ks
  | .meth m o es, env => (evE C o env).bnd fun x => (kindIs (mkd m) x).bnd fun _ => (evEs C es env).bnd fun xs => meth m (mkd m) x xs
  | .meth0 m o, env => (evE C o env).bnd fun x => (kindIs .list x).bnd fun _ => meth0 m .list x
  | .ext o e, env => (evE C o env).bnd fun x => (kindIs .list x).bnd fun _ => (evS C e env).bnd fun xs => extend x xs
  | .dc k v tg it own, env => (evQ C it env).bnd fun h => (compHD h (fun d => (bindTg tg d (wipe env own)).bnd fun env' => (evE C k env').bnd fun a => (evE C v env').bnd fun b => M.ret (a, b))).bnd fun kvs => alloc (.dict kvs)
  | .dct es, env => (evEs C es env).bnd fun xs => (dispB xs).bnd fun kvs => alloc (.dict kvs)
  | .dctT k v, env => (evE C k env).bnd fun x => (evE C v env).bnd fun y => (dctB x y).bnd fun ts => alloc (dtsO ts)
  | .minN a, env => (evS C a env).bnd fun xs => minNB xs
  | .tupS a b c, env => (evEs C a env).bnd fun xs => (evE C b env).bnd fun y => (itemsOf y).bnd fun ys => (evEs C c env).bnd fun zs => boxed (xs ++ (ys ++ zs))
  | .isi a t, env => (evE C a env).bnd fun x => (isTy x t).bnd fun b => M.ret (.bl b)
  | .cloc i es, env => (M.opt ((cloB ((env[i]?).bind id)).bind C.clo)).bnd fun g => (evEs C es env).bnd fun xs => g xs
  | .fwr a b p q, env => (evE C a env).bnd fun x => (tupB x).bnd fun xs => fwL (fun d w => (evE C b ((env.set p (some d)).set q (some w))).bnd fun r => truthy r) 0 [] xs
def evN (C : Cl) : Ne → Env → M (List D)
  | .lst es, env => (evEs C es env).bnd fun xs => listed xs
  | .lstS a b c, env => (evEs C a env).bnd fun xs => (evE C b env).bnd fun y => (itemsOf y).bnd fun ys => (evEs C c env).bnd fun zs => listed (xs ++ (ys ++ zs))
  | .fl f a, env => (evS C a env).bnd fun xs => M.opt (fl f xs)
  | .sset a, env => (evE C a env).bnd fun x => (kindIs .list x).bnd fun _ => (itemsOf x).bnd fun xs => M.opt (ssetL xs)
  | .dsrt a, env => (evE C a env).bnd fun x => (dtsB x).bnd fun ts => M.opt (srtT ts)
  | .revL a, env => (evE C a env).bnd fun x => (kindIs .list x).bnd fun _ => (itemsOf x).bnd fun xs => M.ret xs.reverse
  | .srtD a, env => (evE C a env).bnd fun x => (kindIs .list x).bnd fun _ => (itemsOf x).bnd fun xs => M.opt (sortDat xs)
  | .lc elt tg it ifs own, env => (evQ C it env).bnd fun h => compH h (fun d => (bindTg tg d (wipe env own)).bnd fun env' => (evI C ifs env').bnd fun t => if t then (evE C elt env').bnd fun v => M.ret (some v) else M.ret none)
  | .lc2 elt tg it ifs tg1 it1 ifs1 own own1, env => (evQ C it env).bnd fun h => compHF h (fun d acc => (bindTg tg d (wipe env own)).bnd fun env' => (evI C ifs env').bnd fun t => if t then (evQ C it1 env').bnd fun h1 => compA h1 (fun d1 => (bindTg tg1 d1 (wipe env' own1)).bnd fun env2 => (evI C ifs1 env2).bnd fun t1 => if t1 then (evE C elt env2).bnd fun v => M.ret (some v) else M.ret none) acc else M.ret acc)
  | .rng lo hi, env => (evE C lo env).bnd fun x => (evE C hi env).bnd fun y => rngB x y
def evS (C : Cl) : Ls → Env → M (List D)
  | .val e, env => (evE C e env).bnd fun x => itemsOf x
  | .new n, env => evN C n env
def evH (C : Cl) : Ls → Env → M Hd
  | .val e, env => (evE C e env).bnd fun x => hdOf x
  | .new n, env => (evN C n env).bnd fun xs => M.ret (.its xs)
def evT (C : Cl) : Te → Env → M Bool
  | .val e, env => (evE C e env).bnd fun x => truthy x
  | .not a, env => (evT C a env).bnd fun t => M.ret (!t)
  | .and a b, env => (evT C a env).bnd fun t => if t then evT C b env else M.ret false
  | .or a b, env => (evT C a env).bnd fun t => if t then M.ret true else evT C b env
def evQ (C : Cl) : Sq → Env → M Hd
  | .ls l, env => evH C l env
  | .rng lo hi, env => (evE C lo env).bnd fun x => (evE C hi env).bnd fun y => rngH x y
  | .rng3 lo hi c, env => (evE C lo env).bnd fun x => (evE C hi env).bnd fun y => (evE C c env).bnd fun z => rng3H x y z
  | .enm l, env => (evH C l env).bnd fun h => M.ret (.en h)
  | .zip a b, env => (evE C a env).bnd fun x => (evE C b env).bnd fun y => zipB x y
  | .prm l r, env => (evS C l env).bnd fun xs => (evO C r env).bnd fun k => permB xs k
  | .prmR lo hi, env => (evE C lo env).bnd fun x => (evE C hi env).bnd fun y => (rngB x y).bnd fun xs => permB xs none
  | .cmb l r, env => (evS C l env).bnd fun xs => (evE C r env).bnd fun x => (intB x).bnd fun k => combB xs k
def evO (C : Cl) : Option Ex → Env → M (Option Int)
  | none, _ => M.ret none
  | some e, env => (evE C e env).bnd fun x => (intB x).bnd fun i => M.ret (some i)
def evI (C : Cl) : Option Te → Env → M Bool
  | none, _ => M.ret true
  | some e, env => evT C e env
def evEs (C : Cl) : List Ex → Env → M (List D)
  | [], _ => M.ret []
  | e :: es, env => (evE C e env).bnd fun x => (evEs C es env).bnd fun xs => M.ret (x :: xs)
end

inductive Os where
  | nx (env : Env) (st : Store) | rt (d : D) (st : Store) | exc (c : Str) (fs : List (Str × D)) (env : Env) (st : Store) | err
def Os.ofM {α : Type} (env : Env) (m : Rs α) (k : α → Store → Os) : Os := match m with
  | .ok a st => k a st
  | .exc c fs st => .exc c fs env st
  | .err => .err

def forN (get : Store → Nat → Option (Option D)) (body : D → Env → Store → Os) : Nat → Nat → Env → Store → Os
  | 0, i, env, st => match get st i with
    | some none => .nx env st
    | _ => .err
  | n + 1, i, env, st => match get st i with
    | some none => .nx env st
    | some (some d) => (match body d env st with
      | .nx env' st' => forN get body n (i + 1) env' st'
      | o => o)
    | none => .err
def whlN (c : Env → M Bool) (body : Env → Store → Os) : Nat → Env → Store → Os
  | 0, _, _ => .err
  | n + 1, env, st => Os.ofM env (c env st) fun t st1 => if t then (match body env st1 with
      | .nx env' st' => whlN c body n env' st'
      | o => o) else .nx env st1

mutual
def asgT (C : Cl) : TgS → D → Env → Store → Os
  | .nm i, d, env, st => .nx (env.set i (some d)) st
  | .sub o i, d, env, st => Os.ofM env (evE C o env st) fun x st1 => Os.ofM env (evE C i env st1) fun y st2 => Os.ofM env (setAt x y d st2) fun _ st3 => .nx env st3
  | .tp ts, d, env, st => match d with
    | .tup xs => if xs.length = ts.length then asgTs C ts xs env st else .err
    | _ => .err
def asgTs (C : Cl) : List TgS → List D → Env → Store → Os
  | [], [], env, st => .nx env st
  | t :: ts, x :: xs, env, st => match asgT C t x env st with
    | .nx env' st' => asgTs C ts xs env' st'
    | o => o
  | _, _, _, _ => .err
end
def setAll (is : List Nat) (xs : List D) (env : Env) : Env := (is.zip xs).foldl (fun e p => e.set p.1 (some p.2)) env

mutual
def evM (C : Cl) (W : Nat) : Sm → Env → Store → Os
  | .asg t e, env, st => Os.ofM env (evE C e env st) fun d st1 => asgT C t d env st1
  | .par is es, env, st => Os.ofM env (evEs C es env st) fun xs st1 => if xs.length = is.length then .nx (setAll is xs env) st1 else .err
  | .exp e, env, st => Os.ofM env (evE C e env st) fun _ st1 => .nx env st1
  | .ret e, env, st => Os.ofM env (evE C e env st) fun d st1 => .rt d st1
  | .iff c a b, env, st => Os.ofM env (evT C c env st) fun t st1 => if t then evMs C W a env st1 else evMs C W b env st1
  | .for tg it b, env, st => Os.ofM env (evQ C it env st) fun h st1 => match h.len st1 with
      | some n => forN (fun st i => h.get st i) (fun d env st => Os.ofM env (bindTg tg d env st) fun env' st' => evMs C W b env' st') n 0 env st1
      | none => .err
  | .whl c b, env, st => whlN (evT C c) (fun env st => evMs C W b env st) W env st
  | .rse _ _, _, _ => .err
def evMs (C : Cl) (W : Nat) : List Sm → Env → Store → Os
  | [], env, st => .nx env st
  | s :: r, env, st => match evM C W s env st with
    | .nx env' st' => evMs C W r env' st'
    | o => o
end

/-- the values xs of the names ks, in the parameters' order -/
def ordL {α : Type} (ps ks : List Str) (xs : List α) : Option (List α) := ps.mapM fun p => (ks.zip xs).lookup p
def argsOf (ps ks : List Str) (xs : List D) : Option (List D) := match ks with
  | [] => some xs
  | k :: r => if xs.length = ps.length then ordL ps (k :: r) xs else none
def runFn (C : Cl) (W : Nat) (F : Fn) (ys : List D) : M D := fun st =>
  match evMs C W F.body (ys.map some ++ List.replicate (F.n - ys.length) none) st with
  | .nx _ st' => .ok .non st'
  | .rt d st' => .ok d st'
  | .exc c fs _ st' => .exc c fs st'
  | .err => .err
def callN (T : Str → Option Fn) (gc : Str → Option D) (W : Nat) : Nat → Str → List D → List Str → M D
  | 0, _, _, _ => M.err
  | n + 1, f, xs, ks => match T f with
    | none => M.err
    | some F => match argsOf F.ps ks xs with
      | none => M.err
      | some ys => if ys.length = F.ps.length then runFn { call := callN T gc W n, gc := gc } W F ys else M.err
end Cr

set_option maxRecDepth 100000
set_option maxHeartbeats 1000000
namespace Cr
open PySem PySem.Spec PyProof.Rows PySem.Calls L2
/-- the hash of a tuple of ints -/
def tupH (ns : List Int) : Int := reduceHash (Builtin.Tuple.tupleHashOf (ns.map hashInt))
def dicE (p : Addr × List Int) : DictEntry := ⟨tupH p.2, .ref p.1, .bool true⟩
def DicP (a : Addr) (L : List (Addr × List Int)) (h : Heap) : Prop :=
  (a == sysModules) = false ∧ (L.map (·.2)).Nodup ∧ ∃ o es ep, h.get? a = some o ∧ o.ExactDict ∧ o.data = .dict es ep ∧ es.toList = L.map dicE
/-- the dict at a -/
def DicO (a : Addr) (L : List (Addr × List Int)) : HO := .ext (DicP a L)
def tri (p : Addr × List Int) : List Int × Addr × Value := (p.2, p.1, .bool true)
def putT (L : List (Addr × List Int)) (b : Addr) (ns : List Int) : List (Addr × List Int) := if ns ∈ L.map (·.2) then L else L ++ [(b, ns)]
theorem DicP.keep {a : Addr} {L : List (Addr × List Int)} {h1 h2 : Heap} (p : DicP a L h1) (k : ∀ o, h1.get? a = some o → h2.get? a = some o) : DicP a L h2 := by
  obtain ⟨q1, q2, o, es, ep, e, r⟩ := p
  exact ⟨q1, q2, o, es, ep, k _ e, r⟩
theorem dic_ok {P : Program} {w : World} {H : Hp} {h : Heap} {a : Addr} {L : List (Addr × List Int)} (p : DicP a L h) : ObjOk P w H h a (DicO a L) := by
  have ⟨_, _, o, _, _, e, _⟩ := p
  exact ⟨p, ⟨o, e⟩, fun h1 h2 q k => q.keep k⟩
/-- no code object -/
theorem dic_ne_code {a c : Addr} {L : List (Addr × List Int)} {q : Str} : DicO a L ≠ LamX.CodeO c q := by
  intro e
  have e : DicP a L = fun h => ∃ (oc : Obj) (vs : Array Value) (t : Tok), h.get? c = some oc ∧ oc.data = .fields vs ∧ vs[1]? = some (.str q t) := by injection e
  let ob : Obj := { cls := .none, data := .fields #[.none, .str q 0] }
  let h : Heap := { objs := Array.replicate (c + 1) ob }
  have hg : ∀ b o, h.get? b = some o → o = ob := by
    intro b o z
    unfold Heap.get? at z
    rcases Nat.lt_or_ge b (c + 1) with hb | hb
    · have : h.objs[b]? = some ob := by simp [h, hb]
      rw [this] at z
      cases z; rfl
    · have : h.objs[b]? = none := Array.getElem?_eq_none (by simpa [h] using hb)
      rw [this] at z
      cases z
  have hc : h.get? c = some ob := by
    have : h.objs[c]? = some ob := by simp [h]
    unfold Heap.get?
    rw [this]
  have p2 : ∃ (oc : Obj) (vs : Array Value) (t : Tok), h.get? c = some oc ∧ oc.data = .fields vs ∧ vs[1]? = some (.str q t) := ⟨ob, _, 0, hc, rfl, rfl⟩
  have p : DicP a L h := by rw [e]; exact p2
  obtain ⟨_, _, o, es, ep, e1, _, e2, _⟩ := p
  rw [hg a o e1] at e2
  cases e2
section
variable {P : Program} {w : World}
theorem dicE_eq (L : List (Addr × List Int)) : L.map dicE = (L.map tri).map (entryOfKey (tupleKind (PySem.intKind P w))) := by
  rw [List.map_map]; rfl
theorem DicP.of {h : Heap} {a : Addr} {L : List (Addr × List Int)} (p : DicP a L h) (k : ∀ q ∈ L, IsT P w h q.2 q.1) : h.DictOfH (tupleKind (PySem.intKind P w)) a (L.map tri) := by
  obtain ⟨q1, q2, o, es, ep, e, e1, e2, e3⟩ := p
  refine ⟨o, es, ep, e, e1, e2, by rw [e3, dicE_eq (P := P) (w := w)], fun x hx => ?_, by rw [List.map_map]; exact q2⟩
  obtain ⟨q, hq, rfl⟩ := List.mem_map.mp hx
  exact k q hq
theorem atKey_tri : ∀ (L : List (Addr × List Int)) (ns : List Int), (atKey (L.map tri) ns).isSome = decide (ns ∈ L.map (·.2)) := by
  intro L ns
  unfold atKey
  rw [Option.isSome_map]
  induction L with
  | nil => rfl
  | cons p r ih =>
    rw [List.map_cons, List.find?_cons]
    by_cases c : p.2 = ns
    · have : decide ((tri p).1 = ns) = true := decide_eq_true c
      rw [this]
      simp [c]
    · have : decide ((tri p).1 = ns) = false := decide_eq_false c
      rw [this]
      simp only [ih]
      have c' : ¬ ns = p.2 := fun z => c z.symm
      simp [c']
theorem putAt_tri (L : List (Addr × List Int)) (ns : List Int) : (L.map tri).map (putAt ns (.bool true)) = L.map tri := by
  rw [List.map_map]
  refine List.map_congr_left fun p _ => ?_
  show putAt ns (.bool true) (tri p) = tri p
  unfold putAt tri
  split <;> rfl
theorem stored_tri (L : List (Addr × List Int)) (b : Addr) (ns : List Int) : storedH (L.map tri) ns b (.bool true) = (putT L b ns).map tri := by
  unfold storedH putT
  rw [atKey_tri]
  by_cases c : ns ∈ L.map (·.2)
  · rw [if_pos (decide_eq_true c), if_pos c, putAt_tri]
  · rw [if_neg (by simpa using c), if_neg c, List.map_append]; rfl
theorem DicP.from {h : Heap} {a : Addr} {L : List (Addr × List Int)} (ha : (a == sysModules) = false) (d : h.DictOfH (tupleKind (PySem.intKind P w)) a (L.map tri)) : DicP a L h := by
  obtain ⟨o, es, ep, e, e1, e2, e3, _, e4⟩ := d
  exact ⟨ha, by rw [List.map_map] at e4; exact e4, o, es, ep, e, e1, e2, by rw [e3, dicE_eq (P := P) (w := w)]⟩
end
section
variable {X : Cx} {pins : List (Addr × Obj)} {σ : L2.St} {H : Hp} {s : Shared} {a b : Addr} {A : Around} {E : Value → Shared → Prop} {L : List (Addr × List Int)} {ns : List Int}
/-- d[t] = True -/
theorem dic_set {Q : Unit → Shared → Prop} (hu : A.units + 1 < cLine) (I : Inv X pins σ H s) (e : H a = some (DicO a L)) (hk : ∀ q ∈ L, SqT X.K H q.1 (q.2.map V.int)) (hb : SqT X.K H b (ns.map V.int)) (hl : L.length ≤ sizeLine)
    (h : ∀ s', Inv X pins σ (upd H a (DicO a (putT L b ns))) s' → Q () s') : wpAny (model X.prog X.w) A (setItem (.ref a) (.ref b) (.bool true)) Q E s := by
  have p : DicP a L s.heap := (I.hok a _ e).1
  refine wpAny_setItem_heap (hsz := by rw [List.length_map]; exact hl) (tupleKind_room_in1 hu) (I.isT hb) (p.of fun q hq => I.isT (hk q hq)) fun h' dd hs => h _ ?_
  rw [stored_tri] at dd
  have p' := DicP.from p.1 dd
  have ⟨_, _, o, _, _, eo, _⟩ := p'
  exact d_write I (by rw [e]; exact True.intro) hs ⟨o, eo⟩ (dic_ok p')
theorem dic_acc {acc : Array Value} {es : Array DictEntry} (he : es.toList = L.map dicE) (it : ItemsOf (fun i v => ∃ en : DictEntry, es[i]? = some en ∧ v = en.key) acc es.size) : acc.toList = L.map fun q => Value.ref q.1 := by
  have l1 : es.size = L.length := by rw [← Array.length_toList, he, List.length_map]
  have hl : acc.toList.length = L.length := by rw [Array.length_toList, it.1]; exact l1
  apply List.ext_getElem?
  intro j
  rw [List.getElem?_map]
  cases hj : acc.toList[j]? with
  | none =>
    have h1 := List.getElem?_eq_none_iff.mp hj
    rw [List.getElem?_eq_none (by omega)]; rfl
  | some v =>
    obtain ⟨en, hen, hv⟩ := it.2 j v (by rw [← Array.getElem?_toList]; exact hj)
    rw [← Array.getElem?_toList, he, List.getElem?_map] at hen
    cases hb : L[j]? with
    | none => rw [hb] at hen; cases hen
    | some q =>
      rw [hb] at hen
      cases hen
      rw [hv]; rfl
/-- the keys, gathered -/
theorem dic_collect {R : List Value → Shared → Prop} (hh : A.handled = none) (I : Inv X pins σ H s) (e : H a = some (DicO a L)) (hl : L.length ≤ sizeLine)
    (h : ∀ (h' : Heap) (tk : Nat), (∀ b o, s.heap.get? b = some o → h'.get? b = some o) → R (L.map fun q => Value.ref q.1) { s with heap := h', toks := tk }) : wpAny (model X.prog X.w) A (collect (.ref a)) R E s := by
  have p : DicP a L s.heap := (I.hok a _ e).1
  obtain ⟨q1, q2, o, es, ep, e1, e2, e3, e4⟩ := p
  have l1 : es.size = L.length := by rw [← Array.length_toList, e4, List.length_map]
  refine PySem.W.kdu_collect (kdl_raw q1 e2 e3) hh e1 (by omega) fun h' tk acc k it => ?_
  rw [dic_acc e4 it]
  exact h h' tk k
end
section
variable {prog : Program} {w : World} {A : Around} {E : Value → Shared → Prop} {s : Shared} {env : PySem.Env}
/-- {k: v}, k a tuple of ints -/
theorem wpAny_Dict_oneT {k v : Expr} {pos : Pos} {Q : Value → Shared → Prop} (hu : A.units < cLine)
    (h : wpAny (model prog w) A (evalPairs (pairTrees [some k] [v] env pos)) (fun vs s₁ => ∃ b ns, vs = [(Value.ref b, Value.bool true)] ∧ IsT prog w s₁.heap ns b ∧ s₁.heap.DictOfH (tupleKind (PySem.intKind prog w)) s.heap.objs.size [] ∧
      ∀ h' tk, h'.DictOfH (tupleKind (PySem.intKind prog w)) s.heap.objs.size [(ns, b, Value.bool true)] → Heap.SameBut s.heap.objs.size s₁.heap h' → Q (.ref s.heap.objs.size) { s₁ with heap := h', toks := tk }) E
      { s with heap := s.heap.push { cls := .type "dict", data := .dict #[] } }) : wpAny (model prog w) A (eval (.Dict [some k] [v] pos) env) Q E s := by
  have hz := zip_pairTrees [some k] [v] env pos rfl rfl
  rw [arm_eval_Dict, hz, dictDisplay_pairs _ (fun z => by have := pairTrees_length [some k] [v] env pos rfl rfl; rw [z] at this; cases this) (by rw [pairTrees_length [some k] [v] env pos rfl rfl]; show 1 < 17; decide)]
  refine wpAny_bind (wpAny_standAt (wpAny_bind ?_))
  unfold subDict
  refine wpAny_bind (wpAny_alloc ?_)
  refine wpAny_bind (wpAny_holding ?_)
  rw [if_pos (by rw [pairTrees_length [some k] [v] env pos rfl rfl]; show 1 ≤ 15; decide)]
  refine wpAny_bind (wpAny_mono h (fun vs s₁ h₁ => ?_) fun _ _ e => e)
  obtain ⟨b, ns, rfl, hk, hm, hQ⟩ := h₁
  refine wpAny_holding ?_
  rw [List.forIn_cons]
  refine wpAny_bind (wpAny_bind (wpAny_bind (wpAny_dictSet_heap (hsz := by rw [List.length_nil]; exact Nat.zero_le _) hu hk hm fun h' hm' hs' => wpAny_pure ?_)))
  dsimp only
  rw [List.forIn_nil]
  exact wpAny_pure (wpAny_pure (wpAny_pure (wpAny_pure (hQ h' _ hm' hs'))))
end
section
variable {X : Cx} {k v : Expr} {pos : Pos} {tk tv : TE}
def tDicD (K : PySem.W.Frag) (tk tv : TE) : TE := fun σ H Q => ∀ p, H p = none → tk σ (upd H p (DicO p [])) fun x H1 => tv σ H1 fun y H2 => ∃ b ns, x = .ref b ∧ y = .bl true ∧ SqT K H2 b (ns.map V.int) ∧ H2 p = some (DicO p []) ∧ Q (.ref p) (upd H2 p (DicO p [(b, ns)]))
theorem pe_dicD (hu : X.A.units < cLine) (hk : PE X k tk) (hv : PE X v tv) : PE X (.Dict [some k] [v] pos) (tDicD X.K tk tv) := by
  refine ⟨fun pins s σ H Q I q => ?_⟩
  have hn := I.hok.fresh (Nat.le_refl s.heap.objs.size)
  have hb : (s.heap.objs.size == sysModules) = false := beq_eq_false_iff_ne.mpr (Ne.symm (Nat.ne_of_lt I.big))
  have I1 := I.laid (a := s.heap.objs.size) (o := DicO s.heap.objs.size []) (h' := s.heap.push { cls := .type "dict", data := .dict #[] }) (t' := s.toks) (fun _ _ q => Heap.get?_push_of_some _ q) (Nat.le_refl _)
    (dic_ok ⟨hb, List.nodup_nil, _, #[], 0, Heap.get?_push_size _ rfl, ⟨rfl, rfl, rfl⟩, rfl, rfl⟩)
  refine wpAny_Dict_oneT hu (thn ((pps_cons hk hv pps_nil).run pins _ σ _ (fun ps H' => match ps with
    | [(x, y)] => ∃ b ns, x = V.ref b ∧ y = V.bl true ∧ SqT X.K H' b (ns.map V.int) ∧ H' s.heap.objs.size = some (DicO s.heap.objs.size []) ∧ Q (.ref s.heap.objs.size) (upd H' s.heap.objs.size (DicO s.heap.objs.size [(b, ns)]))
    | _ => False) I1 (q _ hn)) fun ws s2 ⟨ps, H2, I2, rel, q2⟩ => ?_)
  match ps, q2 with
  | [(x, y)], ⟨b, ns, ex, ey, hs, e, q3⟩ =>
    subst ex ey
    cases rel with
    | @cons _ w2 _ _ r t =>
      cases t
      obtain ⟨w21, w22⟩ := w2
      obtain ⟨r1, r2⟩ := r
      obtain rfl : w21 = Value.ref b := r1
      obtain rfl : w22 = Value.bool true := r2
      have p0 : DicP s.heap.objs.size [] s2.heap := (I2.hok _ _ e).1
      refine ⟨b, ns, rfl, I2.isT hs, p0.of fun q hq => absurd hq List.not_mem_nil, fun h' tk dd hsb => ⟨.ref s.heap.objs.size, _, ?_, rfl, q3⟩⟩
      have p' : DicP s.heap.objs.size [(b, ns)] h' := DicP.from hb dd
      have ⟨_, _, o, _, _, eo, _⟩ := p'
      exact d_write I2 (by rw [e]; exact True.intro) hsb ⟨o, eo⟩ (dic_ok p')
end
end Cr

set_option maxRecDepth 100000
namespace Cr
open PySem L2
abbrev Frag := PySem.W.Frag
abbrev Rho := List Addr

/-- a tuple: as it was laid, or of the written part -/
def SqD (K : Frag) (H : Hp) (a : Addr) (vs : List V) : Prop :=
  (∃ o, H a = some (.frz o (.tup vs)) ∧ o.dict = none) ∨
    ∃ (o : Obj) (its : Array Value) (n : Nat), K.lookup a = some o ∧ o.cls = .type "tuple" ∧ o.dict = none ∧ o.data = .seq its n ∧ its.size ≤ sizeLine ∧ Vals vs its.toList
theorem SqD.t {K : Frag} {H : Hp} {a : Addr} {vs : List V} (h : SqD K H a vs) : SqT K H a vs := by
  rcases h with ⟨o, h, _⟩ | ⟨o, its, n, h1, h2, h3, h4, h5, h6⟩
  · exact .inl (.inr ⟨o, h⟩)
  · exact .inr ⟨o, its, n, h1, h2, h4, h5, h6⟩
/-- a tuple object as it is laid -/
abbrev tupO (its : List Value) : Obj := { cls := .type "tuple", data := .seq its.toArray }
abbrev fz (its : List Value) (vs : List V) : HO := .frz (tupO its) (.tup vs)
theorem SqD.new {K : Frag} {H : Hp} {p : Addr} {its : List Value} {vs : List V} : SqD K (upd H p (fz its vs)) p vs := .inl ⟨_, upd_same, rfl⟩

/-- the script: as it was laid, or of the written part -/
def LitD (K : Frag) (H : Hp) (a : Addr) (vs : List V) : Prop := (∃ o, H a = some (.frz o (.lst vs))) ∨ ∀ H', SqL K H' a vs
theorem LitD.l {K : Frag} {H : Hp} {a : Addr} {vs : List V} (h : LitD K H a vs) : SqL K H a vs := by
  rcases h with ⟨o, h1⟩ | h1
  · exact .inl (.inr ⟨o, h1⟩)
  · exact h1 H
mutual
def Rl (K : Frag) (ρ : Rho) (H : Hp) : D → V → Prop
  | .non, v => v = .non
  | .bl b, v => v = .bl b
  | .int i, v => v = .int i
  | .str x, v => v = .str x
  | .tup xs, v => ∃ a vs, v = .ref a ∧ SqD K H a vs ∧ RlL K ρ H xs vs
  | .loc l, v => ∃ a, ρ[l]? = some a ∧ v = .ref a
  | .lit ns, v => ∃ a, v = .ref a ∧ LitD K H a (ns.map V.int)
  | .clo k _, v => v = .ref k
def RlL (K : Frag) (ρ : Rho) (H : Hp) : List D → List V → Prop
  | [], vs => vs = []
  | x :: xs, vs => ∃ v r, vs = v :: r ∧ Rl K ρ H x v ∧ RlL K ρ H xs r
end
/-- the pairs of a dict whose keys are ints and texts -/
def keyOf : D → Option Key
  | .int i => some (.inl i)
  | .str x => some (.inr x)
  | _ => none
def RlK (K : Frag) (ρ : Rho) (H : Hp) : List (D × D) → List (Key × V) → Prop
  | [], ws => ws = []
  | p :: r, ws => ∃ k v t, ws = (k, v) :: t ∧ keyOf p.1 = some k ∧ Rl K ρ H p.2 v ∧ RlK K ρ H r t
def RO (K : Frag) (ρ : Rho) (H : Hp) (a : Addr) : SO → Prop
  | .lst xs => ∃ vs, H a = some (.lst vs) ∧ RlL K ρ H xs vs
  | .dict kvs => ∃ ws, H a = some (.dK ws) ∧ RlK K ρ H kvs ws
  | .ins _ fs => ∃ L : List (Addr × List Int), H a = some (DicO a L) ∧ fs.map (·.2) = (L.map fun p => D.tup (ilist p.2)) ∧ ∀ p ∈ L, SqD K H p.1 (p.2.map V.int)
/-- tables of code objects: where, whose name; a state from which all came -/
structure Tbs where
  tabs : List (Addr × Str)
  anc : Option (Rho × Hp)
def TabX (τ : Tbs) (H : Hp) : Prop := LamX.Tabs τ.tabs H ∧ ∀ a ps, H a = some (.tbl ps) → ∃ q, (a, q) ∈ τ.tabs
def frozen : SO → Bool := fun _ => false
structure Ext (ρ : Rho) (H : Hp) (ρ' : Rho) (H' : Hp) : Prop where
  pre : ∃ new, ρ' = ρ ++ new
  fr : ∀ a o, H a = some o → (a ∉ ρ ∨ ¬ Mut (some o)) → (∀ ps, o ≠ .tbl ps) → H' a = some o
  new : ∀ a, a ∈ ρ' → a ∉ ρ → H a = none
  dom : ∀ a, H' a = none → H a = none
structure SR (τ : Tbs) (K : Frag) (ρ : Rho) (H : Hp) (st : Store) : Prop where
  len : ρ.length = st.length
  obj : ∀ (l : Nat) (o : SO) (a : Addr), st[l]? = some o → ρ[l]? = some a → RO K ρ H a o
  inj : ∀ (l m : Nat) (o u : SO) (a : Addr), st[l]? = some o → st[m]? = some u → frozen o = false → frozen u = false → ρ[l]? = some a → ρ[m]? = some a → l = m
  tab : TabX τ H
  anc : ∀ x, τ.anc = some x → Ext x.1 x.2 ρ H
theorem upd_dom {H : Hp} {a b : Addr} {o : HO} (h : upd H a o b = none) : H b = none := by
  by_cases e : b = a
  · subst e; rw [upd_same] at h; cases h
  · rw [upd_ne e] at h; exact h

theorem Ext.refl (ρ : Rho) (H : Hp) : Ext ρ H ρ H := ⟨⟨[], by simp⟩, fun _ _ h _ _ => h, fun a h n => absurd h n, fun _ h => h⟩
theorem Ext.at {ρ ρ' : Rho} {H H' : Hp} (e : Ext ρ H ρ' H') {l : Nat} {a : Addr} (h : ρ[l]? = some a) : ρ'[l]? = some a := by
  obtain ⟨n, rfl⟩ := e.pre
  obtain ⟨hl, _⟩ := List.getElem?_eq_some_iff.mp h
  rw [List.getElem?_append_left hl]; exact h
theorem Ext.plus {ρ ρ' : Rho} {H H' : Hp} {a : Addr} (x : Ext ρ H ρ' H') (h0 : H a = none) : Ext ρ H (ρ' ++ [a]) H' := by
  refine ⟨?_, x.fr, fun b hb hn => ?_, x.dom⟩
  · obtain ⟨k, rfl⟩ := x.pre
    exact ⟨k ++ [a], by simp⟩
  · rcases List.mem_append.mp hb with z | z
    · exact x.new b z hn
    · have : b = a := by simpa using z
      rw [this]; exact h0
theorem Ext.trans {ρ ρ1 ρ2 : Rho} {H H1 H2 : Hp} (a : Ext ρ H ρ1 H1) (b : Ext ρ1 H1 ρ2 H2) : Ext ρ H ρ2 H2 := by
  refine ⟨?_, fun p o h n nt => ?_, fun p h n => ?_, fun p h => a.dom p (b.dom p h)⟩
  · obtain ⟨n1, rfl⟩ := a.pre
    obtain ⟨n2, rfl⟩ := b.pre
    exact ⟨n1 ++ n2, by simp⟩
  · refine b.fr p o (a.fr p o h n nt) ?_ nt
    rcases n with n | n
    · left
      intro hm
      rw [a.new p hm n] at h; cases h
    · exact .inr n
  · by_cases hm : p ∈ ρ1
    · exact a.new p hm n
    · exact a.dom p (b.new p h hm)

section
variable {K : Frag} {ρ ρ' : Rho} {H H' : Hp} {st st' : Store}
theorem Ext.frz (e : Ext ρ H ρ' H') {a : Addr} {o : Obj} {u : HO} (h : H a = some (.frz o u)) : H' a = some (.frz o u) := e.fr _ _ h (.inr fun z => z) (fun _ z => by cases z)

/-- what values lean on -/
structure Mo (ρ ρ' : Rho) (H H' : Hp) : Prop where
  pos : ∀ (l : Nat) (a : Addr), ρ[l]? = some a → ρ'[l]? = some a
  frz : ∀ a o u, H a = some (.frz o u) → H' a = some (.frz o u)
theorem Ext.mo (e : Ext ρ H ρ' H') : Mo ρ ρ' H H' := ⟨fun _ _ h => e.at h, fun _ _ _ h => e.frz h⟩
theorem Mo.tup (e : Mo ρ ρ' H H') {a : Addr} {vs : List V} (h : SqD K H a vs) : SqD K H' a vs := by
  rcases h with ⟨o, h, d⟩ | h
  · exact .inl ⟨o, e.frz _ _ _ h, d⟩
  · exact .inr h
mutual
theorem Rl.mo (e : Mo ρ ρ' H H') : ∀ (d : D) (v : V), Rl K ρ H d v → Rl K ρ' H' d v
  | .non, _, h => by unfold Rl at h ⊢; exact h
  | .bl _, _, h => by unfold Rl at h ⊢; exact h
  | .int _, _, h => by unfold Rl at h ⊢; exact h
  | .str _, _, h => by unfold Rl at h ⊢; exact h
  | .tup xs, _, h => by
    unfold Rl at h ⊢
    obtain ⟨a, vs, e1, h1, h2⟩ := h
    exact ⟨a, vs, e1, e.tup h1, RlL.mo e xs vs h2⟩
  | .loc l, _, h => by
    unfold Rl at h ⊢
    obtain ⟨a, h1, h2⟩ := h
    exact ⟨a, e.pos _ _ h1, h2⟩
  | .lit ns, _, h => by
    unfold Rl at h ⊢
    obtain ⟨a, h1, h2⟩ := h
    refine ⟨a, h1, ?_⟩
    rcases h2 with ⟨o, h2⟩ | h2
    · exact .inl ⟨o, e.frz _ _ _ h2⟩
    · exact .inr h2
  | .clo _ _, _, h => by unfold Rl at h ⊢; exact h
theorem RlL.mo (e : Mo ρ ρ' H H') : ∀ (ds : List D) (vs : List V), RlL K ρ H ds vs → RlL K ρ' H' ds vs
  | [], _, h => by unfold RlL at h ⊢; exact h
  | x :: xs, _, h => by
    unfold RlL at h ⊢
    obtain ⟨v, r, e1, h1, h2⟩ := h
    exact ⟨v, r, e1, Rl.mo e x v h1, RlL.mo e xs r h2⟩
end
theorem RlK.mo (e : Mo ρ ρ' H H') : ∀ (kvs : List (D × D)) (ws : List (Key × V)), RlK K ρ H kvs ws → RlK K ρ' H' kvs ws
  | [], _, h => h
  | p :: r, _, h => by
    obtain ⟨k, v, t, e1, h1, h2, h3⟩ := h
    exact ⟨k, v, t, e1, h1, Rl.mo e _ _ h2, RlK.mo e r t h3⟩

theorem Ext.tup (e : Ext ρ H ρ' H') {a : Addr} {vs : List V} (h : SqD K H a vs) : SqD K H' a vs := e.mo.tup h
theorem Rl.mono (e : Ext ρ H ρ' H') (d : D) (v : V) (h : Rl K ρ H d v) : Rl K ρ' H' d v := Rl.mo e.mo d v h
theorem RlL.mono (e : Ext ρ H ρ' H') (ds : List D) (vs : List V) (h : RlL K ρ H ds vs) : RlL K ρ' H' ds vs := RlL.mo e.mo ds vs h
theorem RlK.mono (e : Ext ρ H ρ' H') (kvs : List (D × D)) (ws : List (Key × V)) (h : RlK K ρ H kvs ws) : RlK K ρ' H' kvs ws := RlK.mo e.mo kvs ws h
theorem RlL.nil : RlL K ρ H [] [] := by unfold RlL; rfl
theorem RlL.cons {x : D} {v : V} {xs : List D} {vs : List V} (h : Rl K ρ H x v) (t : RlL K ρ H xs vs) : RlL K ρ H (x :: xs) (v :: vs) := by
  unfold RlL; exact ⟨v, vs, rfl, h, t⟩
theorem RlL.len : ∀ {xs : List D} {vs : List V}, RlL K ρ H xs vs → xs.length = vs.length
  | [], _, h => by unfold RlL at h; rw [h]; rfl
  | x :: xs, _, h => by
    unfold RlL at h
    obtain ⟨v, r, rfl, _, h2⟩ := h
    simp [RlL.len h2]
theorem RlL.get : ∀ {xs : List D} {vs : List V} {i : Nat} {d : D}, RlL K ρ H xs vs → xs[i]? = some d → ∃ v, vs[i]? = some v ∧ Rl K ρ H d v
  | [], _, i, d, _, e => by simp at e
  | x :: xs, _, 0, d, h, e => by
    unfold RlL at h
    obtain ⟨v, r, rfl, h1, _⟩ := h
    simp at e; subst e
    exact ⟨v, by simp, h1⟩
  | x :: xs, _, i + 1, d, h, e => by
    unfold RlL at h
    obtain ⟨v, r, rfl, _, h2⟩ := h
    obtain ⟨w, h3, h4⟩ := RlL.get (i := i) h2 (by simpa using e)
    exact ⟨w, by simpa using h3, h4⟩
theorem RlL.append : ∀ {xs ys : List D} {vs ws : List V}, RlL K ρ H xs vs → RlL K ρ H ys ws → RlL K ρ H (xs ++ ys) (vs ++ ws)
  | [], _, _, _, h, t => by unfold RlL at h; subst h; exact t
  | x :: xs, _, _, _, h, t => by
    unfold RlL at h
    obtain ⟨v, r, rfl, h1, h2⟩ := h
    exact RlL.cons h1 (RlL.append h2 t)
theorem RlL.set : ∀ {xs : List D} {vs : List V} {d : D} {v : V} (j : Nat), RlL K ρ H xs vs → Rl K ρ H d v → RlL K ρ H (xs.set j d) (vs.set j v)
  | [], _, _, _, _, h, _ => by unfold RlL at h; subst h; exact RlL.nil
  | x :: xs, _, _, _, 0, h, q => by
    unfold RlL at h
    obtain ⟨w, r, rfl, h1, h2⟩ := h
    exact RlL.cons q h2
  | x :: xs, _, _, _, j + 1, h, q => by
    unfold RlL at h
    obtain ⟨w, r, rfl, h1, h2⟩ := h
    exact RlL.cons h1 (RlL.set j h2 q)
theorem RlL.take : ∀ {xs : List D} {vs : List V} (n : Nat), RlL K ρ H xs vs → RlL K ρ H (xs.take n) (vs.take n)
  | _, _, 0, _ => by simp; exact RlL.nil
  | [], _, n + 1, h => by unfold RlL at h; subst h; exact RlL.nil
  | x :: xs, _, n + 1, h => by
    unfold RlL at h
    obtain ⟨w, r, rfl, h1, h2⟩ := h
    exact RlL.cons h1 (RlL.take n h2)
theorem RlL.drop : ∀ {xs : List D} {vs : List V} (n : Nat), RlL K ρ H xs vs → RlL K ρ H (xs.drop n) (vs.drop n)
  | _, _, 0, h => by simpa using h
  | [], _, n + 1, h => by unfold RlL at h; subst h; exact RlL.nil
  | x :: xs, _, n + 1, h => by
    unfold RlL at h
    obtain ⟨w, r, rfl, h1, h2⟩ := h
    exact RlL.drop n h2
theorem RlL.reverse : ∀ {xs : List D} {vs : List V}, RlL K ρ H xs vs → RlL K ρ H xs.reverse vs.reverse
  | [], _, h => by unfold RlL at h; subst h; exact RlL.nil
  | x :: xs, _, h => by
    unfold RlL at h
    obtain ⟨w, r, rfl, h1, h2⟩ := h
    rw [List.reverse_cons, List.reverse_cons]
    exact RlL.append (RlL.reverse h2) (RlL.cons h1 RlL.nil)
theorem RlL.eraseIdx : ∀ {xs : List D} {vs : List V} (j : Nat), RlL K ρ H xs vs → RlL K ρ H (xs.eraseIdx j) (vs.eraseIdx j)
  | [], _, _, h => by unfold RlL at h; subst h; exact RlL.nil
  | x :: xs, _, 0, h => by
    unfold RlL at h
    obtain ⟨w, r, rfl, h1, h2⟩ := h
    exact h2
  | x :: xs, _, j + 1, h => by
    unfold RlL at h
    obtain ⟨w, r, rfl, h1, h2⟩ := h
    exact RlL.cons h1 (RlL.eraseIdx j h2)
theorem RlL.dropLast {xs : List D} {vs : List V} (h : RlL K ρ H xs vs) : RlL K ρ H xs.dropLast vs.dropLast := by
  rw [List.dropLast_eq_take, List.dropLast_eq_take, h.len]
  exact h.take _
theorem RlL.ofInts : ∀ ns : List Int, RlL K ρ H (ns.map D.int) (ns.map V.int)
  | [] => RlL.nil
  | n :: r => RlL.cons (by unfold Rl; rfl) (RlL.ofInts r)
theorem RlL.ints : ∀ {xs : List D} {vs : List V} {ns : List Int}, RlL K ρ H xs vs → intsOf xs = some ns → vs = ns.map V.int ∧ xs = ns.map D.int
  | [], _, ns, h, e => by
    unfold RlL at h; subst h
    simp [intsOf] at e; subst e; exact ⟨rfl, rfl⟩
  | x :: xs, _, ns, h, e => by
    unfold RlL at h
    obtain ⟨w, r, rfl, h1, h2⟩ := h
    cases x with
    | int i =>
      simp only [intsOf, Option.map_eq_some_iff] at e
      obtain ⟨ms, e1, rfl⟩ := e
      unfold Rl at h1
      obtain ⟨q1, q2⟩ := RlL.ints h2 e1
      rw [q1, q2, h1]; exact ⟨rfl, rfl⟩
    | _ => simp [intsOf] at e
theorem RlL.bools : ∀ {xs : List D} {vs : List V} {ns : List Bool}, RlL K ρ H xs vs → boolsOf xs = some ns → vs = ns.map V.bl
  | [], _, ns, h, e => by
    unfold RlL at h; subst h
    simp [boolsOf] at e; subst e; rfl
  | x :: xs, _, ns, h, e => by
    unfold RlL at h
    obtain ⟨w, r, rfl, h1, h2⟩ := h
    cases x with
    | bl i =>
      simp only [boolsOf, Option.map_eq_some_iff] at e
      obtain ⟨ms, e1, rfl⟩ := e
      unfold Rl at h1
      rw [RlL.bools h2 e1, h1]; rfl
    | _ => simp [boolsOf] at e

theorem SR.ex (s : SR τ K ρ H st) {l : Nat} {o : SO} (h : st[l]? = some o) : ∃ a, ρ[l]? = some a ∧ RO K ρ H a o := by
  have hl : l < ρ.length := by rw [s.len]; exact (List.getElem?_eq_some_iff.mp h).1
  exact ⟨ρ[l], by simp [hl], s.obj l o _ h (by simp [hl])⟩
theorem SR.getL (s : SR τ K ρ H st) {l : Nat} {xs : List D} {a : Addr} (h : getL st l = some xs) (ha : ρ[l]? = some a) : ∃ vs, SqL K H a vs ∧ RlL K ρ H xs vs := by
  unfold Cr.getL at h
  cases e : st[l]? with
  | none => rw [e] at h; cases h
  | some o =>
    rw [e] at h
    have ho := s.obj l o a e ha
    cases o with
    | lst ys =>
      cases h
      obtain ⟨vs, h1, h2⟩ := ho
      exact ⟨vs, SqL.of h1, h2⟩
    | dict _ => cases h
    | ins _ _ => cases h
theorem RO.mo (e : Mo ρ ρ' H H') {a : Addr} {o : SO} (h : RO K ρ H a o) (k' : frozen o = false → ∀ u, H a = some u → H' a = some u) : RO K ρ' H' a o := by
  cases o with
  | lst xs =>
    obtain ⟨vs, h1, h2⟩ := h
    exact ⟨vs, k' rfl _ h1, RlL.mo e xs vs h2⟩
  | dict kvs =>
    obtain ⟨ws, h1, h2⟩ := h
    exact ⟨ws, k' rfl _ h1, RlK.mo e kvs ws h2⟩
  | ins _ _ =>
    obtain ⟨L, h1, h2, h3⟩ := h
    exact ⟨L, k' rfl _ h1, h2, fun p hp => e.tup (h3 p hp)⟩
theorem RO.mono (e : Ext ρ H ρ' H') {a : Addr} {o : SO} (h : RO K ρ H a o) (k' : frozen o = false → ∀ u, H a = some u → H' a = some u) : RO K ρ' H' a o := RO.mo e.mo h k'
end
end Cr

set_option maxRecDepth 100000
namespace Cr
open PySem L2

def RE (K : Frag) (ρ : Rho) (H : Hp) (env : Env) (σ : L2.St) : Prop :=
  env.length = σ.length ∧ ∀ (i : Nat) (d : D), env[i]? = some (some d) → ∃ v, σ[i]? = some (some v) ∧ Rl K ρ H d v
/-- an exception of one of the module's own classes -/
def XR (K : Frag) (mg : Str → Option Value) (ρ : Rho) (H : Hp) (c : Str) (fs : List (Str × D)) (cls : Value) (dx : Option Addr) : Prop :=
  mg c = some cls ∧ match fs with
    | [] => dx = none
    | [(f, d)] => ∃ a v, dx = some a ∧ H a = some (.xd [(f, v)]) ∧ Rl K ρ H d v
    | _ => False
/-- what the module says, and what is wanted of an exception -/
structure Cf where
  K : Frag
  mg : Str → Option Value
  τ : Tbs
def Post {α β : Type} (F : Cf) (R : Rho → Hp → α → β → Prop) (W : Value → Option Addr → Hp → Prop) (r : Rs α) (ρ : Rho) (H : Hp) (Q : β → Hp → Prop) : Prop :=
  match r with
  | .ok a st' => ∀ ρ' H' v, Ext ρ H ρ' H' → SR F.τ F.K ρ' H' st' → R ρ' H' a v → Q v H'
  | .exc c fs st' => ∀ ρ' H' cls dx, Ext ρ H ρ' H' → SR F.τ F.K ρ' H' st' → XR F.K F.mg ρ' H' c fs cls dx → W cls dx H'
  | .err => False
section
variable {F : Cf} {α β γ δ : Type} {R : Rho → Hp → α → β → Prop} {S : Rho → Hp → γ → δ → Prop} {W : Value → Option Addr → Hp → Prop} {ρ ρ1 : Rho} {H H1 : Hp} {σ : L2.St}
theorem Mo.trans {ρ ρ1 ρ2 : Rho} {H H1 H2 : Hp} (a : Mo ρ ρ1 H H1) (b : Mo ρ1 ρ2 H1 H2) : Mo ρ ρ2 H H2 := ⟨fun l x h => b.pos l x (a.pos l x h), fun x o u h => b.frz x o u (a.frz x o u h)⟩
theorem RE.mo {ρ ρ' : Rho} {H H' : Hp} {K : Frag} {env : Env} {σ : L2.St} (e : Mo ρ ρ' H H') (h : RE K ρ H env σ) : RE K ρ' H' env σ :=
  ⟨h.1, fun i d hi => let ⟨v, h1, h2⟩ := h.2 i d hi; ⟨v, h1, Rl.mo e _ _ h2⟩⟩
theorem RE.mono {ρ' : Rho} {H' : Hp} {K : Frag} {env : Env} (h : RE K ρ H env σ) (e : Ext ρ H ρ' H') : RE K ρ' H' env σ :=
  ⟨h.1, fun i d q => let ⟨v, a, b⟩ := h.2 i d q; ⟨v, a, Rl.mono e _ _ b⟩⟩
theorem Post.imp {r : Rs α} {Q Q' : β → Hp → Prop} (h : Post F R W r ρ H Q) (k : ∀ v H', Q v H' → Q' v H') : Post F R W r ρ H Q' := by
  unfold Post at h ⊢
  cases r with
  | ok a st => exact fun ρ' H' v e s q => k _ _ (h ρ' H' v e s q)
  | exc c fs st => exact h
  | err => exact h
theorem Post.from {r : Rs α} {Q : β → Hp → Prop} (h : Post F R W r ρ H Q) (e : Ext ρ H ρ1 H1) : Post F R W r ρ1 H1 Q := by
  unfold Post at h ⊢
  cases r with
  | ok a st => exact fun ρ' H' v e' s q => h ρ' H' v (e.trans e') s q
  | exc c fs st => exact fun ρ' H' cls dx e' s q => h ρ' H' cls dx (e.trans e') s q
  | err => exact h
theorem Post.bnd {m : M α} {k : α → M γ} {st : Store} {Q : δ → Hp → Prop} (h : Post F S W (M.bnd m k st) ρ H Q) :
    Post F R W (m st) ρ H fun v H1 => ∃ a st1 ρ1, Ext ρ H ρ1 H1 ∧ SR F.τ F.K ρ1 H1 st1 ∧ R ρ1 H1 a v ∧ Post F S W (k a st1) ρ1 H1 Q := by
  unfold M.bnd at h
  cases e : m st with
  | ok a st1 =>
    rw [e] at h
    exact fun ρ1 H1 v x s q => ⟨a, st1, ρ1, x, s, q, h.from x⟩
  | exc c fs st1 => rw [e] at h; exact h
  | err => rw [e] at h; exact h
theorem Post.ret {a : α} {st : Store} {v : β} {Q : β → Hp → Prop} (h : Post F R W (M.ret a st) ρ H Q) (s : SR F.τ F.K ρ H st) (q : R ρ H a v) : Q v H := h ρ H v (Ext.refl _ _) s q
theorem Post.ok {a : α} {st : Store} {v : β} {Q : β → Hp → Prop} (h : Post F R W (.ok a st) ρ H Q) (s : SR F.τ F.K ρ H st) (q : R ρ H a v) : Q v H := h ρ H v (Ext.refl _ _) s q
theorem Post.opt {o : Option α} {st : Store} {Q : β → Hp → Prop} (h : Post F R W (M.opt o st) ρ H Q) : ∃ a, o = some a ∧ Post F R W (.ok a st) ρ H Q := by
  unfold M.opt at h
  cases o with
  | some a => exact ⟨a, rfl, h⟩
  | none => exact False.elim h
theorem tabs_new {τ : Tbs} {p : Addr} {u : HO} (t : TabX τ H) (hp : H p = none) (hu : ∀ ps, u ≠ .tbl ps) : TabX τ (upd H p u) := ⟨t.1.ext fun b o e => by rw [upd_ne (ne_of_none e hp)]; exact e, fun a ps e => by
  by_cases h : a = p
  · rw [h, upd_same] at e; exact absurd (Option.some.inj e) (hu ps)
  · rw [upd_ne h] at e; exact t.2 a ps e⟩
theorem tabs_set {τ : Tbs} {p : Addr} {u : HO} (t : TabX τ H) (h1 : ∀ ps, H p ≠ some (.tbl ps)) (h2 : ∀ c q, H p ≠ some (LamX.CodeO c q)) (hu : ∀ ps, u ≠ .tbl ps) : TabX τ (upd H p u) := by
  refine ⟨fun q hq => ?_, fun a ps e => ?_⟩
  · obtain ⟨ps, a, b, c⟩ := t.1 q hq
    refine ⟨ps, by rw [upd_ne (fun z => h1 ps (by rw [← z]; exact a))]; exact a, b, fun pos cv e => ?_⟩
    obtain ⟨d, e1, e2⟩ := c pos cv e
    exact ⟨d, e1, by rw [upd_ne (fun z => h2 d q.2 (by rw [← z]; exact e2))]; exact e2⟩
  · by_cases h : a = p
    · rw [h, upd_same] at e; exact absurd (Option.some.inj e) (hu ps)
    · rw [upd_ne h] at e; exact t.2 a ps e
/-- the store's own step: a new object -/
theorem SR.alloc {K : Frag} {st : Store} {p : Addr} {o : SO} {u : HO} (s : SR τ K ρ H st) (hp : H p = none) (h : RO K (ρ ++ [p]) (upd H p u) p o) (hm : frozen o = false) (hu : ∀ ps, u ≠ .tbl ps := by intro _ z; cases z) : SR τ K (ρ ++ [p]) (upd H p u) (st ++ [o]) ∧ Ext ρ H (ρ ++ [p]) (upd H p u) := by
  have ext : Ext ρ H (ρ ++ [p]) (upd H p u) := by
    refine ⟨⟨[p], rfl⟩, fun a v e _ _ => by rw [upd_ne (ne_of_none e hp)]; exact e, fun a h1 h2 => ?_, fun _ h => upd_dom h⟩
    rcases List.mem_append.mp h1 with z | z
    · exact absurd z h2
    · have : a = p := by simpa using z
      rw [this]; exact hp
  refine ⟨⟨by simp [s.len], fun l q a h1 h2 => ?_, fun l m q w a h1 h2 h3 h4 h5 h6 => ?_, tabs_new s.tab hp hu, fun x hx => (s.anc x hx).trans ext⟩, ext⟩
  · by_cases hl : l < st.length
    · rw [List.getElem?_append_left hl] at h1
      rw [List.getElem?_append_left (by rw [s.len]; exact hl)] at h2
      exact RO.mono ext (s.obj l q a h1 h2) fun _ v e => by rw [upd_ne (ne_of_none e hp)]; exact e
    · have hle : st.length ≤ l := Nat.le_of_not_lt hl
      rw [List.getElem?_append_right hle] at h1
      rw [List.getElem?_append_right (by rw [s.len]; exact hle), s.len] at h2
      cases hk : l - st.length with
      | zero => rw [hk] at h1 h2; simp at h1 h2; subst h1; subst h2; exact h
      | succ k => rw [hk] at h1; simp at h1
  · have fresh : ∀ (l : Nat) (q : SO) (a : Addr), st[l]? = some q → frozen q = false → ρ[l]? = some a → a ≠ p := fun l q a h1 h3 h5 z => by
      have := s.obj l q a h1 h5
      subst z
      cases q with
      | lst xs => obtain ⟨vs, e, _⟩ := this; rw [hp] at e; cases e
      | dict kvs => obtain ⟨vs, e, _⟩ := this; rw [hp] at e; cases e
      | ins _ _ => obtain ⟨L, e, _⟩ := this; rw [hp] at e; cases e
    have split : ∀ (l : Nat) (q : SO) (a : Addr), (st ++ [o])[l]? = some q → (ρ ++ [p])[l]? = some a → (st[l]? = some q ∧ ρ[l]? = some a) ∨ (l = st.length ∧ a = p) := fun l q a h1 h2 => by
      by_cases hl : l < st.length
      · rw [List.getElem?_append_left hl] at h1
        rw [List.getElem?_append_left (by rw [s.len]; exact hl)] at h2
        exact .inl ⟨h1, h2⟩
      · have hle : st.length ≤ l := Nat.le_of_not_lt hl
        rw [List.getElem?_append_right hle] at h1
        rw [List.getElem?_append_right (by rw [s.len]; exact hle), s.len] at h2
        cases hk : l - st.length with
        | zero => rw [hk] at h2; simp at h2; exact .inr ⟨by omega, h2.symm⟩
        | succ k => rw [hk] at h1; simp at h1
    rcases split l q a h1 h5 with ⟨a1, a2⟩ | ⟨a1, a2⟩ <;> rcases split m w a h2 h6 with ⟨b1, b2⟩ | ⟨b1, b2⟩
    · exact s.inj l m q w a a1 b1 h3 h4 a2 b2
    · exact absurd b2 (fresh l q a a1 h3 a2)
    · exact absurd a2 (fresh m w a b1 h4 b2)
    · omega
/-- a new object that the store does not know -/
theorem SR.beside {K : Frag} {st : Store} {p : Addr} {u : HO} (s : SR τ K ρ H st) (hp : H p = none) (hu : ∀ ps, u ≠ .tbl ps := by intro _ z; cases z) : SR τ K ρ (upd H p u) st ∧ Ext ρ H ρ (upd H p u) := by
  have ext : Ext ρ H ρ (upd H p u) := ⟨⟨[], by simp⟩, fun a v e _ _ => by rw [upd_ne (ne_of_none e hp)]; exact e, fun a h1 h2 => absurd h1 h2, fun _ h => upd_dom h⟩
  exact ⟨⟨s.len, fun l q a h1 h2 => RO.mono ext (s.obj l q a h1 h2) fun _ v e => by rw [upd_ne (ne_of_none e hp)]; exact e, s.inj, tabs_new s.tab hp hu, fun x hx => (s.anc x hx).trans ext⟩, ext⟩
/-- an object of the store's changes -/
theorem SR.setX {K : Frag} {st : Store} {l : Nat} {a : Addr} {o o' : SO} {u : HO} (s : SR τ K ρ H st) (hl : st[l]? = some o) (ha : ρ[l]? = some a) (hm : frozen o = false) (hm' : frozen o' = false) (hd : Mut (H a)) (hx : ∀ c q, H a ≠ some (LamX.CodeO c q)) (h : RO K ρ (upd H a u) a o') (hu : ∀ ps, u ≠ .tbl ps := by intro _ z; cases z) :
    SR τ K ρ (upd H a u) (st.set l o') ∧ Ext ρ H ρ (upd H a u) := by
  have ext : Ext ρ H ρ (upd H a u) := by
    refine ⟨⟨[], by simp⟩, fun b v e n _ => ?_, fun b h1 h2 => absurd h1 h2, fun _ h => upd_dom h⟩
    have hb : b ≠ a := by
      rintro rfl
      rcases n with n | n
      · exact n (List.mem_of_getElem? ha)
      · rw [e] at hd; exact n hd
    rw [upd_ne hb]; exact e
  have hll : l < st.length := (List.getElem?_eq_some_iff.mp hl).1
  refine ⟨⟨by simp [s.len], fun m q b h1 h2 => ?_, fun m k q w b h1 h2 h3 h4 h5 h6 => ?_, tabs_set s.tab (fun ps z => by rw [z] at hd; exact hd) hx hu, fun x hx => (s.anc x hx).trans ext⟩, ext⟩
  · by_cases e : m = l
    · subst e
      rw [List.getElem?_set_self hll] at h1
      rw [ha] at h2
      cases h1; cases h2
      exact h
    · rw [List.getElem?_set_ne (Ne.symm e)] at h1
      refine RO.mono ext (s.obj m q b h1 h2) fun hf v ev => ?_
      have hb : b ≠ a := by
        rintro rfl
        exact e (s.inj m l q o b h1 hl hf hm h2 ha)
      rw [upd_ne hb]; exact ev
  · have back : ∀ (m : Nat) (q : SO), (st.set l o')[m]? = some q → frozen q = false → ∃ q', st[m]? = some q' ∧ frozen q' = false := fun m q h1 h3 => by
      by_cases e : m = l
      · subst e; exact ⟨o, hl, hm⟩
      · rw [List.getElem?_set_ne (Ne.symm e)] at h1
        exact ⟨q, h1, h3⟩
    obtain ⟨q', a1, a2⟩ := back m q h1 h3
    obtain ⟨w', b1, b2⟩ := back k w h2 h4
    exact s.inj m k q' w' b a1 b1 a2 b2 h5 h6
theorem SR.set {K : Frag} {st : Store} {l : Nat} {a : Addr} {o o' : SO} {u : HO} (s : SR τ K ρ H st) (hl : st[l]? = some o) (ha : ρ[l]? = some a) (hm : frozen o = false) (hm' : frozen o' = false) (hd : Mut (H a)) (hx : ∀ φ, H a ≠ some (.ext φ)) (h : RO K ρ (upd H a u) a o') (hu : ∀ ps, u ≠ .tbl ps := by intro _ z; cases z) :
    SR τ K ρ (upd H a u) (st.set l o') ∧ Ext ρ H ρ (upd H a u) := s.setX hl ha hm hm' hd (fun c q => hx _) h hu
end
abbrev VW := Value → Option Addr → Hp → Prop
/-- what a computation that leans on the slots is worth -/
def tM {α β : Type} (F : Cf) (R : Rho → Hp → α → β → Prop) (W : VW) (m : Env → M α) : L2.St → Hp → (β → Hp → Prop) → Prop := fun σ H Q =>
  ∃ env st ρ, RE F.K ρ H env σ ∧ SR F.τ F.K ρ H st ∧ Post F R W (m env st) ρ H Q
abbrev tE (F : Cf) (W : VW) (m : Env → M D) : TE := tM F (Rl F.K) W m
abbrev RB : Rho → Hp → Bool → Bool → Prop := fun _ _ b c => b = c
abbrev tT (F : Cf) (W : VW) (m : Env → M Bool) : TT := tM F RB W m
abbrev tA (F : Cf) (W : VW) (m : Env → M (List D)) : TA := tM F (RlL F.K) W m
theorem _root_.L2.PE.imp {X : Cx} {e : Expr} {t t' : TE} (h : PE X e t) (k : ∀ σ H Q, t' σ H Q → t σ H Q) : PE X e t' := ⟨fun pins s σ H Q I q => h.run pins s σ H Q I (k σ H Q q)⟩
theorem _root_.L2.PT.imp {X : Cx} {e : Expr} {t t' : TT} (h : PT X e t) (k : ∀ σ H Q, t' σ H Q → t σ H Q) : PT X e t' := ⟨fun pins s σ H Q I q => h.run pins s σ H Q I (k σ H Q q)⟩
theorem _root_.L2.PW.imp {X : Cx} {e : Expr} {t t' : TT} (h : PW X e t) (k : ∀ σ H Q, t' σ H Q → t σ H Q) : PW X e t' := ⟨fun wh pins s σ H Q I q => h.run wh pins s σ H Q I (k σ H Q q)⟩
theorem _root_.L2.PA.imp {X : Cx} {e : List Expr} {t t' : TA} (h : PA X e t) (k : ∀ σ H Q, t' σ H Q → t σ H Q) : PA X e t' := ⟨fun pos pins s σ H Q I q => h.run pos pins s σ H Q I (k σ H Q q)⟩
section
variable {F : Cf} {W : VW} {σ : L2.St} {H : Hp}
/-- step: a first computation, then what hangs on it -/
theorem tM.step {α β γ δ : Type} {R : Rho → Hp → α → β → Prop} {S : Rho → Hp → γ → δ → Prop} {m : Env → M α} {k : Env → α → M γ} {Q : δ → Hp → Prop} {Q' : β → Hp → Prop}
    (h : tM F S W (fun env => M.bnd (m env) (k env)) σ H Q)
    (go : ∀ env a v st1 ρ1 H1, RE F.K ρ1 H1 env σ → SR F.τ F.K ρ1 H1 st1 → R ρ1 H1 a v → Post F S W (k env a st1) ρ1 H1 Q → Q' v H1) : tM F R W m σ H Q' := by
  obtain ⟨env, st, ρ, he, hs, hp⟩ := h
  exact ⟨env, st, ρ, he, hs, hp.bnd.imp fun v H1 ⟨a, st1, ρ1, x, s1, r, q⟩ => go env a v st1 ρ1 H1 (he.mono x) s1 r q⟩
end
end Cr

set_option maxRecDepth 100000
set_option maxHeartbeats 1000000
namespace Cr
open PySem PySem.Spec PyProof.Rows PySem.Calls L2
structure Gx (F : Cf) (X : Cx) : Prop where
  K : X.K = F.K
  mg : X.mg = F.mg
  calm : X.calm = true
  un : X.A.units + 200 < cLine
  guards : X.A.guards = some []

theorem sz5 {n : Nat} (h : n ≤ 100000) : n ≤ sizeLine := Nat.le_trans h (by rw [sizeLine_eq]; decide)
theorem sz5' {n : Nat} (h : n < 100000) : n < sizeLine := Nat.lt_of_lt_of_le h (by rw [sizeLine_eq]; decide)
section
variable {F : Cf} {X : Cx} {W : VW} {ρ : Rho} {H : Hp} {st : Store}
theorem Post.newL {xs : List D} {vs : List V} {p : Addr} {Q : VK} (h : Post F (Rl F.K) W (.ok (.loc st.length) (st ++ [.lst xs])) ρ H Q) (s : SR F.τ F.K ρ H st) (r : RlL F.K ρ H xs vs) (hp : H p = none) : Q (.ref p) (upd H p (.lst vs)) := by
  have e : Ext ρ H ρ (upd H p (.lst vs)) := (s.beside hp).2
  have e2 : Ext ρ H (ρ ++ [p]) (upd H p (.lst vs)) := by
    refine ⟨⟨[p], rfl⟩, e.fr, fun a h1 h2 => ?_, fun _ h => upd_dom h⟩
    rcases List.mem_append.mp h1 with z | z
    · exact absurd z h2
    · have : a = p := by simpa using z
      rw [this]; exact hp
  obtain ⟨s', e'⟩ := s.alloc (o := .lst xs) (u := .lst vs) hp ⟨vs, upd_same, RlL.mono e2 xs vs r⟩ rfl
  refine h _ _ _ e' s' ?_
  unfold Rl
  exact ⟨p, by rw [← s.len]; simp, rfl⟩
theorem Post.newT {xs : List D} {vs : List V} {p : Addr} {its : List Value} {Q : VK} (h : Post F (Rl F.K) W (.ok (.tup xs) st) ρ H Q) (s : SR F.τ F.K ρ H st) (r : RlL F.K ρ H xs vs) (hp : H p = none) : Q (.ref p) (upd H p (fz its vs)) := by
  obtain ⟨s', e'⟩ := s.beside (u := fz its vs) hp
  refine h _ _ _ e' s' ?_
  unfold Rl
  exact ⟨p, vs, rfl, SqD.new, RlL.mono e' xs vs r⟩
/-- a tuple is laid -/
theorem _root_.L2.Inv.tupN {X : Cx} {pins : List (Addr × Obj)} {σ : L2.St} {H : Hp} {s : Shared} {its : List Value} {vs : List V} (I : Inv X pins σ H s) (r : Vals vs its) (z : vs.length ≤ sizeLine) :
    Inv X pins σ (upd H s.heap.objs.size (fz its vs)) { s with heap := s.heap.push (tupO its) } ∧ H s.heap.objs.size = none :=
  ⟨I.laid (t' := s.toks) (o := fz its vs) (fun b ob q => Heap.get?_push_of_some _ q) (Nat.le_refl _) ⟨Heap.get?_push_size _ rfl, z, its, r, IsTup.new _ _⟩, I.hok.fresh (Nat.le_refl _)⟩
/-- two values in, a value out -/
def rOp (F : Cf) (W : VW) (g : D → D → M D) : R2 := fun x y H Q => ∃ dx dy st ρ, SR F.τ F.K ρ H st ∧ Rl F.K ρ H dx x ∧ Rl F.K ρ H dy y ∧ Post F (Rl F.K) W (g dx dy st) ρ H Q
/-- what an int, a text, a place is -/
theorem Rl.int {K : Frag} {i : Int} {v : V} (h : Rl K ρ H (.int i) v) : v = .int i := by unfold Rl at h; exact h
theorem Rl.str {K : Frag} {i : Str} {v : V} (h : Rl K ρ H (.str i) v) : v = .str i := by unfold Rl at h; exact h
theorem Rl.bl {K : Frag} {i : Bool} {v : V} (h : Rl K ρ H (.bl i) v) : v = .bl i := by unfold Rl at h; exact h
theorem Rl.non {K : Frag} {v : V} (h : Rl K ρ H .non v) : v = .non := by unfold Rl at h; exact h
theorem Rl.tup {K : Frag} {xs : List D} {v : V} (h : Rl K ρ H (.tup xs) v) : ∃ a vs, v = .ref a ∧ SqD K H a vs ∧ RlL K ρ H xs vs := by unfold Rl at h; exact h
theorem Rl.loc {K : Frag} {l : Nat} {v : V} (h : Rl K ρ H (.loc l) v) : ∃ a, ρ[l]? = some a ∧ v = .ref a := by unfold Rl at h; exact h
theorem Rl.lit {K : Frag} {ns : List Int} {v : V} (h : Rl K ρ H (.lit ns) v) : ∃ a, v = .ref a ∧ LitD K H a (ns.map V.int) := by unfold Rl at h; exact h
theorem Rl.clo {K : Frag} {l : Nat} {vs : List D} {v : V} (h : Rl K ρ H (.clo l vs) v) : v = .ref l := by unfold Rl at h; exact h
theorem rl_int {K : Frag} {i : Int} : Rl K ρ H (.int i) (.int i) := by unfold Rl; rfl
theorem rl_str {K : Frag} {i : Str} : Rl K ρ H (.str i) (.str i) := by unfold Rl; rfl
theorem rl_bl {K : Frag} {i : Bool} : Rl K ρ H (.bl i) (.bl i) := by unfold Rl; rfl
theorem rl_non {K : Frag} : Rl K ρ H .non .non := by unfold Rl; rfl
theorem rl_tup {K : Frag} {xs : List D} {a : Addr} {vs : List V} (h : SqD K H a vs) (r : RlL K ρ H xs vs) : Rl K ρ H (.tup xs) (.ref a) := by unfold Rl; exact ⟨a, vs, rfl, h, r⟩

theorem opr_add (g : Gx F X) : OpR X (binaryOp .Add) (rOp F W (op2 .add)) := by
  intro pins s σ H x y v u Q I rx ry ⟨dx, dy, st, ρ, hs, h1, h2, hp⟩
  cases dx with
  | int i =>
    cases dy with
    | int j =>
      obtain rfl := h1.int; obtain rfl := h2.int
      exact op_add pins s σ H _ _ v u Q I rx ry ⟨i, j, rfl, rfl, hp.ok hs rl_int⟩
    | _ => exact (show False from hp).elim
  | str i =>
    cases dy with
    | str j =>
      obtain rfl := h1.str; obtain rfl := h2.str
      simp only [op2] at hp
      by_cases hz : i.length + j.length ≤ 100000
      · rw [if_pos hz] at hp
        exact op_add_str pins s σ H _ _ v u Q I rx ry ⟨i, j, rfl, rfl, sz5 hz, hp.ok hs rl_str⟩
      · rw [if_neg hz] at hp; exact hp.elim
    | _ => exact (show False from hp).elim
  | tup xs =>
    cases dy with
    | tup ys =>
      obtain ⟨a, vs, rfl, ha, ra⟩ := h1.tup
      obtain ⟨b, ws, rfl, hb, rb⟩ := h2.tup
      simp only [op2] at hp
      by_cases hz : xs.length + ys.length ≤ 100000
      · rw [if_pos hz] at hp
        rw [ra.len, rb.len] at hz
        cases rx
        cases ry
        obtain ⟨its, q1, p1, _⟩ := I.tuple (by rw [g.K]; exact ha.t)
        obtain ⟨its2, q2, p2, _⟩ := I.tuple (by rw [g.K]; exact hb.t)
        by_cases hx : vs = []
        · subst hx
          have : xs = [] := List.length_eq_zero_iff.mp ra.len
          subst this
          cases q1
          exact cat_tup0 p1 p2 ⟨.ref b, H, I, rfl, hp.ok hs (rl_tup hb (by simpa using rb))⟩
        · refine HT.cat_tup p1 p2 (fun z => hx (q1.nil_iff.mp z)) (fun z => ⟨.ref a, H, I, rfl, ?_⟩) (fun z => ?_) (by rw [← q1.length, ← q2.length]; exact sz5 hz)
          · have e : ws = [] := q2.nil_iff.mp z
            subst e
            have : ys = [] := List.length_eq_zero_iff.mp rb.len
            subst this
            exact hp.ok hs (rl_tup ha (by simpa using ra))
          · obtain ⟨J, hn⟩ := I.tupN (q1.append q2) (by rw [List.length_append]; exact sz5 hz)
            exact ⟨.ref s.heap.objs.size, _, J, rfl, hp.newT hs (ra.append rb) hn⟩
      · rw [if_neg hz] at hp; exact hp.elim
    | _ => exact (show False from hp).elim
  | loc l =>
    cases dy with
    | loc m =>
      obtain ⟨a, ha, rfl⟩ := h1.loc
      obtain ⟨b, hb, rfl⟩ := h2.loc
      simp only [op2] at hp
      split at hp
      · rename_i xs ys e1 e2
        by_cases hz : xs.length + ys.length ≤ 100000
        · rw [if_pos hz] at hp
          obtain ⟨vs, q1, r1⟩ := hs.obj l _ a e1 ha
          obtain ⟨ws, q2, r2⟩ := hs.obj m _ b e2 hb
          rw [r1.len, r2.len] at hz
          exact op_cat pins s σ H _ _ v u Q I rx ry ⟨a, b, vs, ws, rfl, rfl, q1, q2, sz5 hz, fun p hn => hp.newL hs (r1.append r2) hn⟩
        · rw [if_neg hz] at hp; exact hp.elim
      · exact hp.elim
    | _ => exact (show False from hp).elim
  | _ => exact (show False from hp).elim
theorem opr_sub (g : Gx F X) : OpR X (binaryOp .Sub) (rOp F W (op2 .sub)) := by
  intro pins s σ H x y v u Q I rx ry ⟨dx, dy, st, ρ, hs, h1, h2, hp⟩
  cases dx with
  | int i =>
    cases dy with
    | int j =>
      obtain rfl := h1.int; obtain rfl := h2.int
      exact op_sub pins s σ H _ _ v u Q I rx ry ⟨i, j, rfl, rfl, hp.ok hs rl_int⟩
    | _ => exact (show False from hp).elim
  | _ => exact (show False from hp).elim
theorem bigOk_lt {i : Int} (h : bigOk i = true) : -(2 ^ 64) < i ∧ i < 2 ^ 64 := by
  unfold bigOk at h
  have := of_decide_eq_true h
  omega
theorem RlL.rep {K : Frag} {xs : List D} {vs : List V} (n : Nat) (r : RlL K ρ H xs vs) : RlL K ρ H (List.replicate n xs).flatten (List.replicate n vs).flatten := by
  induction n with
  | zero => exact RlL.nil
  | succ n ih =>
    rw [List.replicate_succ, List.replicate_succ, List.flatten_cons, List.flatten_cons]
    exact r.append ih
theorem opr_mul (g : Gx F X) : OpR X (binaryOp .Mult) (rOp F W (op2 .mul)) := by
  intro pins s σ H x y v u Q I rx ry ⟨dx, dy, st, ρ, hs, h1, h2, hp⟩
  cases dx with
  | int i =>
    cases dy with
    | int j =>
      obtain rfl := h1.int; obtain rfl := h2.int
      simp only [op2] at hp
      split at hp
      · rename_i hc
        simp only [Bool.or_eq_true, Bool.and_eq_true] at hc
        rcases hc with (hc | hc) | ⟨c1, c2⟩
        · exact op_mul pins s σ H _ _ v u Q I rx ry ⟨i, j, rfl, rfl, .inl (bigOk_lt hc), hp.ok hs rl_int⟩
        · exact op_mul pins s σ H _ _ v u Q I rx ry ⟨i, j, rfl, rfl, .inr (bigOk_lt hc), hp.ok hs rl_int⟩
        · exact op_mulW pins s σ H _ _ v u Q I rx ry ⟨i, j, rfl, rfl, wide_mul (of_decide_eq_true c1) (of_decide_eq_true c2) (by decide) (by decide) (by decide), hp.ok hs rl_int⟩
      · exact hp.elim
    | _ => exact (show False from hp).elim
  | loc l =>
    cases dy with
    | int j =>
      obtain ⟨a, hra, rfl⟩ := h1.loc; obtain rfl := h2.int
      simp only [op2] at hp
      split at hp
      · rename_i xs hl
        split at hp
        · rename_i hc
          obtain ⟨vs, q1, r1⟩ := hs.obj l _ a hl hra
          have hlen := r1.len
          have hsz : vs.length * j.toNat ≤ sizeLine := by
            have h1 : vs.length * j.toNat ≤ 100 * 1000 := Nat.mul_le_mul (by omega) (by omega)
            exact sz5 (Nat.le_trans h1 (by decide))
          exact op_rep pins s σ H _ _ v u Q I rx ry ⟨a, j, vs, rfl, rfl, q1, by omega, by omega, hsz, fun p hpn => hp.newL hs (RlL.rep j.toNat r1) hpn⟩
        · exact hp.elim
      · exact hp.elim
    | _ => exact (show False from hp).elim
  | _ => exact (show False from hp).elim
theorem opr_mod (g : Gx F X) : OpR X (binaryOp .Mod) (rOp F W (op2 .mod)) := by
  intro pins s σ H x y v u Q I rx ry ⟨dx, dy, st, ρ, hs, h1, h2, hp⟩
  cases dx with
  | int i =>
    cases dy with
    | int j =>
      obtain rfl := h1.int; obtain rfl := h2.int
      simp only [op2] at hp
      split at hp
      · rename_i hc
        exact op_mod pins s σ H _ _ v u Q I rx ry ⟨i, j, rfl, rfl, hc, hp.ok hs rl_int⟩
      · exact hp.elim
    | _ => exact (show False from hp).elim
  | _ => exact (show False from hp).elim
theorem opr_fdiv (g : Gx F X) : OpR X (binaryOp .FloorDiv) (rOp F W (op2 .fdiv)) := by
  intro pins s σ H x y v u Q I rx ry ⟨dx, dy, st, ρ, hs, h1, h2, hp⟩
  cases dx with
  | int i =>
    cases dy with
    | int j =>
      obtain rfl := h1.int; obtain rfl := h2.int
      simp only [op2] at hp
      split at hp
      · rename_i hc
        exact op_fdiv pins s σ H _ _ v u Q I rx ry ⟨i, j, rfl, rfl, ⟨hc.1, by omega⟩, hp.ok hs rl_int⟩
      · exact hp.elim
    | _ => exact (show False from hp).elim
  | _ => exact (show False from hp).elim
theorem opr_pow (g : Gx F X) : OpR X (binaryOp .Pow) (rOp F W (op2 .pow)) := by
  intro pins s σ H x y v u Q I rx ry ⟨dx, dy, st, ρ, hs, h1, h2, hp⟩
  cases dx with
  | int i =>
    cases dy with
    | int j =>
      obtain rfl := h1.int; obtain rfl := h2.int
      simp only [op2] at hp
      split at hp
      · rename_i hc
        exact op_pow pins s σ H _ _ v u Q I rx ry ⟨i, j, rfl, rfl, ⟨hc.1, by omega, of_decide_eq_true hc.2.2⟩, hp.ok hs rl_int⟩
      · exact hp.elim
    | _ => exact (show False from hp).elim
  | _ => exact (show False from hp).elim
def opPy : Op2 → Operator
  | .add => .Add | .sub => .Sub | .mul => .Mult | .mod => .Mod | .fdiv => .FloorDiv | .pow => .Pow
theorem opr_op2 (g : Gx F X) (o : Op2) : OpR X (binaryOp (opPy o)) (rOp F W (op2 o)) := by
  cases o
  · exact opr_add g
  · exact opr_sub g
  · exact opr_mul g
  · exact opr_mod g
  · exact opr_fdiv g
  · exact opr_pow g

theorem mapM_cons {α β : Type} (f : α → Option β) (x : α) (xs : List α) : (x :: xs).mapM f = (match f x with
    | some y => (match xs.mapM f with
      | some ys => some (y :: ys)
      | none => none)
    | none => none) := by
  rw [List.mapM_cons]
  cases f x with
  | none => rfl
  | some y => cases xs.mapM f <;> rfl
theorem pdL_dp {K : Frag} {f : D → Option PyData} (ih : ∀ (d : D) (p : PyData) (v : V), f d = some p → Rl K ρ H d v → Dp K H v p) :
    ∀ (xs : List D) (ps : List PyData) (vs : List V), xs.mapM f = some ps → RlL K ρ H xs vs → DpAll K H vs ps
  | [], ps, vs, e, r => by
    unfold RlL at r; subst r
    simp [List.mapM_nil] at e; subst e
    exact .nil
  | x :: xs, ps, vs, e, r => by
    unfold RlL at r
    obtain ⟨v, t, rfl, r1, r2⟩ := r
    rw [mapM_cons] at e
    cases e1 : f x with
    | none => rw [e1] at e; cases e
    | some p =>
      rw [e1] at e
      cases e2 : xs.mapM f with
      | none => rw [e2] at e; cases e
      | some qs =>
        rw [e2] at e
        cases e
        exact .cons (ih x p v e1 r1) (pdL_dp ih xs qs t e2 r2)
theorem pd_dp {K : Frag} (s : SR τ K ρ H st) : ∀ (n : Nat) (d : D) (p : PyData) (v : V), pd st n d = some p → Rl K ρ H d v → Dp K H v p
  | 0, _, _, _, e, _ => by cases e
  | n + 1, .non, p, v, e, r => by cases e; rw [r.non]; exact .non
  | n + 1, .bl b, p, v, e, r => by cases e; rw [r.bl]; exact .bl b
  | n + 1, .int i, p, v, e, r => by cases e; rw [r.int]; exact .int i
  | n + 1, .str x, p, v, e, r => by cases e; rw [r.str]; exact .str x
  | n + 1, .clo _ _, p, v, e, r => by cases e
  | n + 1, .tup xs, p, v, e, r => by
    obtain ⟨a, vs, rfl, ha, ra⟩ := r.tup
    simp only [pd, Option.map_eq_some_iff] at e
    obtain ⟨ps, e1, rfl⟩ := e
    exact .tup ha.t (pdL_dp (pd_dp s n) xs ps vs e1 ra)
  | n + 1, .loc l, p, v, e, r => by
    obtain ⟨a, ha, rfl⟩ := r.loc
    simp only [pd] at e
    split at e
    · rename_i xs hg
      simp only [Option.map_eq_some_iff] at e
      obtain ⟨ps, e1, rfl⟩ := e
      obtain ⟨vs, h1, h2⟩ := s.getL hg ha
      exact .lst h1 (pdL_dp (pd_dp s n) xs ps vs e1 h2)
    · cases e
theorem pdS_dp {K : Frag} (s : SR τ K ρ H st) {d : D} {p : PyData} {v : V} (e : pdS st d = some p) (r : Rl K ρ H d v) : Dp K H v p ∧ SeqAt.shaped p = true := by
  unfold pdS at e
  split at e
  · rename_i q hq
    split at e
    · rename_i hsh
      cases e
      exact ⟨pd_dp s 30 d _ v hq r, hsh⟩
    · cases e
  · cases e

/-- a comparison: two values in, a truth out -/
def rCp (F : Cf) (W : VW) (g : D → D → M Bool) : R2 := fun x y H Q => ∃ dx dy st ρ, SR F.τ F.K ρ H st ∧ Rl F.K ρ H dx x ∧ Rl F.K ρ H dy y ∧ Post F RB W (g dx dy st) ρ H (fun b H1 => Q (.bl b) H1)
theorem eqB_cases {dx dy : D} {b : Bool} (e : eqB st dx dy = some b) : (∃ x y, dx = .str x ∧ dy = .str y ∧ b = decide (x = y)) ∨ ∃ p q, pdS st dx = some p ∧ pdS st dy = some q ∧ b = PyData.eqv p q := by
  unfold eqB at e
  split at e
  · cases e; exact .inl ⟨_, _, rfl, rfl, rfl⟩
  · split at e
    · rename_i p q h1 h2
      cases e; exact .inr ⟨p, q, h1, h2, rfl⟩
    · cases e
theorem cmp_ok {o : Cp} {dx dy : D} {R : VW} {Q : Bool → Hp → Prop} (h : Post F RB W (cmp o dx dy st) ρ H Q) (s : SR F.τ F.K ρ H st) : ∃ b, cmpB o dx dy st = some b ∧ Q b H := by
  unfold cmp at h
  split at h
  · rename_i c e
    exact ⟨c, e, h.ok s rfl⟩
  · exact h.elim
theorem opr_eq (g : Gx F X) : OpR X (compareOp .Eq) (rCp F W (cmp .eq)) := by
  intro pins s σ H x y v u Q I rx ry ⟨dx, dy, st, ρ, hs, h1, h2, hp⟩
  obtain ⟨b, e, q⟩ := cmp_ok (R := W) hp hs
  rcases eqB_cases e with ⟨x, y, rfl, rfl, rfl⟩ | ⟨p, r, e1, e2, rfl⟩
  · obtain rfl := h1.str; obtain rfl := h2.str
    refine op_eq pins s σ H _ _ v u Q I rx ry ⟨rfl, ?_⟩
    have : decide (V.str x = V.str y) = decide (x = y) := by
      by_cases e : x = y
      · subst e; simp
      · rw [decide_eq_false e, decide_eq_false (fun z => e (V.str.inj z))]
    rw [this]; exact q
  · obtain ⟨d1, s1⟩ := pdS_dp hs e1 h1
    obtain ⟨d2, s2⟩ := pdS_dp hs e2 h2
    exact op_eqD (by have := g.un; omega) pins s σ H x y v u Q I rx ry ⟨p, r, by rw [g.K]; exact d1, by rw [g.K]; exact d2, s1, s2, q⟩
theorem opr_ne (g : Gx F X) : OpR X (compareOp .NotEq) (rCp F W (cmp .ne)) := by
  intro pins s σ H x y v u Q I rx ry ⟨dx, dy, st, ρ, hs, h1, h2, hp⟩
  obtain ⟨b', e', q⟩ := cmp_ok (R := W) hp hs
  simp only [cmpB, Option.map_eq_some_iff] at e'
  obtain ⟨b, e, rfl⟩ := e'
  rcases eqB_cases e with ⟨x, y, rfl, rfl, rfl⟩ | ⟨p, r, e1, e2, rfl⟩
  · obtain rfl := h1.str; obtain rfl := h2.str
    refine op_ne pins s σ H _ _ v u Q I rx ry ⟨rfl, ?_⟩
    have : decide (V.str x = V.str y) = decide (x = y) := by
      by_cases e : x = y
      · subst e; simp
      · rw [decide_eq_false e, decide_eq_false (fun z => e (V.str.inj z))]
    rw [this]; exact q
  · obtain ⟨d1, s1⟩ := pdS_dp hs e1 h1
    obtain ⟨d2, s2⟩ := pdS_dp hs e2 h2
    exact op_neD (by have := g.un; omega) pins s σ H x y v u Q I rx ry ⟨p, r, by rw [g.K]; exact d1, by rw [g.K]; exact d2, s1, s2, q⟩
end
end Cr

set_option maxRecDepth 100000
set_option maxHeartbeats 1000000
namespace Cr
open PySem PySem.Spec PyProof.Rows PySem.Calls L2
section
variable {F : Cf} {X : Cx} {W : VW} {ρ : Rho} {H : Hp} {st : Store}
theorem intsOf_map : ∀ {xs : List D} {ns : List Int}, intsOf xs = some ns → xs = ns.map D.int
  | [], ns, e => by simp [intsOf] at e; subst e; rfl
  | x :: xs, ns, e => by
    cases x with
    | int i =>
      simp only [intsOf, Option.map_eq_some_iff] at e
      obtain ⟨ms, e1, rfl⟩ := e
      rw [intsOf_map e1]; rfl
    | _ => simp [intsOf] at e
theorem lexLt_eq : ∀ ns ms : List Int, lexLt ns ms = HT.lexLt ns ms
  | [], [] => rfl
  | [], _ :: _ => rfl
  | _ :: _, [] => rfl
  | a :: r, b :: t => by
    rw [HT.lexLt_cons]
    unfold lexLt
    rw [lexLt_eq r t]
theorem opr_lt (g : Gx F X) : OpR X (compareOp .Lt) (rCp F W (cmp .lt)) := by
  intro pins s σ H x y v u Q I rx ry ⟨dx, dy, st, ρ, hs, h1, h2, hp⟩
  obtain ⟨b, e, q⟩ := cmp_ok (R := W) hp hs
  simp only [cmpB] at e
  cases dx with
  | int i =>
    cases dy with
    | int j =>
      cases e
      obtain rfl := h1.int; obtain rfl := h2.int
      exact op_lt pins s σ H _ _ v u Q I rx ry ⟨i, j, rfl, rfl, q⟩
    | _ => cases e
  | tup xs =>
    cases dy with
    | tup ys =>
      obtain ⟨a, vs, rfl, ha, ra⟩ := h1.tup
      obtain ⟨b', ws, rfl, hb, rb⟩ := h2.tup
      simp only [ltB] at e
      split at e
      · rename_i ns ms e1 e2
        cases e
        obtain ⟨rfl, _⟩ := ra.ints e1
        obtain ⟨rfl, _⟩ := rb.ints e2
        exact op_ltT (by have := g.un; omega) pins s σ H _ _ v u Q I rx ry ⟨a, b', ns, ms, rfl, rfl, by rw [g.K]; exact ha.t, by rw [g.K]; exact hb.t, by rw [← lexLt_eq]; exact q⟩
      · cases e
    | _ => cases e
  | _ => cases e
theorem opr_gt (g : Gx F X) : OpR X (compareOp .Gt) (rCp F W (cmp .gt)) := by
  intro pins s σ H x y v u Q I rx ry ⟨dx, dy, st, ρ, hs, h1, h2, hp⟩
  obtain ⟨b, e, q⟩ := cmp_ok (R := W) hp hs
  simp only [cmpB] at e
  cases dx with
  | int i =>
    cases dy with
    | int j =>
      cases e
      obtain rfl := h1.int; obtain rfl := h2.int
      exact op_gt pins s σ H _ _ v u Q I rx ry ⟨i, j, rfl, rfl, q⟩
    | _ => cases e
  | _ => cases e
theorem opr_le (g : Gx F X) : OpR X (compareOp .LtE) (rCp F W (cmp .le)) := by
  intro pins s σ H x y v u Q I rx ry ⟨dx, dy, st, ρ, hs, h1, h2, hp⟩
  obtain ⟨b, e, q⟩ := cmp_ok (R := W) hp hs
  simp only [cmpB] at e
  cases dx with
  | int i =>
    cases dy with
    | int j =>
      cases e
      obtain rfl := h1.int; obtain rfl := h2.int
      exact op_le pins s σ H _ _ v u Q I rx ry ⟨i, j, rfl, rfl, q⟩
    | _ => cases e
  | _ => cases e
theorem opr_ge (g : Gx F X) : OpR X (compareOp .GtE) (rCp F W (cmp .ge)) := by
  intro pins s σ H x y v u Q I rx ry ⟨dx, dy, st, ρ, hs, h1, h2, hp⟩
  obtain ⟨b, e, q⟩ := cmp_ok (R := W) hp hs
  simp only [cmpB] at e
  cases dx with
  | int i =>
    cases dy with
    | int j =>
      cases e
      obtain rfl := h1.int; obtain rfl := h2.int
      exact op_ge pins s σ H _ _ v u Q I rx ry ⟨i, j, rfl, rfl, q⟩
    | _ => cases e
  | _ => cases e
theorem rl_isnon {K : Frag} {d : D} {v : V} (h : Rl K ρ H d v) : decide (v = .non) = isNonB d := by
  cases d with
  | non => rw [h.non]; rfl
  | bl b => rw [h.bl]; rfl
  | int i => rw [h.int]; rfl
  | str x => rw [h.str]; rfl
  | tup xs => obtain ⟨a, vs, rfl, _⟩ := h.tup; rfl
  | loc l => obtain ⟨a, _, rfl⟩ := h.loc; rfl
  | lit _ => obtain ⟨a, rfl, _⟩ := h.lit; rfl
  | clo _ _ => rw [h.clo]; rfl
theorem opr_isN (g : Gx F X) : OpR X (compareOp .Is) (rCp F W (cmp .isN)) := by
  intro pins s σ H x y v u Q I rx ry ⟨dx, dy, st, ρ, hs, h1, h2, hp⟩
  obtain ⟨b, e, q⟩ := cmp_ok (R := W) hp hs
  cases dy with
  | non =>
    obtain rfl := h2.non
    refine op_isN pins s σ H _ _ v u Q I rx ry ⟨rfl, ?_⟩
    rw [rl_isnon h1]
    simp only [cmpB] at e
    cases e
    exact q
  | _ => simp [cmpB] at e
theorem opr_notN (g : Gx F X) : OpR X (compareOp .IsNot) (rCp F W (cmp .notN)) := by
  intro pins s σ H x y v u Q I rx ry ⟨dx, dy, st, ρ, hs, h1, h2, hp⟩
  obtain ⟨b, e, q⟩ := cmp_ok (R := W) hp hs
  cases dy with
  | non =>
    obtain rfl := h2.non
    refine op_notN pins s σ H _ _ v u Q I rx ry ⟨rfl, ?_⟩
    rw [rl_isnon h1]
    simp only [cmpB] at e
    cases e
    exact q
  | _ => simp [cmpB] at e
theorem inB_cases {da dc : D} {b : Bool} (e : inB st da dc = some b) : ∃ p ps, pdS st da = some p ∧ (pdS st dc = some (.tuple ps) ∨ pdS st dc = some (.list ps)) ∧ b = ps.any fun z => PyData.eqv z p := by
  unfold inB at e
  split at e
  · rename_i p ps h1 h2
    cases e; exact ⟨p, ps, h1, .inl h2, rfl⟩
  · rename_i p ps h1 h2
    cases e; exact ⟨p, ps, h1, .inr h2, rfl⟩
  · cases e
theorem opr_in (g : Gx F X) : OpR X (compareOp .In) (rCp F W (cmp .isIn)) := by
  intro pins s σ H x y v u Q I rx ry ⟨dx, dy, st, ρ, hs, h1, h2, hp⟩
  obtain ⟨b, e, q⟩ := cmp_ok (R := W) hp hs
  obtain ⟨p, ps, e1, e2, rfl⟩ := inB_cases e
  obtain ⟨d1, s1⟩ := pdS_dp hs e1 h1
  have hu := g.un
  rw [← g.K] at d1
  rcases e2 with e2 | e2
  · obtain ⟨d2, s2⟩ := pdS_dp hs e2 h2
    rw [← g.K] at d2
    obtain ⟨as, r1⟩ := Dp.reads I p x v d1 rx
    obtain ⟨bs, r2⟩ := Dp.reads I (.tuple ps) y u d2 ry
    exact SeqAt.in_tuple_reads r2 r1 (SeqAt.canLay_of_shaped s2) (SeqAt.canLay_of_shaped s1) (room_in_shaped s1 (by omega)) ⟨.bl _, H, I, rfl, q⟩
  · obtain ⟨d2, s2⟩ := pdS_dp hs e2 h2
    rw [← g.K] at d2
    obtain ⟨as, r1⟩ := Dp.reads I p x v d1 rx
    obtain ⟨bs, r2⟩ := Dp.reads I (.list ps) y u d2 ry
    exact SeqAt.in_list_reads r2 r1 (SeqAt.canLay_of_shaped s2) (SeqAt.canLay_of_shaped s1) (room_in_shaped s1 (by omega)) ⟨.bl _, H, I, rfl, q⟩
theorem opr_notIn (g : Gx F X) : OpR X (compareOp .NotIn) (rCp F W (cmp .notIn)) := by
  intro pins s σ H x y v u Q I rx ry ⟨dx, dy, st, ρ, hs, h1, h2, hp⟩
  obtain ⟨b', e', q⟩ := cmp_ok (R := W) hp hs
  simp only [cmpB, Option.map_eq_some_iff] at e'
  obtain ⟨b, e, rfl⟩ := e'
  obtain ⟨p, ps, e1, e2, rfl⟩ := inB_cases e
  obtain ⟨d1, s1⟩ := pdS_dp hs e1 h1
  have hu := g.un
  rw [← g.K] at d1
  rcases e2 with e2 | e2
  · obtain ⟨d2, s2⟩ := pdS_dp hs e2 h2
    rw [← g.K] at d2
    obtain ⟨as, r1⟩ := Dp.reads I p x v d1 rx
    obtain ⟨bs, r2⟩ := Dp.reads I (.tuple ps) y u d2 ry
    exact SeqAt.notIn_tuple_reads r2 r1 (SeqAt.canLay_of_shaped s2) (SeqAt.canLay_of_shaped s1) (room_in_shaped s1 (by omega)) ⟨.bl _, H, I, rfl, q⟩
  · obtain ⟨d2, s2⟩ := pdS_dp hs e2 h2
    rw [← g.K] at d2
    obtain ⟨as, r1⟩ := Dp.reads I p x v d1 rx
    obtain ⟨bs, r2⟩ := Dp.reads I (.list ps) y u d2 ry
    exact SeqAt.notIn_list_reads r2 r1 (SeqAt.canLay_of_shaped s2) (SeqAt.canLay_of_shaped s1) (room_in_shaped s1 (by omega)) ⟨.bl _, H, I, rfl, q⟩
def cpPy : Cp → CmpOp
  | .eq => .Eq | .ne => .NotEq | .lt => .Lt | .le => .LtE | .gt => .Gt | .ge => .GtE | .isN => .Is | .notN => .IsNot | .isIn => .In | .notIn => .NotIn
theorem opr_cmp (g : Gx F X) (o : Cp) : OpR X (compareOp (cpPy o)) (rCp F W (cmp o)) := by
  cases o
  · exact opr_eq g
  · exact opr_ne g
  · exact opr_lt g
  · exact opr_le g
  · exact opr_gt g
  · exact opr_ge g
  · exact opr_isN g
  · exact opr_notN g
  · exact opr_in g
  · exact opr_notIn g

theorem tru_D (g : Gx F X) : TruR X (fun x H Q => ∃ dx st ρ, SR F.τ F.K ρ H st ∧ Rl F.K ρ H dx x ∧ Post F RB W (truthy dx st) ρ H Q) := by
  intro pins s σ H x v Q I rx ⟨dx, st, ρ, hs, h1, hp⟩
  cases dx with
  | bl b => obtain rfl := h1.bl; exact tru_ok pins s σ H _ v Q I rx ⟨b, rfl, hp.ok hs rfl⟩
  | non => obtain rfl := h1.non; exact tru_ok pins s σ H _ v Q I rx ⟨false, rfl, hp.ok hs rfl⟩
  | int i => obtain rfl := h1.int; exact tru_ok pins s σ H _ v Q I rx ⟨(i != 0), rfl, hp.ok hs rfl⟩
  | str x => exact (show False from hp).elim
  | tup xs =>
    obtain ⟨a, vs, rfl, ha, ra⟩ := h1.tup
    refine tru_ok pins s σ H _ v Q I rx ⟨!xs.isEmpty, .inr (.inl ⟨vs, by rw [g.K]; exact ha.t, ?_⟩), hp.ok hs rfl⟩
    have := ra.len
    cases xs <;> cases vs <;> simp at this ⊢
  | loc l =>
    obtain ⟨a, ha, rfl⟩ := h1.loc
    simp only [truthy] at hp
    split at hp
    · rename_i xs hg
      obtain ⟨vs, h2, h3⟩ := hs.getL hg ha
      refine tru_ok pins s σ H _ v Q I rx ⟨!xs.isEmpty, .inl ⟨vs, by rw [g.K]; exact h2, ?_⟩, hp.ok hs rfl⟩
      have := h3.len
      cases xs <;> cases vs <;> simp at this ⊢
    · exact hp.elim
  | lit _ => exact (show False from hp).elim
  | clo _ _ => exact (show False from hp).elim

def rC1 (F : Cf) (W : VW) (g : D → M D) : List V → Hp → VK → Prop := fun xs H Q => ∃ x dx st ρ, xs = [x] ∧ SR F.τ F.K ρ H st ∧ Rl F.K ρ H dx x ∧ Post F (Rl F.K) W (g dx st) ρ H Q
theorem unr_neg (g : Gx F X) : UnR X (unaryOp .USub) (fun x H Q => ∃ dx st ρ, SR F.τ F.K ρ H st ∧ Rl F.K ρ H dx x ∧ Post F (Rl F.K) W (f1 .neg dx st) ρ H Q) := by
  intro pins s σ H x v Q I rx ⟨dx, st, ρ, hs, h1, hp⟩
  cases dx with
  | int i => obtain rfl := h1.int; exact un_neg pins s σ H _ v Q I rx ⟨i, rfl, hp.ok hs rl_int⟩
  | _ => exact (show False from hp).elim
theorem cr_abs1 (g : Gx F X) : CallR X (.builtin "abs") (rC1 F W (f1 .abs)) := by
  intro pins s σ H xs us Q I r ⟨x, dx, st, ρ, e, hs, h1, hp⟩
  cases dx with
  | int i => subst e; obtain rfl := h1.int; exact call_abs pins s σ H _ us Q I r ⟨i, rfl, hp.ok hs rl_int⟩
  | _ => exact (show False from hp).elim
theorem cr_int1 (g : Gx F X) : CallR X (.type "int") (rC1 F W (f1 .int)) := by
  intro pins s σ H xs us Q I r ⟨x, dx, st, ρ, e, hs, h1, hp⟩
  cases dx with
  | int i => subst e; obtain rfl := h1.int; exact call_int1 pins s σ H _ us Q I r (.inl ⟨i, rfl, hp.ok hs rl_int⟩)
  | bl b => subst e; obtain rfl := h1.bl; exact call_int1 pins s σ H _ us Q I r (.inr ⟨b, rfl, hp.ok hs rl_int⟩)
  | _ => exact (show False from hp).elim
theorem cr_len1 (g : Gx F X) : CallR X (.builtin "len") (rC1 F W (f1 .len)) := by
  intro pins s σ H xs us Q I r ⟨x, dx, st, ρ, e, hs, h1, hp⟩
  subst e
  cases dx with
  | tup ys =>
    obtain ⟨a, vs, rfl, ha, ra⟩ := h1.tup
    exact call_len_seq pins s σ H _ us Q I r ⟨a, vs, rfl, .inr (by rw [g.K]; exact ha.t), by rw [← ra.len]; exact hp.ok hs rl_int⟩
  | lit ns =>
    obtain ⟨a, rfl, ha⟩ := h1.lit
    exact call_len_seq pins s σ H _ us Q I r ⟨a, ns.map V.int, rfl, .inl (by rw [g.K]; exact ha.l), by rw [List.length_map]; exact hp.ok hs rl_int⟩
  | loc l =>
    obtain ⟨a, ha, rfl⟩ := h1.loc
    simp only [f1] at hp
    split at hp
    · rename_i ys hg
      obtain ⟨vs, h2, h3⟩ := hs.getL hg ha
      exact call_len_seq pins s σ H _ us Q I r ⟨a, vs, rfl, .inl (by rw [g.K]; exact h2), by rw [← h3.len]; exact hp.ok hs rl_int⟩
    · exact hp.elim
  | _ => exact (show False from hp).elim
theorem cr_repr1 (g : Gx F X) : CallR X (.builtin "repr") (rC1 F W (f1 .repr)) := by
  intro pins s σ H xs us Q I r ⟨x, dx, st, ρ, e, hs, h1, hp⟩
  subst e
  have hp' : ∃ p, pdS st dx = some p ∧ p.showable = true ∧ p.shown.length ≤ 100000 ∧ Q (.str p.shown) H := by
    cases e : pdS st dx with
    | none => rw [show f1 .repr dx st = .err by simp only [f1, e]] at hp; exact hp.elim
    | some p =>
      rw [show f1 .repr dx st = (if p.showable && decide (p.shown.length ≤ 100000) then .ok (.str p.shown) st else .err) by simp only [f1, e]] at hp
      split at hp
      · rename_i hc
        simp only [Bool.and_eq_true, decide_eq_true_eq] at hc
        exact ⟨p, rfl, hc.1, hc.2, hp.ok hs rl_str⟩
      · exact hp.elim
  obtain ⟨p, e1, hsh, hz, q⟩ := hp'
  obtain ⟨d1, s1⟩ := pdS_dp hs e1 h1
  rw [← g.K] at d1
  cases r with
  | cons r1 rr =>
    cases rr
    rename_i u
    obtain ⟨as, rd⟩ := Dp.reads I p x u d1 r1
    have hu := g.un
    have dep := SeqAt.depth_of_shaped s1
    have fin : ∀ a, u = Value.ref a → wpAny (model X.prog X.w) X.A (call (.builtin "repr") [u]) (EP X pins σ Q) X.xe s := fun a e => by
      subst e
      refine repr_of_reads' rd hsh (PyData.noDict_hsm (PyData.hasDict_of_canLay p (SeqAt.canLay_of_shaped s1))) g.guards (by omega) (fun _ _ e => e) (fun h' w' tk hk => ?_) (sz5 hz)
      exact ⟨.str p.shown, H, I.kept hk, ⟨_, rfl⟩, q⟩
    cases d1 with
    | non => cases r1; exact PySem.P.repr_of_none ⟨.str _, H, I.tok _, ⟨_, rfl⟩, q⟩
    | bl b => cases r1; exact PySem.P.repr_of_bool ⟨.str _, H, I.tok _, ⟨_, rfl⟩, q⟩
    | int i =>
      obtain ⟨t, rfl⟩ := r1
      exact PySem.P.repr_of_int (by simpa [PyData.showable] using hsh) ⟨.str _, H, I.tok _, ⟨_, rfl⟩, q⟩
    | str z =>
      obtain ⟨t, rfl⟩ := r1
      exact PySem.P.repr_of_str ⟨.str _, H, I.tok _, ⟨_, rfl⟩, q⟩ (sz5 hz)
    | lst _ _ => exact fin _ r1
    | tup _ _ => exact fin _ r1
def rC2 (F : Cf) (W : VW) (g : D → D → M D) : List V → Hp → VK → Prop := fun xs H Q => ∃ x y dx dy st ρ, xs = [x, y] ∧ SR F.τ F.K ρ H st ∧ Rl F.K ρ H dx x ∧ Rl F.K ρ H dy y ∧ Post F (Rl F.K) W (g dx dy st) ρ H Q
theorem cr_max2 (g : Gx F X) : CallR X (.builtin "max") (rC2 F W (f2 .max)) := by
  intro pins s σ H xs us Q I r ⟨x, y, dx, dy, st, ρ, e, hs, h1, h2, hp⟩
  cases dx with
  | int i =>
    cases dy with
    | int j => subst e; obtain rfl := h1.int; obtain rfl := h2.int; exact call_max2 g.calm pins s σ H _ us Q I r ⟨i, j, rfl, hp.ok hs rl_int⟩
    | _ => exact (show False from hp).elim
  | _ => exact (show False from hp).elim
theorem cr_min2 (g : Gx F X) : CallR X (.builtin "min") (rC2 F W (f2 .min)) := by
  intro pins s σ H xs us Q I r ⟨x, y, dx, dy, st, ρ, e, hs, h1, h2, hp⟩
  cases dx with
  | int i =>
    cases dy with
    | int j => subst e; obtain rfl := h1.int; obtain rfl := h2.int; exact call_min2 g.calm pins s σ H _ us Q I r ⟨i, j, rfl, hp.ok hs rl_int⟩
    | _ => exact (show False from hp).elim
  | _ => exact (show False from hp).elim
theorem cr_divmod2 (g : Gx F X) : CallR X (.builtin "divmod") (rC2 F W (f2 .divmod)) := by
  intro pins s σ H xs us Q I r ⟨x, y, dx, dy, st, ρ, e, hs, h1, h2, hp⟩
  cases dx with
  | int i =>
    cases dy with
    | int j =>
      subst e; obtain rfl := h1.int; obtain rfl := h2.int
      simp only [f2] at hp
      split at hp
      · rename_i hc
        obtain ⟨u, w', rfl, ⟨t, rfl⟩, ⟨t', rfl⟩⟩ := vals2 r
        refine divmod_int (by omega) ?_ (.inl (PyProof.noPylong_small (by omega)))
        rw [Int.fdiv_eq_ediv_of_nonneg i (by omega), Int.fmod_eq_emod_of_nonneg i (by omega)]
        have J0 := I.tok (s.toks + 1 + 1)
        obtain ⟨J, hn⟩ := J0.tupN (its := [.int (i / j) s.toks, .int (i % j) (s.toks + 1)]) (vs := [.int (i / j), .int (i % j)]) (.cons ⟨_, rfl⟩ (.cons ⟨_, rfl⟩ .nil)) (sz5 (by simp))
        exact ⟨.ref s.heap.objs.size, _, J, rfl, hp.newT hs (RlL.cons rl_int (RlL.cons rl_int RlL.nil)) hn⟩
      · exact hp.elim
    | _ => exact (show False from hp).elim
  | _ => exact (show False from hp).elim
end
end Cr

set_option maxRecDepth 100000
set_option maxHeartbeats 1000000
namespace Cr
open PySem PySem.Spec PyProof.Rows PySem.Calls L2
/-- a list or tuple, its items -/
def RSq (K : Frag) (ρ : Rho) (H : Hp) (xs : List D) (v : V) : Prop := ∃ a vs, v = .ref a ∧ (SqL K H a vs ∨ SqD K H a vs) ∧ RlL K ρ H xs vs
section
variable {F : Cf} {X : Cx} {W : VW} {ρ : Rho} {H : Hp} {st : Store}
def rS (F : Cf) (W : VW) (g : List D → M D) : List V → Hp → VK → Prop := fun ws H Q => ∃ x xs st ρ, ws = [x] ∧ SR F.τ F.K ρ H st ∧ RSq F.K ρ H xs x ∧ Post F (Rl F.K) W (g xs st) ρ H Q

theorem crs_tuple (g : Gx F X) : CallR X (.type "tuple") (rS F W (fs .tuple)) := by
  intro pins s σ H ws us Q I r ⟨x, xs, st, ρ, e, hs, ⟨a, vs, ea, h, hl⟩, hp⟩
  subst e ea
  obtain ⟨u, rfl, rx⟩ := vals1 r
  cases rx
  rcases h with h | h
  · obtain ⟨its, r', pl, hz⟩ := I.list (by rw [g.K]; exact h)
    have hlen := r'.length
    refine call_tuple_list pl.isList (fun h' kp => ?_) (by simp only [List.size_toArray] <;> omega)
    have I1 : Inv X pins σ H { s with heap := h' } := I.kept (t' := s.toks) kp
    obtain ⟨J, hn⟩ := I1.tupN r' hz
    exact ⟨.ref h'.objs.size, _, J, rfl, hp.newT hs hl hn⟩
  · obtain ⟨its, r', pl, hz⟩ := I.tuple (by rw [g.K]; exact h.t)
    exact call_tuple_same pl ⟨.ref a, H, I, rfl, hp.ok hs (rl_tup h hl)⟩
theorem dp_bools {K : Frag} : ∀ bs : List Bool, DpAll K H (bs.map V.bl) (bs.map PyData.bool)
  | [] => .nil
  | b :: r => .cons (.bl b) (dp_bools r)
theorem dp_ints {K : Frag} : ∀ bs : List Int, DpAll K H (bs.map V.int) (bs.map PyData.int)
  | [] => .nil
  | b :: r => .cons (.int b) (dp_ints r)
theorem plain_bools : ∀ bs : List Bool, PyData.plainAll (bs.map PyData.bool) = true
  | [] => rfl
  | b :: r => by
    show (PyData.plain (.bool b) && PyData.plainAll (r.map PyData.bool)) = true
    rw [plain_bools r]; rfl
theorem fits_bools (bs : List Bool) : ∀ x ∈ bs.map PyData.bool, PyData.fits63 x := fun x hx => by
  obtain ⟨b, _, rfl⟩ := List.mem_map.mp hx
  exact True.intro
theorem all_bools : ∀ bs : List Bool, (bs.map PyData.bool).all PyData.truthy = bs.all id
  | [] => rfl
  | b :: r => by
    rw [List.map_cons, List.all_cons, List.all_cons, all_bools r]
    cases b <;> rfl
theorem any_bools : ∀ bs : List Bool, (bs.map PyData.bool).any PyData.truthy = bs.any id
  | [] => rfl
  | b :: r => by
    rw [List.map_cons, List.any_cons, List.any_cons, any_bools r]
    cases b <;> rfl
theorem crs_all (g : Gx F X) : CallR X (.builtin "all") (rS F W (fs .all)) := by
  intro pins s σ H ws us Q I r ⟨x, xs, st, ρ, e, hs, ⟨a, vs, ea, h, hl⟩, hp⟩
  subst e ea
  simp only [fs] at hp
  split at hp
  · rename_i bs hb
    have hv := hl.bools hb
    subst hv
    rcases h with h | h
    · exact cr_all g.calm pins s σ H _ us Q I r ⟨a, bs, rfl, by rw [g.K]; exact h, hp.ok hs rl_bl⟩
    · obtain ⟨u, rfl, rx⟩ := vals1 r
      cases rx
      obtain ⟨its, r', pl, hz⟩ := I.tuple (by rw [g.K]; exact h.t)
      obtain ⟨as, ra⟩ := Dp.readsAll I (bs.map PyData.bool) (bs.map V.bl) its (dp_bools bs) r'
      refine PySem.W.all_tuple_data (I.ok.hd g.calm) pl (by simpa using ra) (plain_bools bs) (fits_bools bs) fun h' tk k => ⟨.bl _, H, I.kept k, rfl, ?_⟩
      rw [all_bools]
      exact hp.ok hs rl_bl
  · exact hp.elim
theorem crs_any (g : Gx F X) : CallR X (.builtin "any") (rS F W (fs .any)) := by
  intro pins s σ H ws us Q I r ⟨x, xs, st, ρ, e, hs, ⟨a, vs, ea, h, hl⟩, hp⟩
  subst e ea
  simp only [fs] at hp
  split at hp
  · rename_i bs hb
    have hv := hl.bools hb
    subst hv
    rcases h with h | h
    · exact cr_any g.calm pins s σ H _ us Q I r ⟨a, bs, rfl, by rw [g.K]; exact h, hp.ok hs rl_bl⟩
    · obtain ⟨u, rfl, rx⟩ := vals1 r
      cases rx
      obtain ⟨its, r', pl, hz⟩ := I.tuple (by rw [g.K]; exact h.t)
      obtain ⟨as, ra⟩ := Dp.readsAll I (bs.map PyData.bool) (bs.map V.bl) its (dp_bools bs) r'
      refine PySem.W.any_tuple_data (I.ok.hd g.calm) pl (by simpa using ra) (plain_bools bs) (fits_bools bs) fun h' tk k => ⟨.bl _, H, I.kept k, rfl, ?_⟩
      rw [any_bools]
      exact hp.ok hs rl_bl
  · exact hp.elim
theorem crs_sum (g : Gx F X) : CallR X (.builtin "sum") (rS F W (fs .sum)) := by
  intro pins s σ H ws us Q I r ⟨x, xs, st, ρ, e, hs, ⟨a, vs, ea, h, hl⟩, hp⟩
  subst e ea
  simp only [fs] at hp
  split at hp
  · rename_i ns hb
    obtain ⟨hv, _⟩ := hl.ints hb
    subst hv
    rcases h with h | h
    · exact cr_sum g.calm pins s σ H _ us Q I r ⟨a, ns, rfl, by rw [g.K]; exact h, hp.ok hs rl_int⟩
    · obtain ⟨u, rfl, rx⟩ := vals1 r
      cases rx
      obtain ⟨its, r', pl, hz⟩ := I.tuple (by rw [g.K]; exact h.t)
      have hi := r'.ints
      obtain ⟨ys, hy⟩ := hi.allInts.items
      have hn : numsOf its.toArray.toList = ns := by rw [show its.toArray.toList = its from rfl, hi.numsOf]
      have pl' : s.heap.IsTuple a its.toArray := pl
      rw [hy] at pl' hn
      rw [nums_intItems] at hn
      refine PySem.W.ktm_sumG (I.ok.hd g.calm) pl' fun h' tk t' hk => ⟨.int _, H, I.kept hk, ⟨_, rfl⟩, ?_⟩
      rw [preSum_eq, List.take_of_length_le (by simp), hn]
      exact hp.ok hs rl_int
  · exact hp.elim
theorem foldl_max_mem : ∀ (ns : List Int) (n : Int), ns.foldl max n ∈ n :: ns
  | [], n => by simp
  | x :: r, n => by
    rw [List.foldl_cons]
    rcases List.mem_cons.mp (foldl_max_mem r (max n x)) with h | h
    · rw [h]
      by_cases hc : n ≤ x
      · rw [Int.max_eq_right hc]; simp
      · rw [Int.max_eq_left (by omega)]; simp
    · simp [h]
theorem foldl_max_le : ∀ (ns : List Int) (n : Int), ∀ y ∈ n :: ns, y ≤ ns.foldl max n
  | [], n, y, h => by simp at h; simp [h]
  | x :: r, n, y, h => by
    rw [List.foldl_cons]
    have ih := foldl_max_le r (max n x)
    rcases List.mem_cons.mp h with h | h
    · have := ih (max n x) (by simp)
      omega
    · rcases List.mem_cons.mp h with h | h
      · have := ih (max n x) (by simp)
        omega
      · exact ih y (by simp [h])
theorem foldl_min_mem : ∀ (ns : List Int) (n : Int), ns.foldl min n ∈ n :: ns
  | [], n => by simp
  | x :: r, n => by
    rw [List.foldl_cons]
    rcases List.mem_cons.mp (foldl_min_mem r (min n x)) with h | h
    · rw [h]
      by_cases hc : n ≤ x
      · rw [Int.min_eq_left hc]; simp
      · rw [Int.min_eq_right (by omega)]; simp
    · simp [h]
theorem foldl_min_le : ∀ (ns : List Int) (n : Int), ∀ y ∈ n :: ns, ns.foldl min n ≤ y
  | [], n, y, h => by simp at h; simp [h]
  | x :: r, n, y, h => by
    rw [List.foldl_cons]
    have ih := foldl_min_le r (min n x)
    rcases List.mem_cons.mp h with h | h
    · have := ih (min n x) (by simp)
      omega
    · rcases List.mem_cons.mp h with h | h
      · have := ih (min n x) (by simp)
        omega
      · exact ih y (by simp [h])
theorem alike_ints (ns : List Int) : PySem.W.AlikeAll (ns.map PyData.int) := by
  refine ⟨fun x hx y hy => ?_, fun x hx => ?_⟩
  · obtain ⟨i, _, rfl⟩ := List.mem_map.mp hx
    obtain ⟨j, _, rfl⟩ := List.mem_map.mp hy
    rfl
  · obtain ⟨i, _, rfl⟩ := List.mem_map.mp hx
    exact fun z => nomatch z
theorem depth_ints : ∀ ns : List Int, PyData.depthAll (ns.map PyData.int) ≤ 1
  | [] => by simp [PyData.depthAll]
  | n :: r => by
    have := depth_ints r
    show max (PyData.depth (.int n)) (PyData.depthAll (r.map PyData.int)) ≤ 1
    have h : PyData.depth (.int n) ≤ 1 := by simp [PyData.depth]
    omega
theorem crs_max (g : Gx F X) : CallR X (.builtin "max") (rS F W (fs .max)) := by
  intro pins s σ H ws us Q I r ⟨x, xs, st, ρ, e, hs, ⟨a, vs, ea, h, hl⟩, hp⟩
  subst e ea
  simp only [fs] at hp
  split at hp
  · rename_i n ns hb
    obtain ⟨hv, _⟩ := hl.ints hb
    subst hv
    rcases h with h | h
    · refine cr_max g.calm pins s σ H _ us Q I r ⟨a, n :: ns, rfl, by rw [g.K]; exact h, by simp, fun m h1 h2 => ?_⟩
      have e1 := foldl_max_le ns n m h1
      have e2 := h2 _ (foldl_max_mem ns n)
      have e : m = maxI n ns := by unfold maxI; omega
      rw [e]
      exact hp.ok hs rl_int
    · obtain ⟨u, rfl, rx⟩ := vals1 r
      cases rx
      obtain ⟨its, r', pl, hz⟩ := I.tuple (by rw [g.K]; exact h.t)
      obtain ⟨as, ra⟩ := Dp.readsAll I ((n :: ns).map PyData.int) ((n :: ns).map V.int) its (dp_ints _) r'
      have hu := g.un
      have hd := depth_ints (n :: ns)
      refine PySem.W.max_tuple_data (x := .int n) (xs := ns.map PyData.int) (I.ok.hd g.calm) pl (by simpa using ra) (alike_ints (n :: ns)) (by rw [List.map_cons] at hd; omega) fun i v h' tk bs hv hr k => ?_
      rw [PySem.W.maxD_ints] at hr
      cases hr
      exact ⟨.int _, H, I.kept k, ⟨_, rfl⟩, hp.ok hs rl_int⟩
  · exact hp.elim
theorem pd_nil (st : Store) : ∀ (n : Nat) (d : D) (p : PyData), pd [] n d = some p → pd st n d = some p
  | 0, _, _, e => by cases e
  | n + 1, .tup xs, p, e => by
    have e : (xs.mapM (pd [] n)).map PyData.tuple = some p := e
    obtain ⟨ps, h1, rfl⟩ := Option.map_eq_some_iff.mp e
    have go : ∀ (xs : List D) (ps : List PyData), xs.mapM (pd [] n) = some ps → xs.mapM (pd st n) = some ps := by
      intro xs
      induction xs with
      | nil => intro ps h; simpa using h
      | cons x xs ih =>
        intro ps h
        rw [mapM_cons] at h ⊢
        cases e1 : pd [] n x with
        | none => rw [e1] at h; cases h
        | some q =>
          rw [e1] at h
          rw [pd_nil st n x q e1]
          cases e2 : xs.mapM (pd [] n) with
          | none => rw [e2] at h; cases h
          | some qs =>
            rw [e2] at h
            rw [ih qs e2]
            exact h
    show (xs.mapM (pd st n)).map PyData.tuple = _
    rw [go xs ps h1]; rfl
  | n + 1, .loc l, p, e => by cases e
  | n + 1, .non, p, e => e
  | n + 1, .bl _, p, e => e
  | n + 1, .int _, p, e => e
  | n + 1, .str _, p, e => e
  | n + 1, .lit _, p, e => by cases e
  | n + 1, .clo _ _, p, e => by cases e
theorem mapM_at {α β : Type} {f : α → Option β} : ∀ {xs : List α} {ys : List β}, xs.mapM f = some ys → ∀ {i : Nat} {x : α}, xs[i]? = some x → ∃ y, f x = some y ∧ ys[i]? = some y
  | [], _, _, i, x, h => by simp at h
  | a :: xs, ys, e, i, x, h => by
    rw [mapM_cons] at e
    cases e1 : f a with
    | none => rw [e1] at e; cases e
    | some b =>
      rw [e1] at e
      cases e2 : xs.mapM f with
      | none => rw [e2] at e; cases e
      | some bs =>
        rw [e2] at e
        cases e
        cases i with
        | zero => simp at h; subst h; exact ⟨b, e1, by simp⟩
        | succ i =>
          obtain ⟨y, h1, h2⟩ := mapM_at e2 (i := i) (x := x) (by simpa using h)
          exact ⟨y, h1, by simpa using h2⟩
theorem pd_inj : ∀ (n : Nat) (a b : D) (p : PyData), pd [] n a = some p → pd [] n b = some p → a = b
  | 0, _, _, _, e, _ => by cases e
  | n + 1, a, b, p, e, e' => by
    have go : ∀ (xs ys : List D) (ps : List PyData), xs.mapM (pd [] n) = some ps → ys.mapM (pd [] n) = some ps → xs = ys := by
      intro xs
      induction xs with
      | nil =>
        intro ys ps h h'
        simp at h
        subst h
        cases ys with
        | nil => rfl
        | cons y ys =>
          rw [mapM_cons] at h'
          cases e1 : pd [] n y with
          | none => rw [e1] at h'; cases h'
          | some q =>
            rw [e1] at h'
            cases e2 : ys.mapM (pd [] n) with
            | none => rw [e2] at h'; cases h'
            | some qs => rw [e2] at h'; cases h'
      | cons x xs ih =>
        intro ys ps h h'
        rw [mapM_cons] at h
        cases e1 : pd [] n x with
        | none => rw [e1] at h; cases h
        | some q =>
          rw [e1] at h
          cases e2 : xs.mapM (pd [] n) with
          | none => rw [e2] at h; cases h
          | some qs =>
            rw [e2] at h
            cases h
            cases ys with
            | nil => simp at h'
            | cons y ys =>
              rw [mapM_cons] at h'
              cases e3 : pd [] n y with
              | none => rw [e3] at h'; cases h'
              | some q2 =>
                rw [e3] at h'
                cases e4 : ys.mapM (pd [] n) with
                | none => rw [e4] at h'; cases h'
                | some qs2 =>
                  rw [e4] at h'
                  have h' : some (q2 :: qs2) = some (q :: qs) := h'
                  cases h'
                  rw [pd_inj n x y q e1 e3, ih ys qs e2 e4]
    have nt : ∀ (xs : List D) (p : PyData), pd [] (n + 1) (.tup xs) = some p → ∃ ps, xs.mapM (pd [] n) = some ps ∧ p = .tuple ps := by
      intro xs p h
      have h : (xs.mapM (pd [] n)).map PyData.tuple = some p := h
      obtain ⟨ps, h1, h2⟩ := Option.map_eq_some_iff.mp h
      exact ⟨ps, h1, h2.symm⟩
    cases a with
    | loc _ => cases e
    | lit _ => cases e
    | clo _ _ => cases e
    | tup xs =>
      obtain ⟨ps, h1, rfl⟩ := nt xs p e
      cases b with
      | tup ys =>
        obtain ⟨qs, h2, h3⟩ := nt ys _ e'
        cases h3
        rw [go xs ys ps h1 h2]
      | _ => cases e'
    | non => cases e; cases b with
      | tup ys => obtain ⟨qs, _, h3⟩ := nt ys _ e'; cases h3
      | non => rfl
      | _ => cases e'
    | bl x => cases e; cases b with
      | tup ys => obtain ⟨qs, _, h3⟩ := nt ys _ e'; cases h3
      | bl y => cases e'; rfl
      | _ => cases e'
    | int x => cases e; cases b with
      | tup ys => obtain ⟨qs, _, h3⟩ := nt ys _ e'; cases h3
      | int y => cases e'; rfl
      | _ => cases e'
    | str x => cases e; cases b with
      | tup ys => obtain ⟨qs, _, h3⟩ := nt ys _ e'; cases h3
      | str y => cases e'; rfl
      | _ => cases e'
theorem alikeB_ok {ps : List PyData} (h : alikeB ps = true) : PySem.W.AlikeAll ps := by
  unfold alikeB at h
  simp only [Bool.and_eq_true, List.all_eq_true] at h
  refine ⟨fun x hx y hy => h.1 x hx y hy, fun x hx => ?_⟩
  have := h.2 x hx
  intro z
  subst z
  cases this
theorem minBy_ok {f : D → PyData} : ∀ (x : D) (xs : List D), minBy f x xs ∈ x :: xs ∧ f (minBy f x xs) = PySem.W.minD (f x) (xs.map f)
  | x, [] => ⟨List.mem_cons_self, rfl⟩
  | x, y :: r => by
    have e : minBy f x (y :: r) = minBy f (if PySem.W.dataLt (f y) (f x) then y else x) r := rfl
    have e2 : PySem.W.minD (f x) ((y :: r).map f) = PySem.W.minD (if PySem.W.dataLt (f y) (f x) then f y else f x) (r.map f) := rfl
    obtain ⟨h1, h2⟩ := minBy_ok (f := f) (if PySem.W.dataLt (f y) (f x) then y else x) r
    rw [e, e2]
    refine ⟨?_, ?_⟩
    · rcases List.mem_cons.mp h1 with z | z
      · rw [z]
        split
        · simp
        · simp
      · simp [z]
    · rw [h2]
      congr 1
      split <;> rfl
theorem dataMin_ok {xs : List D} {d : D} (h : dataMin xs = some d) : ∃ x r p ps, xs = x :: r ∧ (x :: r).mapM (pd [] 30) = some (p :: ps) ∧ PySem.W.AlikeAll (p :: ps) ∧ PyData.depthAll (p :: ps) ≤ 30 ∧ pd [] 30 d = some (PySem.W.minD p ps) := by
  unfold dataMin at h
  split at h
  · rename_i qs hq
    cases xs with
    | nil => cases h
    | cons x r =>
      have h : (if alikeB qs && decide (PyData.depthAll qs ≤ 30) then some (minBy (fun d => (pd [] 30 d).getD .none) x r) else none) = some d := h
      split at h
      · rename_i hc
        simp only [Bool.and_eq_true, decide_eq_true_eq] at hc
        cases h
        have all : ∀ (xs : List D) (qs : List PyData), xs.mapM (pd [] 30) = some qs → qs = xs.map fun d => (pd [] 30 d).getD .none := by
          intro xs
          induction xs with
          | nil => intro qs h; simp at h; subst h; rfl
          | cons x xs ih =>
            intro qs h
            rw [mapM_cons] at h
            cases e1 : pd [] 30 x with
            | none => rw [e1] at h; cases h
            | some q =>
              rw [e1] at h
              cases e2 : xs.mapM (pd [] 30) with
              | none => rw [e2] at h; cases h
              | some q2 =>
                rw [e2] at h
                cases h
                rw [List.map_cons, ← ih q2 e2, e1]; rfl
        have hqs := all _ _ hq
        rw [List.map_cons] at hqs
        refine ⟨x, r, _, _, rfl, by rw [hq, hqs], by rw [← hqs]; exact alikeB_ok hc.1, by rw [← hqs]; exact hc.2, ?_⟩
        obtain ⟨m1, m2⟩ := minBy_ok (f := fun d => (pd [] 30 d).getD .none) x r
        rw [← m2]
        obtain ⟨i, hi, ei⟩ := List.getElem_of_mem m1
        obtain ⟨y, hy, _⟩ := mapM_at hq (i := i) (x := minBy (fun d => (pd [] 30 d).getD .none) x r) (by rw [List.getElem?_eq_getElem hi, ei])
        rw [hy]; rfl
      · cases h
  · cases h
theorem crs_min (g : Gx F X) : CallR X (.builtin "min") (rS F W (fs .min)) := by
  intro pins s σ H ws us Q I r ⟨x, xs, st, ρ, e, hs, ⟨a, vs, ea, h, hl⟩, hp⟩
  subst e ea
  simp only [fs] at hp
  split at hp
  · rename_i n ns hb
    obtain ⟨hv, _⟩ := hl.ints hb
    subst hv
    rcases h with h | h
    · refine cr_min g.calm pins s σ H _ us Q I r ⟨a, n :: ns, rfl, by rw [g.K]; exact h, by simp, fun m h1 h2 => ?_⟩
      have e1 := foldl_min_le ns n m h1
      have e2 := h2 _ (foldl_min_mem ns n)
      have e : m = minI n ns := by unfold minI; omega
      rw [e]
      exact hp.ok hs rl_int
    · obtain ⟨u, rfl, rx⟩ := vals1 r
      cases rx
      obtain ⟨its, r', pl, hz⟩ := I.tuple (by rw [g.K]; exact h.t)
      obtain ⟨as, ra⟩ := Dp.readsAll I ((n :: ns).map PyData.int) ((n :: ns).map V.int) its (dp_ints _) r'
      have hu := g.un
      have hd := depth_ints (n :: ns)
      refine PySem.W.min_tuple_data (x := .int n) (xs := ns.map PyData.int) (I.ok.hd g.calm) pl (by simpa using ra) (alike_ints (n :: ns)) (by rw [List.map_cons] at hd; omega) fun i v h' tk bs hv hr k => ?_
      rw [PySem.W.minD_ints] at hr
      cases hr
      exact ⟨.int _, H, I.kept k, ⟨_, rfl⟩, hp.ok hs rl_int⟩
  · split at hp
    · rename_i d hdm
      rcases dataMin_ok hdm with ⟨x0, xr, p, ps, rfl, hps, hal, hdep, hd⟩
      have dps : DpAll F.K H vs (p :: ps) := pdL_dp (fun d p v e r => pd_dp hs 30 d p v (pd_nil st 30 d p e) r) _ _ _ hps hl
      rw [← g.K] at dps
      obtain ⟨u, rfl, rx⟩ := vals1 r
      cases rx
      have hu := g.un
      have back : ∀ {its : List Value} {i : Nat} {v : Value} {h' : Heap} {tk : Tok} {bs : List Addr}, Vals vs its → its[i]? = some v → Reads h' v (PySem.W.minD p ps) bs → (∀ b o, s.heap.get? b = some o → h'.get? b = some o) → EP X pins σ Q v { s with heap := h', toks := tk } := by
        intro its i v h' tk bs rv hv hr k
        have hiv : i < vs.length := by
          have := (List.getElem?_eq_some_iff.mp hv).1
          rw [rv.length]; exact this
        obtain ⟨w, hw, rw'⟩ := rv.get (i := i) (x := vs[i]) (by simp [hiv])
        rw [hv] at hw
        cases hw
        have I1 := I.kept (t' := tk) k
        have hil : i < (x0 :: xr).length := by rw [hl.len]; exact hiv
        obtain ⟨w2, hw2, rd⟩ := hl.get (i := i) (d := (x0 :: xr)[i]) (by simp [hil])
        have ew : w2 = vs[i] := by
          rw [List.getElem?_eq_getElem hiv] at hw2
          exact (Option.some.inj hw2).symm
        rw [ew] at rd
        obtain ⟨q, hq1, hq2⟩ := mapM_at hps (i := i) (x := (x0 :: xr)[i]) (by simp [hil])
        have dq : Dp F.K H vs[i] q := pd_dp hs 30 _ q _ (pd_nil st 30 _ q hq1) rd
        rw [← g.K] at dq
        obtain ⟨as2, rq⟩ := Dp.reads I1 q vs[i] v dq rw'
        have eq := (Reads.unique rq _ _ hr).1
        have ed : (x0 :: xr)[i] = d := pd_inj 30 _ _ _ hq1 (by rw [eq]; exact hd)
        refine ⟨vs[i], H, I1, rw', hp.ok hs ?_⟩
        rw [← ed]; exact rd
      rcases h with h | h
      · obtain ⟨its, rv, pl, hz⟩ := I.list (by rw [g.K]; exact h)
        obtain ⟨as, ra⟩ := Dp.readsAll I (p :: ps) vs its dps rv
        refine PySem.W.min_list_data (x := p) (xs := ps) (I.ok.hd g.calm) pl.isList (by simpa using ra) hal (by omega) fun i v h' tk bs hv hr k => ?_
        exact back rv (by simpa using hv) hr k
      · obtain ⟨its, rv, pl, hz⟩ := I.tuple (by rw [g.K]; exact h.t)
        obtain ⟨as, ra⟩ := Dp.readsAll I (p :: ps) vs its dps rv
        refine PySem.W.min_tuple_data (x := p) (xs := ps) (I.ok.hd g.calm) pl (by simpa using ra) hal (by omega) fun i v h' tk bs hv hr k => ?_
        exact back rv (by simpa using hv) hr k
    · exact hp.elim
theorem sortI_perm : ∀ ns : List Int, (sortI ns).Perm ns
  | [] => .nil
  | x :: r => by
    have ins : ∀ (x : Int) (l : List Int), (insI x l).Perm (x :: l) := fun x l => by
      induction l with
      | nil => exact .refl _
      | cons y l ih =>
        unfold insI
        split
        · exact .refl _
        · exact (ih.cons y).trans (.swap x y l)
    exact (ins x (sortI r)).trans ((sortI_perm r).cons x)
theorem sortI_sorted : ∀ ns : List Int, (sortI ns).Pairwise (· ≤ ·)
  | [] => .nil
  | x :: r => by
    have mem : ∀ (x : Int) (l : List Int) (z : Int), z ∈ insI x l → z = x ∨ z ∈ l := fun x l => by
      induction l with
      | nil => intro z h; simp [insI] at h; exact .inl h
      | cons y l ih =>
        intro z h
        unfold insI at h
        split at h
        · rcases List.mem_cons.mp h with h | h
          · exact .inl h
          · exact .inr h
        · rcases List.mem_cons.mp h with h | h
          · exact .inr (by simp [h])
          · rcases ih z h with h | h
            · exact .inl h
            · exact .inr (by simp [h])
    have ins : ∀ (x : Int) (l : List Int), l.Pairwise (· ≤ ·) → (insI x l).Pairwise (· ≤ ·) := fun x l h => by
      induction l with
      | nil => simp [insI]
      | cons y l ih =>
        obtain ⟨h1, h2⟩ := List.pairwise_cons.mp h
        unfold insI
        split
        · rename_i hc
          refine List.pairwise_cons.mpr ⟨fun z hz => ?_, h⟩
          rcases List.mem_cons.mp hz with hz | hz
          · omega
          · have := h1 z hz; omega
        · rename_i hc
          refine List.pairwise_cons.mpr ⟨fun z hz => ?_, ih h2⟩
          rcases mem x l z hz with hz | hz
          · omega
          · exact h1 z hz
    exact ins x _ (sortI_sorted r)
theorem sorted_unique {a b : List Int} (p : a.Perm b) (ha : a.Pairwise (· ≤ ·)) (hb : b.Pairwise (· ≤ ·)) : a = b :=
  p.eq_of_pairwise (fun x y _ _ h1 h2 => by omega) ha hb
/-- sorted of a list or tuple of ints -/
theorem sorted_seq {X : Cx} {pins : List (Addr × Obj)} {σ : L2.St} {H : Hp} {s : Shared} {a : Addr} {T : String} {o : Obj} {its : List Value} {n : Nat} {ns : List Int} {Q : VK} (I : Inv X pins σ H s) (hT : T = "list" ∨ T = "tuple")
    (ho : s.heap.get? a = some o) (hc : o.cls = .type T) (hd : o.data = .seq its.toArray n) (r : Vals (ns.map V.int) its) (hz : its.length ≤ sizeLine)
    (q : ∀ p, H p = none → Q (.ref p) (upd H p (.lst ((sortI ns).map V.int)))) : wpAny (model X.prog X.w) X.A (call (.builtin "sorted") [.ref a]) (EP X pins σ Q) X.xe s := by
  refine Calls.call_function_entry kind_sorted plain_sorted entry_sorted (args_sorted1 _) ?_
  unfold Builtin.«sorted»
  refine wpAny_bind (m := checkCount "sorted" 1 1 _) (wpAny_pure ?_)
  refine wpAny_bind (wpAny_collect_seq a hT ho hc hd (fun h' k => ?_) (by simpa using hz))
  have e : its.toArray.toList = its := by simp
  rw [e]
  refine wpAny_bind (wpAny_newList ?_ hz)
  have I1 : Inv X pins σ H { s with heap := h' } := I.kept (t' := s.toks) k
  have hoL : (h'.push (seqObj "list" its.toArray 0)).get? h'.objs.size = some (seqObj "list" its.toArray 0) := Heap.get?_push_size _ rfl
  have hi := r.ints
  show wpAny _ _ _ _ _ { s with heap := h'.push (seqObj "list" its.toArray 0) }
  refine wpAny_bind (wpAny_holding (wpAny_call_entry slot_list_sort ⟨_, hoL, rfl⟩ entry_list_sort (SrtO.list_sort_ord SrtO.swo_int hoL hz (fun h2 => SrtO.ints_sortable hi h2) fun out h1 h2 => ⟨_, rfl, ?_⟩) (args_list_sort _)))
  refine wpAny_pure ⟨_, rfl, ?_⟩
  obtain ⟨k1, k2, k3⟩ := SrtO.ints_out hi h1 h2
  obtain ⟨ep, he'⟩ := sortedHeap_at (vs := its) (out := out.toArray) hoL
  have hs : out.map SrtO.iv = sortI ns := sorted_unique (k2.trans (sortI_perm ns).symm) k3 (sortI_sorted ns)
  have hlen : ((out.map SrtO.iv).map V.int).length ≤ sizeLine := by
    have := r.length
    rw [List.length_map] at this ⊢
    rw [k2.length_eq]; omega
  have hn : H h'.objs.size = none := I1.hok.fresh (Nat.le_refl _)
  refine ⟨.ref h'.objs.size, upd H h'.objs.size (.lst ((out.map SrtO.iv).map V.int)), ?_, rfl, by rw [hs]; exact q _ hn⟩
  refine I1.laid (t' := s.toks) (fun b u e => ?_) (Nat.le_refl _) ⟨hlen, out, ep, vals_of_ints k1, he'⟩
  have hlt : b < h'.objs.size := Heap.lt_size e
  show (sortedHeap (h'.push (seqObj "list" its.toArray 0)) h'.objs.size its out.toArray).get? b = some u
  rw [sortedHeap_old (Nat.ne_of_lt hlt) (by rw [size_push']; exact Nat.lt_succ_of_lt hlt)]
  exact Heap.get?_push_of_some _ e
/-- a new list, made of a list or tuple -/
def rSL (F : Cf) (f : FL) : List V → Hp → VK → Prop := fun ws H Q => ∃ x xs ys st ρ, ws = [x] ∧ SR F.τ F.K ρ H st ∧ RSq F.K ρ H xs x ∧ fl f xs = some ys ∧
  ∀ p vs, H p = none → RlL F.K ρ H ys vs → Q (.ref p) (upd H p (.lst vs))
theorem crs_list (g : Gx F X) : CallR X (.type "list") (rSL F .list) := by
  intro pins s σ H ws us Q I r ⟨x, xs, ys, st, ρ, e, hs, ⟨a, vs, ea, h, hl⟩, hf, q⟩
  subst e ea
  cases hf
  refine call_list_of pins s σ H _ us Q I r ⟨a, vs, rfl, ?_, fun l hn => q l vs hn hl⟩
  rw [g.K]
  rcases h with h | h
  · exact .inl h
  · exact .inr h.t
end
end Cr

set_option maxRecDepth 100000
set_option maxHeartbeats 1000000
namespace Cr
open PySem PySem.Spec PyProof.Rows PySem.Calls L2
section
variable {F : Cf} {X : Cx} {W : VW} {ρ : Rho} {H : Hp} {st : Store}
theorem lexLt_code {B : Int} : ∀ (a b : List Int), a.length = b.length → TS.Bd B a → TS.Bd B b → (lexLt a b = true ↔ TS.code B a < TS.code B b)
  | [], [], _, _, _ => by simp [lexLt, TS.code]
  | x :: a, [], h, _, _ => by cases h
  | [], y :: b, h, _, _ => by cases h
  | x :: a, y :: b, h, ha, hb => by
    have hl : a.length = b.length := by simpa using h
    show (if x = y then lexLt a b else decide (x < y)) = true ↔ _
    by_cases e : x = y
    · subst e
      rw [if_pos rfl, TS.code_same hl]
      exact lexLt_code a b hl ha.tail hb.tail
    · rw [if_neg e]
      constructor
      · intro q
        exact TS.code_lt hl ha.tail hb.tail (of_decide_eq_true q)
      · intro q
        refine decide_eq_true ?_
        rcases Int.lt_or_gt_of_ne e with z | z
        · exact z
        · have := TS.code_lt hl.symm hb.tail ha.tail z
          omega
theorem code_inj {B : Int} : ∀ (a b : List Int), a.length = b.length → TS.Bd B a → TS.Bd B b → TS.code B a = TS.code B b → a = b
  | [], [], _, _, _, _ => rfl
  | x :: a, [], h, _, _, _ => by cases h
  | [], y :: b, h, _, _, _ => by cases h
  | x :: a, y :: b, h, ha, hb, e => by
    have hl : a.length = b.length := by simpa using h
    by_cases q : x = y
    · subst q
      have e2 : TS.code B a = TS.code B b := by
        have e : x * B ^ a.length + TS.code B a = x * B ^ b.length + TS.code B b := e
        rw [hl] at e
        omega
      rw [code_inj a b hl ha.tail hb.tail e2]
    · rcases Int.lt_or_gt_of_ne q with z | z
      · have := TS.code_lt hl ha.tail hb.tail z
        omega
      · have := TS.code_lt hl.symm hb.tail ha.tail z
        omega
theorem insT_perm (x : List Int) : ∀ l : List (List Int), (insT x l).Perm (x :: l)
  | [] => .refl _
  | y :: l => by
    unfold insT
    split
    · exact ((insT_perm x l).cons y).trans (.swap x y l)
    · exact .refl _
theorem sortT_perm : ∀ ts : List (List Int), (sortT ts).Perm ts
  | [] => .nil
  | x :: r => (insT_perm x (sortT r)).trans ((sortT_perm r).cons x)
theorem insT_sorted {B : Int} {d : Nat} (x : List Int) : ∀ l : List (List Int), (∀ t ∈ x :: l, t.length = d ∧ TS.Bd B t) → l.Pairwise (fun a b => TS.code B a ≤ TS.code B b) → (insT x l).Pairwise (fun a b => TS.code B a ≤ TS.code B b)
  | [], _, _ => by simp [insT]
  | y :: l, hb, hl => by
    obtain ⟨h1, h2⟩ := List.pairwise_cons.mp hl
    have hx := hb x List.mem_cons_self
    have hy := hb y (by simp)
    have it := lexLt_code y x (by rw [hy.1, hx.1]) hy.2 hx.2
    unfold insT
    split
    · rename_i hc
      have hlt := it.mp hc
      refine List.pairwise_cons.mpr ⟨fun z hz => ?_, insT_sorted x l (fun t ht => hb t (by rcases List.mem_cons.mp ht with e | e <;> simp [e])) h2⟩
      rcases List.mem_cons.mp ((insT_perm x l).mem_iff.mp hz) with e | e
      · rw [e]; omega
      · exact h1 z e
    · rename_i hc
      have hge : TS.code B x ≤ TS.code B y := by
        by_cases q : TS.code B y < TS.code B x
        · exact absurd (it.mpr q) hc
        · omega
      refine List.pairwise_cons.mpr ⟨fun z hz => ?_, hl⟩
      rcases List.mem_cons.mp hz with e | e
      · rw [e]; exact hge
      · exact Int.le_trans hge (h1 z e)
theorem sortT_sorted {B : Int} {d : Nat} : ∀ ts : List (List Int), (∀ t ∈ ts, t.length = d ∧ TS.Bd B t) → (sortT ts).Pairwise (fun a b => TS.code B a ≤ TS.code B b)
  | [], _ => .nil
  | x :: r, h => insT_sorted (d := d) x (sortT r) (fun t ht => by
      rcases List.mem_cons.mp ht with e | e
      · rw [e]; exact h x List.mem_cons_self
      · exact h t (List.mem_cons_of_mem _ ((sortT_perm r).mem_iff.mp e))) (sortT_sorted r fun t ht => h t (List.mem_cons_of_mem _ ht))
theorem sortT_unique {B : Int} {d : Nat} {a ts : List (List Int)} (hb : ∀ t ∈ ts, t.length = d ∧ TS.Bd B t) (p : a.Perm ts) (ha : a.Pairwise (fun a b => TS.code B a ≤ TS.code B b)) : a = sortT ts := by
  refine List.Perm.eq_of_pairwise (le := fun a b => TS.code B a ≤ TS.code B b) (fun x y hx hy h1 h2 => ?_) ha (sortT_sorted ts hb) (p.trans (sortT_perm ts).symm)
  have b1 := hb x (p.mem_iff.mp hx)
  have b2 := hb y ((sortT_perm ts).mem_iff.mp hy)
  exact code_inj x y (by rw [b1.1, b2.1]) b1.2 b2.2 (by omega)
theorem okTs_ok {ts : List (List Int)} (h : okTs ts = true) : ts.length < 64 ∧ ∃ d, 1 ≤ d ∧ ∀ t ∈ ts, t.length = d ∧ TS.Bd 1000000 t := by
  cases ts with
  | nil => exact ⟨by decide, 1, Nat.le_refl _, fun t ht => absurd ht List.not_mem_nil⟩
  | cons t r =>
    simp only [okTs, smallT, Bool.and_eq_true, decide_eq_true_eq, List.all_eq_true] at h
    refine ⟨h.2, t.length, h.1.1, fun u hu => ⟨(h.1.2 u hu).1, fun m hm => (h.1.2 u hu).2 m hm⟩⟩
theorem intsOf_eq : ∀ {xs : List D} {ns : List Int}, intsOf xs = some ns → xs = ilist ns
  | [], ns, h => by cases h; rfl
  | .int i :: xs, ns, h => by
    have h : (intsOf xs).map (i :: ·) = some ns := h
    obtain ⟨ms, h1, rfl⟩ := Option.map_eq_some_iff.mp h
    rw [intsOf_eq h1]; rfl
  | .non :: _, _, h => by cases h
  | .bl _ :: _, _, h => by cases h
  | .str _ :: _, _, h => by cases h
  | .tup _ :: _, _, h => by cases h
  | .loc _ :: _, _, h => by cases h
  | .lit _ :: _, _, h => by cases h
  | .clo _ _ :: _, _, h => by cases h
theorem tupsOf_ok : ∀ {xs : List D} {ts : List (List Int)}, tupsOf xs = some ts → xs = tlist ts
  | [], ts, h => by cases h; rfl
  | x :: xs, ts, h => by
    unfold tupsOf at h
    cases e1 : tupI? x with
    | none => rw [e1] at h; cases h
    | some n =>
      rw [e1] at h
      cases e2 : tupsOf xs with
      | none => rw [e2] at h; cases h
      | some ns =>
        rw [e2] at h
        cases h
        cases x with
        | tup ys =>
          have e1 : intsOf ys = some n := e1
          rw [intsOf_eq e1, tupsOf_ok e2]; rfl
        | _ => cases e1
theorem intsOf_il : ∀ ns : List Int, intsOf (ilist ns) = some ns
  | [] => rfl
  | n :: ns => by show (intsOf (ilist ns)).map _ = _; rw [intsOf_il ns]; rfl
/-- values behind tuples of ints -/
theorem rlL_tups {K : Frag} : ∀ {ts : List (List Int)} {vs : List V}, RlL K ρ H (tlist ts) vs → Paired (fun v t => ∃ a, v = V.ref a ∧ SqD K H a (t.map V.int)) vs ts
  | [], vs, h => by
    have h : RlL K ρ H [] vs := h
    unfold RlL at h
    subst h
    exact .nil
  | t :: ts, vs, h => by
    have h : RlL K ρ H (.tup (ilist t) :: tlist ts) vs := h
    unfold RlL at h
    obtain ⟨v, r, rfl, h1, h2⟩ := h
    obtain ⟨a, ws, rfl, ha, hw⟩ := h1.tup
    have e := (hw.ints (intsOf_il t)).1
    subst e
    exact .cons ⟨a, rfl, ha⟩ (rlL_tups h2)
theorem paired_perm {α β : Type} {R : α → β → Prop} {ws vs : List α} (p : ws.Perm vs) : ∀ {ts : List β}, Paired R vs ts → ∃ us : List β, us.Perm ts ∧ Paired R ws us := by
  induction p with
  | nil => intro ts h; exact ⟨ts, .refl _, h⟩
  | cons x p ih =>
    intro ts h
    cases h with
    | cons r t =>
      obtain ⟨us, h1, h2⟩ := ih t
      exact ⟨_, h1.cons _, .cons r h2⟩
  | swap x y l =>
    intro ts h
    cases h with
    | cons r t =>
      cases t with
      | cons r2 t => exact ⟨_, .swap _ _ _, .cons r2 (.cons r t)⟩
  | trans p1 p2 ih1 ih2 =>
    intro ts h
    obtain ⟨us, h1, h2⟩ := ih2 h
    obtain ⟨us2, h3, h4⟩ := ih1 h2
    exact ⟨us2, h3.trans h1, h4⟩
theorem paired_mem {α β : Type} {R : α → β → Prop} : ∀ {vs : List α} {ts : List β}, Paired R vs ts → ∀ t ∈ ts, ∃ v ∈ vs, R v t
  | _, _, .nil, t, h => absurd h List.not_mem_nil
  | _, _, .cons r p, t, h => by
    rcases List.mem_cons.mp h with e | h
    · subst e; exact ⟨_, List.mem_cons_self, r⟩
    · obtain ⟨v, h1, h2⟩ := paired_mem p t h
      exact ⟨v, List.mem_cons_of_mem _ h1, h2⟩
theorem paired_pw {α β : Type} {R : α → β → Prop} {S : α → α → Prop} {S' : β → β → Prop} (k : ∀ v t w u, R v t → R w u → S v w → S' t u) : ∀ {vs : List α} {ts : List β}, Paired R vs ts → vs.Pairwise S → ts.Pairwise S'
  | _, _, .nil, _ => .nil
  | _, _, .cons r p, h => by
    obtain ⟨h1, h2⟩ := List.pairwise_cons.mp h
    refine List.pairwise_cons.mpr ⟨fun u hu => ?_, paired_pw k p h2⟩
    obtain ⟨w, hw, rw'⟩ := paired_mem p u hu
    exact k _ _ _ _ r rw' (h1 w hw)
theorem tlist_rl {K : Frag} : ∀ {ts : List (List Int)} {vs : List V}, Paired (fun v t => ∃ a, v = V.ref a ∧ SqD K H a (t.map V.int)) vs ts → RlL K ρ H (tlist ts) vs
  | _, _, .nil => RlL.nil
  | _, _, .cons ⟨a, e, h⟩ p => by
    subst e
    exact RlL.cons (rl_tup h (RlL.ofInts _)) (tlist_rl p)
/-- sorted of a list or tuple of tuples of ints -/
theorem sorted_colT {pins : List (Addr × Obj)} {σ : L2.St} {s : Shared} {a : Addr} {its : List Value} {d : Nat} {B : Int} {vs : List V} {ts : List (List Int)} {Q : VK} (I : Inv X pins σ H s)
    (col : ∀ {R : List Value → Shared → Prop}, (∀ (h' : Heap) (tk : Nat), (∀ b o, s.heap.get? b = some o → h'.get? b = some o) → R its { s with heap := h', toks := tk }) → wpAny (model X.prog X.w) X.A.in1 (collect (.ref a)) R X.xe s)
    (r : Vals vs its) (hp : Paired (fun v t => ∃ a, v = V.ref a ∧ SqD X.K H a (t.map V.int)) vs ts) (h64 : ts.length < 64) (h1 : 1 ≤ d) (hb : ∀ t ∈ ts, t.length = d ∧ TS.Bd B t)
    (q : ∀ p ws, H p = none → Paired (fun v t => ∃ a, v = V.ref a ∧ SqD X.K H a (t.map V.int)) ws (sortT ts) → Q (.ref p) (upd H p (.lst ws))) : wpAny (model X.prog X.w) X.A (call (.builtin "sorted") [.ref a]) (EP X pins σ Q) X.xe s := by
  have hlp : ∀ {ws : List V} {us : List (List Int)}, Paired (fun v t => ∃ a, v = V.ref a ∧ SqD X.K H a (t.map V.int)) ws us → ws.length = us.length := fun z => z.length
  have hvl := hlp hp
  have hil := r.length
  refine Calls.call_function_entry kind_sorted plain_sorted entry_sorted (args_sorted1 _) ?_
  unfold Builtin.«sorted»
  refine wpAny_bind (m := checkCount "sorted" 1 1 _) (wpAny_pure ?_)
  refine wpAny_bind (col fun h' tk k => ?_)
  refine wpAny_bind (wpAny_newList ?_ (by rw [sizeLine_eq]; omega))
  have I1 : Inv X pins σ H { s with heap := h', toks := tk } := I.kept (t' := tk) k
  have hoL : (h'.push (seqObj "list" its.toArray 0)).get? h'.objs.size = some (seqObj "list" its.toArray 0) := Heap.get?_push_size _ rfl
  have I2 : Inv X pins σ H { s with heap := h'.push (seqObj "list" its.toArray 0), toks := tk } := I1.kept (t' := tk) fun b u e => Heap.get?_push_of_some _ e
  obtain ⟨e1, e2⟩ := bkV_refs r fun x m => by
    have : ∀ {ws : List V} {us : List (List Int)}, Paired (fun v t => ∃ a, v = V.ref a ∧ SqD X.K H a (t.map V.int)) ws us → ∀ x ∈ ws, ∃ a, x = V.ref a := by
      intro ws us z
      induction z with
      | nil => intro x m; cases m
      | cons r p ih =>
        intro x m
        rcases List.mem_cons.mp m with e | m
        · obtain ⟨a, ea, _⟩ := r
          exact ⟨a, by rw [e, ea]⟩
        · exact ih x m
    exact this hp x m
  have back : ∀ {ws : List V} {us : List (List Int)}, Paired (fun v t => ∃ a, v = V.ref a ∧ SqD X.K H a (t.map V.int)) ws us → ∀ x ∈ ws, ∃ t ∈ us, TupI X.K H x t := by
    intro ws us z
    induction z with
    | nil => intro x m; cases m
    | cons r p ih =>
      intro x m
      rcases List.mem_cons.mp m with e | m
      · obtain ⟨a, ea, ha⟩ := r
        exact ⟨_, List.mem_cons_self, a, by rw [e, ea], ha.t⟩
      · obtain ⟨t, h1, h2⟩ := ih x m
        exact ⟨t, List.mem_cons_of_mem _ h1, h2⟩
  have ok : TS.TupsOk (h'.push (seqObj "list" its.toArray 0)) d B its := fun v hv => by
    obtain ⟨t, rfl⟩ := e2 v hv
    have hm : V.ref t ∈ vs := by
      rw [e1]
      exact List.mem_map.mpr ⟨_, hv, rfl⟩
    obtain ⟨ns, hns, t', et, ht⟩ := back hp _ hm
    cases et
    exact ⟨ns, tupI_raw I2 ht, hb ns hns⟩
  show wpAny _ _ _ _ _ { s with heap := h'.push (seqObj "list" its.toArray 0), toks := tk }
  refine wpAny_bind (wpAny_holding (TS.call_sort_tups (Q := fun _ s2 => _) hoL (by rw [← hil, hvl]; exact h64) h1 ok fun out o1 o2 => ?_))
  refine wpAny_pure ⟨_, rfl, ?_⟩
  obtain ⟨ep, he'⟩ := sortedHeap_at (vs := its) (out := out) hoL
  have h3 : ∀ u ∈ out.toList, ∃ a, u = Value.ref a := fun u hu => e2 u (o1.mem_iff.mp hu)
  have hpm : (out.toList.map bkV).Perm vs := by
    rw [e1]
    exact o1.map bkV
  obtain ⟨us, u1, u2⟩ := paired_perm hpm hp
  have hsrt : us = sortT ts := by
    refine sortT_unique hb u1 (paired_pw (S := fun x y => ∀ n m, TupI X.K H x n → TupI X.K H y m → TS.code B n ≤ TS.code B m) (fun v t w u ⟨a, ea, ha⟩ ⟨b, eb, hb'⟩ h => h t u ⟨a, ea, ha.t⟩ ⟨b, eb, hb'.t⟩) u2 ?_)
    rw [List.pairwise_map]
    refine List.Pairwise.imp (fun {u v} huv n m hn hm => ?_) o2
    obtain ⟨t, et, ht⟩ := hn
    obtain ⟨t', et', ht'⟩ := hm
    have eu := bkV_ref et
    have ev := bkV_ref et'
    rw [eu, ev, (tupI_raw I2 ht).ints, (tupI_raw I2 ht').ints] at huv
    exact huv
  rw [hsrt] at u2
  have hn : H h'.objs.size = none := I1.hok.fresh (Nat.le_refl _)
  refine ⟨.ref h'.objs.size, upd H h'.objs.size (.lst (out.toList.map bkV)), ?_, rfl, q _ _ hn u2⟩
  refine I1.laid (t' := tk) (fun b u e => ?_) (Nat.le_refl _) ⟨by rw [hpm.length_eq, hvl, sizeLine_eq]; omega, out.toList, ep, bkV_vals h3, he'⟩
  have hlt : b < h'.objs.size := Heap.lt_size e
  show (sortedHeap (h'.push (seqObj "list" its.toArray 0)) h'.objs.size its out).get? b = some u
  rw [sortedHeap_old (Nat.ne_of_lt hlt) (by rw [size_push']; exact Nat.lt_succ_of_lt hlt)]
  exact Heap.get?_push_of_some _ e
theorem sorted_seqT {pins : List (Addr × Obj)} {σ : L2.St} {s : Shared} {a : Addr} {T : String} {o : Obj} {its : List Value} {n d : Nat} {B : Int} {vs : List V} {ts : List (List Int)} {Q : VK} (I : Inv X pins σ H s) (hT : T = "list" ∨ T = "tuple")
    (ho : s.heap.get? a = some o) (hc : o.cls = .type T) (hd : o.data = .seq its.toArray n) (r : Vals vs its) (hp : Paired (fun v t => ∃ a, v = V.ref a ∧ SqD X.K H a (t.map V.int)) vs ts) (h64 : ts.length < 64) (h1 : 1 ≤ d) (hb : ∀ t ∈ ts, t.length = d ∧ TS.Bd B t)
    (q : ∀ p ws, H p = none → Paired (fun v t => ∃ a, v = V.ref a ∧ SqD X.K H a (t.map V.int)) ws (sortT ts) → Q (.ref p) (upd H p (.lst ws))) : wpAny (model X.prog X.w) X.A (call (.builtin "sorted") [.ref a]) (EP X pins σ Q) X.xe s := by
  have hlp : ∀ {ws : List V} {us : List (List Int)}, Paired (fun v t => ∃ a, v = V.ref a ∧ SqD X.K H a (t.map V.int)) ws us → ws.length = us.length := fun z => z.length
  have hvl := hlp hp
  have hil := r.length
  refine sorted_colT I (fun {R} k => wpAny_collect_seq a hT ho hc hd (fun h' kp => ?_) (by rw [sizeLine_eq]; simp; omega)) r hp h64 h1 hb q
  have e : its.toArray.toList = its := by simp
  rw [e]
  exact k h' s.toks kp
theorem crs_sorted (g : Gx F X) : CallR X (.builtin "sorted") (rSL F .sorted) := by
  intro pins s σ H ws us Q I r ⟨x, xs, ys, st, ρ, e, hs, ⟨a, vs, ea, h, hl⟩, hf, q⟩
  subst e ea
  simp only [fl] at hf
  obtain ⟨u, rfl, rx⟩ := vals1 r
  cases rx
  split at hf
  · rename_i ns hn
    cases hf
    obtain ⟨hv, _⟩ := hl.ints hn
    subst hv
    have fin : ∀ p, H p = none → Q (.ref p) (upd H p (.lst ((sortI ns).map V.int))) := fun p hp => q p _ hp (RlL.ofInts _)
    rcases h with h | h
    · obtain ⟨its, r', ⟨o, n, ho, hc, hdd, hd⟩, hz⟩ := I.list (by rw [g.K]; exact h)
      have := r'.length
      exact sorted_seq I (.inl rfl) ho hc hd r' (by omega) fin
    · obtain ⟨its, r', ⟨o, ho, hc, n, hd⟩, hz⟩ := I.tuple (by rw [g.K]; exact h.t)
      have := r'.length
      exact sorted_seq I (.inr rfl) ho hc hd r' (by omega) fin
  · split at hf
    · rename_i ts hts
      split at hf
      · rename_i hok
        cases hf
        obtain ⟨h64, d, h1, hb⟩ := okTs_ok hok
        rw [tupsOf_ok hts] at hl
        have hp := rlL_tups hl
        rw [← g.K] at hp
        have fin : ∀ p ws, H p = none → Paired (fun v t => ∃ a, v = V.ref a ∧ SqD X.K H a (t.map V.int)) ws (sortT ts) → Q (.ref p) (upd H p (.lst ws)) := fun p ws hpn hw => q p ws hpn (tlist_rl (by rw [g.K] at hw; exact hw))
        rcases h with h | h
        · obtain ⟨its, r', ⟨o, n, ho, hc, hdd, hd⟩, hz⟩ := I.list (by rw [g.K]; exact h)
          exact sorted_seqT I (.inl rfl) ho hc hd r' hp h64 h1 hb fin
        · obtain ⟨its, r', ⟨o, ho, hc, n, hd⟩, hz⟩ := I.tuple (by rw [g.K]; exact h.t)
          exact sorted_seqT I (.inr rfl) ho hc hd r' hp h64 h1 hb fin
      · cases hf
    · cases hf
theorem nubT_mem (t : List Int) : ∀ ts : List (List Int), t ∈ nubT ts ↔ t ∈ ts
  | [] => Iff.rfl
  | x :: r => by
    unfold nubT
    by_cases h : r.contains x = true
    · rw [if_pos h, nubT_mem t r]
      have hx : x ∈ r := by simpa using h
      constructor
      · exact fun z => List.mem_cons_of_mem _ z
      · intro z
        rcases List.mem_cons.mp z with e | z
        · rw [e]; exact hx
        · exact z
    · rw [if_neg h, List.mem_cons, List.mem_cons, nubT_mem t r]
theorem nubT_nodup : ∀ ts : List (List Int), (nubT ts).Nodup
  | [] => .nil
  | x :: r => by
    unfold nubT
    by_cases h : r.contains x = true
    · rw [if_pos h]; exact nubT_nodup r
    · rw [if_neg h]
      refine List.nodup_cons.mpr ⟨fun z => h ?_, nubT_nodup r⟩
      simpa using (nubT_mem x r).mp z
theorem pairs_of_tups {K : Frag} : ∀ {vs : List V} {ts : List (List Int)}, Paired (fun v t => ∃ a, v = V.ref a ∧ SqD K H a (t.map V.int)) vs ts → ∃ ks : List (Addr × List Int), vs = ks.map (fun p => V.ref p.1) ∧ ts = ks.map (·.2) ∧ ∀ p ∈ ks, SqD K H p.1 (p.2.map V.int)
  | _, _, .nil => ⟨[], rfl, rfl, fun p h => absurd h List.not_mem_nil⟩
  | _, _, .cons (b := t) ⟨a, e, h⟩ p => by
    obtain ⟨ks, h1, h2, h3⟩ := pairs_of_tups p
    refine ⟨(a, t) :: ks, by rw [e, h1]; rfl, by rw [h2]; rfl, fun q hq => ?_⟩
    rcases List.mem_cons.mp hq with z | z
    · subst z; exact h
    · exact h3 q z
theorem rl_pairs {K : Frag} : ∀ (ks : List (Addr × List Int)), (∀ p ∈ ks, SqD K H p.1 (p.2.map V.int)) → RlL K ρ H (tlist (ks.map (·.2))) (ks.map fun p => V.ref p.1)
  | [], _ => RlL.nil
  | p :: ks, h => RlL.cons (rl_tup (h p List.mem_cons_self) (RlL.ofInts _)) (rl_pairs ks fun q hq => h q (List.mem_cons_of_mem _ hq))
/-- a set of tuples of ints is made, then sorted -/
theorem sset_ok {K : Frag} {P : Program} {w : World} {τ : Tbs} {xs : List D} {ys : List D} {vs : List V} {l : Addr} {Q : VK} (s : SR τ K ρ H st) (hl : RlL K ρ H xs vs) (hL : SqL K H l vs) (hf : ssetL xs = some ys)
    (q : ∀ H1 p vs', Ext ρ H ρ H1 → SR τ K ρ H1 st → H1 p = none → RlL K ρ H1 ys vs' → Q (.ref p) (upd H1 p (.lst vs'))) :
    rSetOfT K P w [V.ref l] H fun x H1 => rSortedT K P w [x] H1 Q := by
  unfold ssetL at hf
  split at hf
  · rename_i ts hts
    split at hf
    · rename_i hok
      cases hf
      obtain ⟨h64, d, h1, hb⟩ := okTs_ok hok
      rw [tupsOf_ok hts] at hl
      obtain ⟨ks, rfl, rfl, hk⟩ := pairs_of_tups (rlL_tups hl)
      refine ⟨l, ks, rfl, hL, fun p hp => (hk p hp).t, by rw [List.length_map] at h64; exact h64, fun a L hn hin hall => ?_⟩
      obtain ⟨s', e'⟩ := s.beside (u := SetTO P w a L) hn (fun _ z => by unfold SetTO at z; cases z)
      refine ⟨a, L, d, 1000000, rfl, upd_same, fun p hp => (e'.tup (hk p (hin p hp))).t, h1, fun p hp => hb _ (List.mem_map.mpr ⟨p, hin p hp, rfl⟩), fun L' p hpm hnd hlt hpw hpn => ?_⟩
      have hmem : ∀ t, t ∈ L'.map (·.2) ↔ t ∈ nubT (ks.map (·.2)) := by
        intro t
        rw [nubT_mem]
        constructor
        · intro z
          obtain ⟨p, hp, e⟩ := List.mem_map.mp z
          exact List.mem_map.mpr ⟨p, hin p (hpm.mem_iff.mp hp), e⟩
        · intro z
          obtain ⟨p, hp, e⟩ := List.mem_map.mp z
          obtain ⟨p2, hp2, e2⟩ := List.mem_map.mp (hall p hp)
          exact List.mem_map.mpr ⟨p2, hpm.mem_iff.mpr hp2, by rw [e2]; exact e⟩
      have hperm := (List.perm_ext_iff_of_nodup hnd (nubT_nodup _)).mpr hmem
      have hs : L'.map (·.2) = sortT (nubT (ks.map (·.2))) := sortT_unique (B := 1000000) (d := d) (fun t ht => hb t ((nubT_mem t _).mp ht)) hperm (by rw [List.pairwise_map]; exact hpw)
      refine q _ p _ e' s' hpn ?_
      rw [← hs]
      exact rl_pairs L' fun p hp => e'.tup (hk p (hin p (hpm.mem_iff.mp hp)))
    · cases hf
  · cases hf
end
end Cr

set_option maxRecDepth 100000
set_option maxHeartbeats 1000000
namespace Cr
open PySem PySem.Spec PyProof.Rows PySem.Calls L2
section
variable {F : Cf} {X : Cx} {W : VW} {ρ : Rho} {H : Hp} {st : Store}
theorem ixN_eq (n : Nat) (i : Int) : Cr.ixN n i = L2.ixN n i := rfl
theorem atL_get {xs : List D} {i : Int} {d : D} (h : atL xs i = some d) : ∃ j, L2.ixN xs.length i = some j ∧ xs[j]? = some d := by
  unfold atL at h
  rw [ixN_eq] at h
  cases e : L2.ixN xs.length i with
  | none => rw [e] at h; cases h
  | some j => rw [e] at h; exact ⟨j, rfl, h⟩
theorem atI_rl {K : Frag} {xs : List D} {vs : List V} {i : Int} {d : D} (h : atL xs i = some d) (r : RlL K ρ H xs vs) : ∃ v, atI vs i = some v ∧ Rl K ρ H d v := by
  obtain ⟨j, h1, h2⟩ := atL_get h
  obtain ⟨v, h3, h4⟩ := r.get h2
  refine ⟨v, ?_, h4⟩
  unfold atI
  rw [← r.len, h1]
  exact h3
theorem dget_rl {K : Frag} {k : D} {kk : Key} {v : V} (hk : keyOf k = some kk) : ∀ {kvs : List (D × D)} {ws : List (Key × V)} {d : D}, RlK K ρ H kvs ws → dget st k kvs = some d → ∃ v, valV ws kk = some v ∧ Rl K ρ H d v
  | [], ws, d, h, e => by cases e
  | p :: r, ws, d, h, e => by
    obtain ⟨k2, v2, t, rfl, h1, h2, h3⟩ := h
    obtain ⟨a, b⟩ := p
    simp only [dget] at e
    have hv : valV ((k2, v2) :: t) kk = if k2 = kk then some v2 else valV t kk := by
      unfold valV
      simp only [List.find?_cons]
      by_cases hh : k2 = kk
      · simp [hh]
      · have : decide (k2 = kk) = false := decide_eq_false hh
        simp [hh]
    rw [hv]
    cases k with
    | int i =>
      cases hk
      cases a with
      | int j =>
        cases h1
        dsimp only at e
        by_cases hij : i = j
        · rw [if_pos hij] at e
          cases e
          rw [if_pos (by rw [hij])]
          exact ⟨v2, rfl, h2⟩
        · rw [if_neg hij] at e
          rw [if_neg (fun z => hij (Sum.inl.inj z).symm)]
          exact dget_rl (v := v) rfl h3 e
      | _ => cases e
    | str x =>
      cases hk
      cases a with
      | str y =>
        cases h1
        dsimp only at e
        by_cases hij : x = y
        · rw [if_pos hij] at e
          cases e
          rw [if_pos (by rw [hij])]
          exact ⟨v2, rfl, h2⟩
        · rw [if_neg hij] at e
          rw [if_neg (fun z => hij (Sum.inr.inj z).symm)]
          exact dget_rl (v := v) rfl h3 e
      | _ => cases e
    | _ => cases hk
theorem dget_key {k : D} {kvs : List (D × D)} {d : D} (e : dget st k kvs = some d) : ∃ kk, keyOf k = some kk := by
  cases kvs with
  | nil => cases e
  | cons p r =>
    obtain ⟨a, b⟩ := p
    cases k <;> (first | exact ⟨_, rfl⟩ | (simp [dget] at e))
theorem keyOf_kV {K : Frag} {k : D} {y : V} {kk : Key} (h2 : Rl K ρ H k y) (hk : keyOf k = some kk) : y = kV kk := by
  cases k with
  | int i => cases hk; exact h2.int
  | str z => cases hk; exact h2.str
  | _ => cases hk
theorem ixr_D (g : Gx F X) : IxR X (rOp F W idx) := by
  intro value slice pins s σ H x y v u Q I rx ry ⟨dx, dy, st, ρ, hs, h1, h2, hp⟩ hsub
  cases dx with
  | tup xs =>
    cases dy with
    | int i =>
      obtain ⟨a, vs, rfl, ha, ra⟩ := h1.tup
      obtain rfl := h2.int
      simp only [idx] at hp
      split at hp
      · rename_i d hd
        obtain ⟨w, hw, rw'⟩ := atI_rl hd ra
        exact ix_tup value slice pins s σ H _ _ v u Q I rx ry ⟨a, vs, i, w, rfl, rfl, by rw [g.K]; exact ha.t, hw, hp.ok hs rw'⟩ hsub
      · exact hp.elim
    | _ => exact (show False from hp).elim
  | lit ns =>
    cases dy with
    | int i =>
      obtain ⟨a, rfl, ha⟩ := h1.lit
      obtain rfl := h2.int
      simp only [idx] at hp
      split at hp
      · rename_i d hd
        have hd' : atI (ns.map V.int) i = some (.int d) := by
          unfold atL at hd
          rw [ixN_eq] at hd
          unfold atI
          rw [List.length_map]
          cases e : L2.ixN ns.length i with
          | none => rw [e] at hd; cases hd
          | some j =>
            rw [e] at hd
            have hd : ns[j]? = some d := hd
            show (ns.map V.int)[j]? = _
            rw [List.getElem?_map, hd]; rfl
        exact ix_list value slice pins s σ H _ _ v u Q I rx ry ⟨a, ns.map V.int, i, _, rfl, rfl, by rw [g.K]; exact ha.l, hd', hp.ok hs rl_int⟩ hsub
      · exact hp.elim
    | _ => exact (show False from hp).elim
  | loc l =>
    obtain ⟨a, ha, rfl⟩ := h1.loc
    simp only [idx] at hp
    split at hp
    · rename_i xs i hl
      split at hp
      · rename_i d hd
        obtain ⟨vs, q1, r1⟩ := hs.obj l _ a hl ha
        obtain ⟨w, hw, rw'⟩ := atI_rl hd r1
        obtain rfl := h2.int
        exact ix_list value slice pins s σ H _ _ v u Q I rx ry ⟨a, vs, i, w, rfl, rfl, SqL.of q1, hw, hp.ok hs rw'⟩ hsub
      · exact hp.elim
    · rename_i kd kvd kvs hl
      split at hp
      · rename_i d hd
        obtain ⟨ws, q1, r1⟩ := hs.obj l _ a hl ha
        obtain ⟨kk, hk⟩ := dget_key hd
        obtain ⟨w, hw, rw'⟩ := dget_rl (v := .non) hk r1 hd
        have ey : y = kV kk := keyOf_kV h2 hk
        cases rx
        have gd : DGet H a y (some w) := .inl ⟨ws, kk, .inl q1, ey, hw.symm⟩
        exact tail_any (ops := [.ref a, u]) (dict_typeIs I gd) PySem.F.slot_dict_getitem.lookup (d_getItem (by have := g.un; omega) I gd ry fun w' s3 I3 rw3 => ⟨w, H, I3, rw3, hp.ok hs rw'⟩) hsub
      · exact hp.elim
    · exact hp.elim
  | _ => exact (show False from hp).elim
theorem tupsOf_map : ∀ L : List (Addr × List Int), tupsOf (L.map fun p => D.tup (ilist p.2)) = some (L.map (·.2))
  | [] => rfl
  | p :: r => by
    have e : tupI? (.tup (ilist p.2)) = some p.2 := intsOf_il p.2
    show (match tupI? (.tup (ilist p.2)), tupsOf (r.map fun p => D.tup (ilist p.2)) with | some n, some ns => some (n :: ns) | _, _ => none) = _
    rw [e, tupsOf_map r]; rfl
theorem set_D (g : Gx F X) : PSet X (fun o i v H Q => ∃ dx dy dv st ρ, SR F.τ F.K ρ H st ∧ Rl F.K ρ H dx o ∧ Rl F.K ρ H dy i ∧ Rl F.K ρ H dv v ∧ Post F (fun _ _ _ (_ : Unit) => True) W (setAt dx dy dv st) ρ H (fun _ H' => Q H')) := by
  intro pins s σ H o i v ov iv u Q I ro ri rv ⟨dx, dy, dv, st, ρ, hs, h1, h2, h3, hp⟩
  cases dx with
  | loc l =>
    cases dy with
    | int k =>
      obtain ⟨a, ha, rfl⟩ := h1.loc
      obtain rfl := h2.int
      simp only [setAt] at hp
      split at hp
      · rename_i xs hl
        split at hp
        · rename_i j hj
          obtain ⟨vs, q1, r1⟩ := hs.obj l _ a hl ha
          refine set_list pins s σ H _ _ _ ov iv u Q I ro ri rv ⟨a, vs, k, j, rfl, rfl, q1, by rw [← r1.len, ← ixN_eq]; exact hj, ?_⟩
          have ext : Ext ρ H ρ (upd H a (.lst (vs.set j v))) := by
            refine ⟨⟨[], by simp⟩, fun b z e n _ => ?_, fun b h1 h2 => absurd h1 h2, fun _ h => upd_dom h⟩
            have hb : b ≠ a := by
              rintro rfl
              rcases n with n | n
              · exact n (List.mem_of_getElem? ha)
              · rw [q1] at e; cases e; exact n trivial
            rw [upd_ne hb]; exact e
          obtain ⟨s', e'⟩ := hs.set (o' := .lst (xs.set j dv)) (u := .lst (vs.set j v)) hl ha rfl rfl (by rw [q1]; trivial) (fun _ z => by rw [q1] at z; cases z) ⟨_, upd_same, RlL.mono ext _ _ (r1.set j h3)⟩
          exact hp _ _ () e' s' trivial
        · exact hp.elim
      · exact hp.elim
    | tup ds =>
      obtain ⟨a, ha, rfl⟩ := h1.loc
      simp only [setAt] at hp
      split at hp
      · rename_i o ns hl hns
        split at hp
        · rename_i ts hts
          split at hp
          · rename_i hz
            obtain ⟨b, vv, rfl, hb, rb⟩ := h2.tup
            obtain ⟨rfl, _⟩ := rb.ints hns
            unfold Rl at h3
            subst h3
            cases o with
            | lst _ => cases hts
            | dict _ => cases hts
            | ins c fs =>
              have hts : tupsOf (fs.map (·.2)) = some ts := hts
              obtain ⟨L, hL, hf, hk⟩ := hs.obj l _ a hl ha
              have htl : L.map (·.2) = ts := by
                rw [hf, tupsOf_map] at hts
                exact Option.some.inj hts
              cases ro
              cases ri
              cases rv
              have hlen : L.length = ts.length := by rw [← htl, List.length_map]
              refine dic_set (by have := g.un; omega) I hL (fun q hq => by rw [g.K]; exact (hk q hq).t) (by rw [g.K]; exact hb.t) (by rw [sizeLine_eq]; omega) fun s' I' => ⟨_, I', ?_⟩
              have ext : Ext ρ H ρ (upd H a (DicO a (putT L b ns))) := by
                refine ⟨⟨[], by simp⟩, fun b' z e n _ => ?_, fun b' h1 h2 => absurd h1 h2, fun _ h => upd_dom h⟩
                have hb' : b' ≠ a := by
                  rintro rfl
                  rcases n with n | n
                  · exact n (List.mem_of_getElem? ha)
                  · rw [hL] at e; cases e; exact n trivial
                rw [upd_ne hb']; exact e
              have hk' : ∀ q ∈ putT L b ns, SqD F.K (upd H a (DicO a (putT L b ns))) q.1 (q.2.map V.int) := fun q hq => by
                refine ext.tup ?_
                unfold putT at hq
                split at hq
                · exact hk q hq
                · rcases List.mem_append.mp hq with hq | hq
                  · exact hk q hq
                  · rw [List.mem_singleton.mp hq]; exact hb
              have he : (dtsO (putTs ts ns)) = .ins (Str.ofString "") ((putT L b ns).map fun q => (Str.ofString "", D.tup (ilist q.2))) := by
                have e2 : putTs ts ns = (putT L b ns).map (·.2) := by
                  unfold putTs putT
                  rw [htl]
                  split
                  · exact htl.symm
                  · rw [List.map_append, htl]; rfl
                rw [e2]
                unfold dtsO
                rw [List.map_map]; rfl
              obtain ⟨s2, e2⟩ := hs.setX (o' := dtsO (putTs ts ns)) (u := DicO a (putT L b ns)) hl ha rfl rfl (by rw [hL]; trivial) (fun c q z => by rw [hL] at z; exact dic_ne_code (Option.some.inj z)) (by
                rw [he]
                exact ⟨_, upd_same, by rw [List.map_map]; rfl, hk'⟩) (by intro _ z; unfold DicO at z; cases z)
              exact hp _ _ () e2 s2 trivial
          · exact hp.elim
        · exact hp.elim
      · exact hp.elim
    | _ => exact (show False from hp).elim
  | _ => exact (show False from hp).elim

theorem sIx_eq (n d : Nat) (o : Option Int) (hd : d ≤ n) : Cr.sIx n d o = HT.sIx n d o := by
  cases o with
  | none => rfl
  | some i =>
    show (max 0 (min (n : Int) (if i < 0 then i + n else i))).toNat = if i < 0 then (i + (n : Int)).toNat else min i.toNat n
    split
    · omega
    · omega
theorem cut_rl {K : Frag} {xs : List D} {vs : List V} (r : RlL K ρ H xs vs) (lo hi : Option Int) : RlL K ρ H (cut xs lo hi) (cutV vs lo hi) := by
  unfold cut cutV
  rw [sIx_eq _ _ _ (Nat.zero_le _), sIx_eq _ _ _ (Nat.le_refl _), r.len]
  exact (r.drop _).take _
def rSlc (F : Cf) (W : VW) : V → Option Int → Option Int → Hp → VK → Prop := fun x lo hi H Q => ∃ dx st ρ, SR F.τ F.K ρ H st ∧ Rl F.K ρ H dx x ∧ Post F (Rl F.K) W (slc dx lo hi st) ρ H Q
theorem slr_D (g : Gx F X) : SlR X (rSlc F W) := by
  intro pins s σ H x v vl vu lo hi sl Q I rx hsl pl pu ⟨dx, st, ρ, hs, h1, hp⟩
  cases dx with
  | tup xs =>
    obtain ⟨a, vs, rfl, ha, ra⟩ := h1.tup
    cases rx
    obtain ⟨its, r, ht, hz⟩ := I.tuple (by rw [g.K]; exact ha.t)
    have hlen : its.toArray.size = vs.length := by rw [List.size_toArray]; exact r.length.symm
    refine ⟨"tuple", _, PyProof.Rows.slot_tuple_getitem.lookup, ht.typeIs, ?_⟩
    by_cases hw : HT.sIx vs.length 0 lo = 0 ∧ HT.sIx vs.length vs.length hi = vs.length
    · refine getItem_tuple_whole ht hsl pl pu (by rw [hlen]; exact hw) ⟨.ref a, H, I, rfl, hp.ok hs (rl_tup ha ?_)⟩
      have e := cut_rl ra lo hi
      unfold cutV at e
      rw [hw.1, hw.2] at e
      simpa using e
    · refine HT.getItem_tuple_cut ht hsl pl pu (by rw [hlen]; exact hw) ?_ (by rw [hlen]; exact hz)
      rw [hlen]
      obtain ⟨J, hn⟩ := I.tupN (its := ((its.drop (HT.sIx vs.length 0 lo)).take (HT.sIx vs.length vs.length hi - HT.sIx vs.length 0 lo))) (vs := cutV vs lo hi) ((r.drop _).take _) (Nat.le_trans (cutV_length vs lo hi) hz)
      exact ⟨.ref s.heap.objs.size, _, J, rfl, hp.newT hs (cut_rl ra lo hi) hn⟩
  | lit ns =>
    obtain ⟨a, rfl, ha⟩ := h1.lit
    refine sl_list pins s σ H _ v vl vu lo hi sl Q I rx hsl pl pu ⟨a, ns.map V.int, rfl, by rw [g.K]; exact ha.l, fun p hn => ?_⟩
    have e : cutV (ns.map V.int) lo hi = (cut ns lo hi).map V.int := by
      unfold cut cutV
      rw [sIx_eq _ _ _ (Nat.zero_le _), sIx_eq _ _ _ (Nat.le_refl _), List.length_map, List.map_take, List.map_drop]
    rw [e]
    exact hp.newL hs (RlL.ofInts _) hn
  | loc l =>
    obtain ⟨a, ha, rfl⟩ := h1.loc
    simp only [slc] at hp
    split at hp
    · rename_i xs hg
      obtain ⟨vs, h2, h3⟩ := hs.getL hg ha
      exact sl_list pins s σ H _ v vl vu lo hi sl Q I rx hsl pl pu ⟨a, vs, rfl, by rw [g.K]; exact h2, fun p hn => hp.newL hs (cut_rl h3 lo hi) hn⟩
    · exact hp.elim
  | _ => exact (show False from hp).elim

def rM (F : Cf) (W : VW) (g : D → List D → M D) : V → List V → Hp → VK → Prop := fun x ws H Q => ∃ dx ds st ρ, SR F.τ F.K ρ H st ∧ Rl F.K ρ H dx x ∧ RlL F.K ρ H ds ws ∧ Post F (Rl F.K) W (g dx ds st) ρ H Q
theorem RlL.nil_inv {K : Frag} {ws : List V} (h : RlL K ρ H [] ws) : ws = [] := by unfold RlL at h; exact h
theorem RlL.cons_inv {K : Frag} {d : D} {ds : List D} {ws : List V} (h : RlL K ρ H (d :: ds) ws) : ∃ v r, ws = v :: r ∧ Rl K ρ H d v ∧ RlL K ρ H ds r := by unfold RlL at h; exact h
/-- a list of the store's is written -/
theorem Post.setL {l : Nat} {a : Addr} {xs ys : List D} {vs ws : List V} {d : D} {v : V} {Q : VK} (h : Post F (Rl F.K) W (.ok d (st.set l (.lst ys))) ρ H Q) (s : SR F.τ F.K ρ H st) (hl : st[l]? = some (.lst xs)) (ha : ρ[l]? = some a) (q1 : H a = some (.lst vs))
    (r : RlL F.K ρ H ys ws) (rd : Rl F.K ρ H d v) : Q v (upd H a (.lst ws)) := by
  have ext : Ext ρ H ρ (upd H a (.lst ws)) := by
    refine ⟨⟨[], by simp⟩, fun b z e n _ => ?_, fun b h1 h2 => absurd h1 h2, fun _ h => upd_dom h⟩
    have hb : b ≠ a := by
      rintro rfl
      rcases n with n | n
      · exact n (List.mem_of_getElem? ha)
      · rw [q1] at e; cases e; exact n trivial
    rw [upd_ne hb]; exact e
  obtain ⟨s', e'⟩ := s.set (o' := .lst ys) (u := .lst ws) hl ha rfl rfl (by rw [q1]; trivial) (fun _ z => by rw [q1] at z; cases z) ⟨_, upd_same, RlL.mono ext _ _ r⟩
  exact h _ _ _ e' s' (Rl.mono e' _ _ rd)
theorem mt_append (g : Gx F X) : MtR X "list.append" (rM F W (meth .append .list)) := by
  intro pins s σ H x ws v us Q I rx rv ⟨dx, ds, st, ρ, hs, h1, h2, hp⟩
  cases dx with
  | loc l =>
    cases ds with
    | nil => exact (show False from hp).elim
    | cons d ds =>
      cases ds with
      | cons _ _ => exact (show False from hp).elim
      | nil =>
        obtain ⟨y, r, rfl, ry, rr⟩ := h2.cons_inv
        obtain rfl := rr.nil_inv
        obtain ⟨a, ha, rfl⟩ := h1.loc
        simp only [meth] at hp
        split at hp
        · rename_i xs hl
          split at hp
          · rename_i hz
            obtain ⟨vs, q1, r1⟩ := hs.obj l _ a hl ha
            exact L2.mt_append pins s σ H _ _ v us Q I rx rv ⟨a, vs, y, rfl, rfl, q1, by rw [← r1.len]; exact sz5' hz, hp.setL hs hl ha q1 (r1.append (RlL.cons ry RlL.nil)) rl_non⟩
          · exact hp.elim
        · exact hp.elim
  | _ => exact (show False from hp).elim
theorem mt_pop1 (g : Gx F X) : MtR X "list.pop" (rM F W (meth .pop .list)) := by
  intro pins s σ H x ws v us Q I rx rv ⟨dx, ds, st, ρ, hs, h1, h2, hp⟩
  cases dx with
  | loc l =>
    cases ds with
    | nil => exact (show False from hp).elim
    | cons d ds =>
      cases ds with
      | cons _ _ => cases d <;> exact (show False from hp).elim
      | nil =>
        cases d with
        | int i =>
          obtain ⟨y, r, rfl, ry, rr⟩ := h2.cons_inv
          obtain rfl := rr.nil_inv
          obtain rfl := ry.int
          obtain ⟨a, ha, rfl⟩ := h1.loc
          simp only [meth] at hp
          split at hp
          · rename_i xs hl
            split at hp
            · rename_i j hj
              split at hp
              · rename_i w hw
                obtain ⟨vs, q1, r1⟩ := hs.obj l _ a hl ha
                obtain ⟨z, hz, rz⟩ := r1.get hw
                obtain ⟨_, _, _, hl2⟩ := ixN_seq (by rw [← ixN_eq]; exact hj)
                obtain ⟨k1, k2, k3, k4⟩ := ixN_seq (show L2.ixN vs.length i = some j by rw [← r1.len, ← ixN_eq]; exact hj)
                obtain ⟨hzl, _⟩ := I.hok a _ q1
                have l63 := line63
                exact mt_popAt pins s σ H _ _ v us Q I rx rv ⟨a, vs, i, j, z, rfl, rfl, q1, by omega, by omega, k1, hz, hp.setL hs hl ha q1 (r1.eraseIdx j) rz⟩
              · exact hp.elim
            · exact hp.elim
          · exact hp.elim
        | _ => exact (show False from hp).elim
  | _ => exact (show False from hp).elim
theorem mt_pop0 (g : Gx F X) : MtR X "list.pop" (fun x ws H Q => ws = [] ∧ ∃ dx st ρ, SR F.τ F.K ρ H st ∧ Rl F.K ρ H dx x ∧ Post F (Rl F.K) W (meth0 .pop .list dx st) ρ H Q) := by
  intro pins s σ H x ws v us Q I rx rv ⟨ew, dx, st, ρ, hs, h1, hp⟩
  subst ew
  cases dx with
  | loc l =>
    obtain ⟨a, ha, rfl⟩ := h1.loc
    simp only [meth0] at hp
    split at hp
    · rename_i xs hl
      split at hp
      · rename_i w hw
        obtain ⟨vs, q1, r1⟩ := hs.obj l _ a hl ha
        obtain ⟨z, hz, rz⟩ := r1.get hw
        exact mt_pop pins s σ H _ _ v us Q I rx rv ⟨a, vs, z, rfl, rfl, q1, by rw [← r1.len]; exact hz, hp.setL hs hl ha q1 r1.dropLast rz⟩
      · exact hp.elim
    · exact hp.elim
  | _ => exact (show False from hp).elim
theorem extend_ok (g : Gx F X) {pins : List (Addr × Obj)} {s : Shared} {σ : L2.St} {dx : D} {ys : List D} {vs : List V} {b : Addr} {v : Value} {x : V} {Q : VK} (I : Inv X pins σ H s) (rx : RelV x v) (hs : SR F.τ F.K ρ H st) (h1 : Rl F.K ρ H dx x)
    (hb : H b = some (.lst vs)) (r : RlL F.K ρ H ys vs) (hp : Post F (Rl F.K) W (extend dx ys st) ρ H Q) : wpAny (model X.prog X.w) X.A (call (.builtin "list.extend") [v, .ref b]) (EP X pins σ Q) X.xe s := by
  cases dx with
  | loc l =>
    obtain ⟨a, ha, rfl⟩ := h1.loc
    simp only [extend] at hp
    split at hp
    · rename_i xs hl
      split at hp
      · rename_i hz
        obtain ⟨ws, q1, r1⟩ := hs.obj l _ a hl ha
        rw [r1.len, r.len] at hz
        exact mt_extend pins s σ H _ _ v _ Q I rx (Paired.cons (show L2.RelV (V.ref b) (Value.ref b) from rfl) Paired.nil) ⟨a, b, ws, vs, rfl, rfl, q1, hb, sz5 hz, hp.setL hs hl ha q1 (r1.append r) rl_non⟩
      · exact hp.elim
    · exact hp.elim
  | _ => exact (show False from hp).elim
theorem mt_index (g : Gx F X) : MtR X "tuple.index" (rM F W (meth .index .tuple)) := by
  intro pins s σ H x ws v us Q I rx rv ⟨dx, ds, st, ρ, hs, h1, h2, hp⟩
  cases dx with
  | tup xs =>
    cases ds with
    | nil => exact (show False from hp).elim
    | cons d ds =>
      cases ds with
      | cons _ _ => exact (show False from hp).elim
      | nil =>
        obtain ⟨y, r, rfl, ry, rr⟩ := h2.cons_inv
        obtain rfl := rr.nil_inv
        have hf : ∃ k, findIx st d (.tup xs) = some k ∧ Q (.int k) H := by
          simp only [meth] at hp
          split at hp
          · rename_i k hk; exact ⟨k, hk, hp.ok hs rl_int⟩
          · exact hp.elim
        obtain ⟨j, hfi, q⟩ := hf
        unfold findIx at hfi
        have hcases : ∃ p ps, pdS st d = some p ∧ pdS st (.tup xs) = some (.tuple ps) ∧ ps.findIdx? (fun z => PyData.eqv z p) = some j := by
          split at hfi
          · rename_i p ps e1 e2; exact ⟨p, ps, e1, e2, hfi⟩
          · rename_i p ps e1 e2
            exfalso
            unfold pdS at e2
            simp only [pd] at e2
            cases hm : xs.mapM (pd st 29) with
            | none => rw [hm] at e2; simp at e2
            | some qs =>
              rw [hm] at e2
              simp only [Option.map_some] at e2
              split at e2 <;> cases e2
          · cases hfi
        obtain ⟨p, ps, e1, e2, e3⟩ := hcases
        obtain ⟨dy, sy⟩ := pdS_dp hs e1 ry
        obtain ⟨dc, sc⟩ := pdS_dp hs e2 h1
        rw [← g.K] at dy dc
        cases rv with
        | cons r1 rt =>
          rename_i uy ut
          cases rt
          obtain ⟨bs, rd⟩ := Dp.reads I p y uy dy r1
          have hu := g.un
          have hxs : PyData.canLayAll0 ps = true := SeqAt.canLay_of_shaped sc
          have hroom : X.A.units + 1 + min (PyData.depthAll ps) p.depth < cLine := room_in_shaped sy (by omega)
          cases dc with
          | tup hst ha =>
            cases rx
            obtain ⟨its, rv, ⟨⟨cls, dd, data, sls⟩, ho, hc, n, hdt⟩, hlen⟩ := I.tuple hst
            simp only at hc hdt
            subst hc hdt
            obtain ⟨as, h4⟩ := Dp.readsAll I ps _ its ha rv
            have hn : its.length = ps.length := SeqAt.ReadsAll.length ps its as h4
            have hmap : its.map (SeqAt.readOf s.heap) = ps := SeqAt.readsAll_map ps its as hxs h4
            obtain ⟨hjp, hz, hno⟩ := List.findIdx?_eq_some_iff_getElem.mp e3
            have hj : j < its.toArray.size := by simp; omega
            have at_ : ∀ (m : Nat) (hm : m < its.toArray.size), SeqAt.readOf s.heap its.toArray[m] = ps[m]'(by simp at hm; omega) := by
              intro m hm
              have hml : m < its.length := by simpa using hm
              have : (its.map (SeqAt.readOf s.heap))[m]? = ps[m]? := by rw [hmap]
              rw [List.getElem?_map, List.getElem?_eq_getElem hml, List.getElem?_eq_getElem (by omega)] at this
              have e1 := Option.some.inj this
              simpa using e1
            refine call_meets PySem.F.slot_tuple_index ⟨_, ho, rfl⟩ PySem.F.entry_tuple_index (PySem.F.args_tuple_index_2 _ _)
              (TI.tuple_indexAt _ its.toArray n dd sls uy (fun u => PyData.eqv (SeqAt.readOf s.heap u) p) j hj ?_ ?_) ⟨ho, SeqAt.items_eqAt (vs := its.toArray) (show ReadsAll s.heap its.toArray.toList ps as from h4) rd hxs (SeqAt.canLay_of_shaped sy) hroom, ?_⟩
            · show PyData.eqv (SeqAt.readOf s.heap its.toArray[j]) p = true
              rw [at_ j hj]
              exact hz
            · intro m hm hmj
              show PyData.eqv (SeqAt.readOf s.heap its.toArray[m]) p = false
              rw [at_ m hm]
              exact Bool.eq_false_iff.mpr (hno m hmj)
            · exact ⟨.int (j : Nat), H, I.tok _, ⟨_, rfl⟩, q⟩
  | _ => exact (show False from hp).elim
end
end Cr

set_option maxRecDepth 100000
set_option maxHeartbeats 1000000
namespace Cr
open PySem PySem.Spec PyProof.Rows PySem.Calls L2
section
variable {F : Cf} {X : Cx} {W : VW} {ρ ρ' : Rho} {H H' : Hp} {st : Store} {σ : L2.St}
theorem SR.out {K : Frag} {p : Addr} (s : SR τ K ρ H st) (hp : H p = none) : p ∉ ρ := fun hm => by
  obtain ⟨l, hl, e⟩ := List.mem_iff_getElem.mp hm
  have h1 : l < st.length := by rw [← s.len]; exact hl
  have := s.obj l st[l] p (by simp [h1]) (by simp [hl, e])
  cases ho : st[l] with
  | lst xs => rw [ho] at this; obtain ⟨vs, q, _⟩ := this; rw [hp] at q; cases q
  | dict kvs => rw [ho] at this; obtain ⟨vs, q, _⟩ := this; rw [hp] at q; cases q
  | ins _ _ => rw [ho] at this; obtain ⟨L, q, _⟩ := this; rw [hp] at q; cases q
/-- a list that was made behind H0 -/
def LsR (K : Frag) (H0 : Hp) (ρ : Rho) (H : Hp) (xs : List D) (v : V) : Prop := ∃ a vs, v = .ref a ∧ H a = some (.lst vs) ∧ a ∉ ρ ∧ H0 a = none ∧ RlL K ρ H xs vs
def tL (F : Cf) (W : VW) (m : Env → M (List D)) : TE := fun σ H Q => tM F (LsR F.K H) W m σ H Q
theorem LsR.sq {K : Frag} {H0 : Hp} {xs : List D} {v : V} (h : LsR K H0 ρ H xs v) : RSq K ρ H xs v := by
  obtain ⟨a, vs, e, h1, _, _, h2⟩ := h
  exact ⟨a, vs, e, .inl (SqL.of h1), h2⟩
theorem Post.rel {α β : Type} {R R' : Rho → Hp → α → β → Prop} {r : Rs α} {Q : β → Hp → Prop} (h : Post F R W r ρ H Q) (k : ∀ ρ' H' a v, Ext ρ H ρ' H' → R' ρ' H' a v → R ρ' H' a v) : Post F R' W r ρ H Q := by
  unfold Post at h ⊢
  cases r with
  | ok a st => exact fun ρ' H' v e s q => h ρ' H' v e s (k _ _ _ _ e q)
  | exc c fs st => exact h
  | err => exact h
theorem tL.sq {m : Env → M (List D)} {Q : VK} (h : tM F (RSq F.K) W m σ H Q) : tL F W m σ H Q := by
  obtain ⟨env, st, ρ, he, hs, hp⟩ := h
  exact ⟨env, st, ρ, he, hs, hp.rel fun _ _ _ _ _ q => q.sq⟩
/-- it enters the store -/
theorem SR.enter {K : Frag} {a : Addr} {xs : List D} {vs : List V} (s : SR τ K ρ H st) (h : H a = some (.lst vs)) (n : a ∉ ρ) (r : RlL K ρ H xs vs) (ha : ∀ x, τ.anc = some x → x.2 a = none) : SR τ K (ρ ++ [a]) H (st ++ [.lst xs]) := by
  have mo : Mo ρ (ρ ++ [a]) H H := ⟨fun l b q => by
    obtain ⟨hl, _⟩ := List.getElem?_eq_some_iff.mp q
    rw [List.getElem?_append_left hl]; exact q, fun _ _ _ q => q⟩
  have split : ∀ (l : Nat) (q : SO) (b : Addr), (st ++ [.lst xs])[l]? = some q → (ρ ++ [a])[l]? = some b → (st[l]? = some q ∧ ρ[l]? = some b) ∨ (l = st.length ∧ b = a ∧ q = .lst xs) := fun l q b h1 h2 => by
    by_cases hl : l < st.length
    · rw [List.getElem?_append_left hl] at h1
      rw [List.getElem?_append_left (by rw [s.len]; exact hl)] at h2
      exact .inl ⟨h1, h2⟩
    · have hle : st.length ≤ l := Nat.le_of_not_lt hl
      rw [List.getElem?_append_right hle] at h1
      rw [List.getElem?_append_right (by rw [s.len]; exact hle), s.len] at h2
      cases hk : l - st.length with
      | zero => rw [hk] at h1 h2; simp at h1 h2; exact .inr ⟨by omega, h2.symm, h1.symm⟩
      | succ k => rw [hk] at h1; simp at h1
  refine ⟨by simp [s.len], fun l q b h1 h2 => ?_, fun l m q w b h1 h2 _ _ h5 h6 => ?_, s.tab, fun x hx => (s.anc x hx).plus (ha x hx)⟩
  · rcases split l q b h1 h2 with ⟨a1, a2⟩ | ⟨_, rfl, rfl⟩
    · exact RO.mo mo (s.obj l q b a1 a2) fun _ _ e => e
    · exact ⟨vs, h, RlL.mo mo _ _ r⟩
  · rcases split l q b h1 h5 with ⟨a1, a2⟩ | ⟨a1, a2, _⟩ <;> rcases split m w b h2 h6 with ⟨b1, b2⟩ | ⟨b1, b2, _⟩
    · exact s.inj l m q w b a1 b1 rfl rfl a2 b2
    · rw [b2] at a2; exact absurd (List.mem_of_getElem? a2) n
    · rw [a2] at b2; exact absurd (List.mem_of_getElem? b2) n
    · omega
theorem tL.new {m : Env → M (List D)} {Q : VK} (h : tE F W (fun env => (m env).bnd fun xs => alloc (.lst xs)) σ H Q) : tL F W m σ H Q := by
  obtain ⟨env, st, ρ, he, hs, hp⟩ := h
  refine ⟨env, st, ρ, he, hs, ?_⟩
  unfold M.bnd at hp
  cases e : m env st with
  | ok xs st1 =>
    simp only [e] at hp
    intro ρ1 H1 v x s1 ⟨a, vs, ev, h1, n, h0, r⟩
    subst ev
    refine hp (ρ1 ++ [a]) H1 (.ref a) ⟨?_, x.fr, fun b hb hn => ?_, x.dom⟩ (s1.enter h1 n r fun y hy => (hs.anc y hy).dom a h0) ?_
    · obtain ⟨k, rfl⟩ := x.pre
      exact ⟨k ++ [a], by simp⟩
    · rcases List.mem_append.mp hb with z | z
      · exact x.new b z hn
      · have : b = a := by simpa using z
        rw [this]; exact h0
    · unfold Rl
      exact ⟨a, by rw [← s1.len]; simp, rfl⟩
  | exc c fs st1 => simp only [e] at hp; exact hp
  | err => simp only [e] at hp; exact hp
/-- a fresh list was laid -/
theorem Post.fresh {H0 : Hp} {xs : List D} {vs : List V} {p : Addr} {Q : VK} (h : Post F (LsR F.K H0) W (.ok xs st) ρ H Q) (s : SR F.τ F.K ρ H st) (d : ∀ a, H a = none → H0 a = none) (r : RlL F.K ρ H xs vs) (hp : H p = none) : Q (.ref p) (upd H p (.lst vs)) := by
  obtain ⟨s', e'⟩ := s.beside (u := .lst vs) hp
  exact h _ _ _ e' s' ⟨p, vs, rfl, upd_same, s.out hp, d p hp, RlL.mono e' _ _ r⟩
/-- step, with what the first leaves as it was -/
theorem tM.stepX {α β γ δ : Type} {R : Rho → Hp → α → β → Prop} {S : Rho → Hp → γ → δ → Prop} {m : Env → M α} {k : Env → α → M γ} {Q : δ → Hp → Prop} {Q' : β → Hp → Prop}
    (h : tM F S W (fun env => M.bnd (m env) (k env)) σ H Q)
    (go : ∀ env a v st1 ρ0 ρ1 H1, Ext ρ0 H ρ1 H1 → RE F.K ρ1 H1 env σ → SR F.τ F.K ρ1 H1 st1 → R ρ1 H1 a v → Post F S W (k env a st1) ρ1 H1 Q → Q' v H1) : tM F R W m σ H Q' := by
  obtain ⟨env, st, ρ, he, hs, hp⟩ := h
  exact ⟨env, st, ρ, he, hs, hp.bnd.imp fun v H1 ⟨a, st1, ρ1, x, s1, r, q⟩ => go env a v st1 ρ ρ1 H1 x (he.mono x) s1 r q⟩
/-- the rest, as a reading -/
theorem tM.mk {α β : Type} {R : Rho → Hp → α → β → Prop} {m : Env → M α} {env : Env} {st : Store} {Q : β → Hp → Prop} (he : RE F.K ρ H env σ) (hs : SR F.τ F.K ρ H st) (h : Post F R W (m env st) ρ H Q) : tM F R W m σ H Q := ⟨env, st, ρ, he, hs, h⟩
end

section
variable {F : Cf} {X : Cx} {W : VW} {C : Cl} {a b c e : Expr} {xa xb xc : Ex} {pos : Pos}
/-- two values, then an operation -/
theorem two_step {m n : Env → M D} {g : D → D → M D} {σ : L2.St} {H : Hp} {Q : VK} (h : tE F W (fun env => (m env).bnd fun x => (n env).bnd fun y => g x y) σ H Q) :
    tE F W m σ H fun x H1 => tE F W n σ H1 fun y H2 => rOp F W g x y H2 Q :=
  tM.step h fun env x v st1 ρ1 H1 he hs r q => ⟨env, st1, ρ1, he, hs, q.bnd.imp fun y H2 ⟨d, st2, ρ2, x2, s2, r2, q2⟩ => ⟨x, d, st2, ρ2, s2, Rl.mono x2 _ _ r, r2, q2⟩⟩
theorem pE_op2 (g : Gx F X) (o : Op2) (ha : PE X a (tE F W (evE C xa))) (hb : PE X b (tE F W (evE C xb))) : PE X (.BinOp a (opPy o) b pos) (tE F W (evE C (.op2 o xa xb))) :=
  (pe_op (opr_op2 g o) ha hb).imp fun _ _ _ h => two_step h
theorem two_stepC {m n : Env → M D} {g : D → D → M Bool} {σ : L2.St} {H : Hp} {Q : VK} (h : tE F W (fun env => (m env).bnd fun x => (n env).bnd fun y => (g x y).bnd fun c => M.ret (.bl c)) σ H Q) :
    tE F W m σ H fun x H1 => tE F W n σ H1 fun y H2 => rCp F W g x y H2 Q :=
  tM.step h fun env x v st1 ρ1 H1 he hs r q => ⟨env, st1, ρ1, he, hs, q.bnd.imp fun y H2 ⟨d, st2, ρ2, x2, s2, r2, q2⟩ => ⟨x, d, st2, ρ2, s2, Rl.mono x2 _ _ r, r2, q2.bnd.imp fun b H3 ⟨c, st3, ρ3, x3, s3, r3, q3⟩ => by
    have e : c = b := r3
    subst e
    exact q3.ret s3 rl_bl⟩⟩
theorem pE_cmp (g : Gx F X) (o : Cp) (hm : behindInMarks (cpPy o) b = false) (ha : PE X a (tE F W (evE C xa))) (hb : PE X b (tE F W (evE C xb))) : PE X (.Compare a [cpPy o] [b] pos) (tE F W (evE C (.cmp o xa xb))) :=
  (pe_cmpR (opr_cmp g o) ha hb hm).imp fun _ _ _ h => two_stepC h
theorem pE_chn (g : Gx F X) (o o' : Cp) (hm : lastMarks [cpPy o, cpPy o'] [b, c] = false) (ha : PE X a (tE F W (evE C xa))) (hb : PE X b (tE F W (evE C xb))) (hc : PE X c (tE F W (evE C xc))) :
    PE X (.Compare a [cpPy o, cpPy o'] [b, c] pos) (tE F W (evE C (.chn o o' xa xb xc))) :=
  (pe_chain (opr_cmp g o) (opr_cmp g o') ha hb hc hm).imp fun _ _ _ h => tM.step h fun env x v st1 ρ1 H1 he hs r q => ⟨env, st1, ρ1, he, hs, q.bnd.imp fun y H2 ⟨d, st2, ρ2, x2, s2, r2, q2⟩ => ⟨x, d, st2, ρ2, s2, Rl.mono x2 _ _ r, r2, q2.bnd.imp fun b H3 ⟨k, st3, ρ3, x3, s3, r3, q3⟩ => by
    have e : k = b := r3
    subst e
    refine ⟨k, rfl, ?_⟩
    cases k with
    | false => exact q3.ret s3 rl_bl
    | true =>
      refine ⟨env, st3, ρ3, ((he.mono x2).mono x3), s3, q3.bnd.imp fun z H4 ⟨u, st4, ρ4, x4, s4, r4, q4⟩ => ⟨d, u, st4, ρ4, s4, Rl.mono x4 _ _ (Rl.mono x3 _ _ r2), r4, q4.bnd.imp fun b H5 ⟨l, st5, ρ5, x5, s5, r5, q5⟩ => ?_⟩⟩
      have e : l = b := r5
      subst e
      exact q5.ret s5 rl_bl⟩⟩
theorem pE_neg (g : Gx F X) (ha : PE X a (tE F W (evE C xa))) : PE X (.UnaryOp .USub a pos) (tE F W (evE C (.f1 .neg xa))) :=
  (pe_un (unr_neg g) ha).imp fun _ _ _ h => tM.step h fun env x v st1 ρ1 H1 he hs r q => ⟨x, st1, ρ1, hs, r, q⟩
end
section
variable {F : Cf} {X : Cx} {W : VW} {C : Cl} {a b c e : Expr} {xa xb xc : Ex} {pos : Pos} {rest : List Expr}
def rTr (F : Cf) (W : VW) : V → Hp → (Bool → Hp → Prop) → Prop := fun x H Q => ∃ dx st ρ, SR F.τ F.K ρ H st ∧ Rl F.K ρ H dx x ∧ Post F RB W (truthy dx st) ρ H Q
theorem pe_andR {r : V → Hp → (Bool → Hp → Prop) → Prop} {ta tb : TE} (ht : TruR X r) (ha : PE X a ta) (hb : PE X (.BoolOp .And (b :: rest) pos) tb) :
    PE X (.BoolOp .And (a :: b :: rest) pos) (fun σ H Q => ta σ H fun x H1 => r x H1 fun k H2 => if k = true then tb σ H2 Q else Q x H2) := by
  refine ⟨fun pins s σ H Q I h => ?_⟩
  refine BoolOp_and (thn (ha.run pins s σ H _ I h) fun v s1 ⟨x, H1, I1, r1, q1⟩ => ?_)
  refine thn (ht pins s1 σ H1 x v _ I1 r1 q1) fun k s2 ⟨H2, I2, q2⟩ => ?_
  cases k with
  | true => exact hb.run pins s2 σ H2 Q I2 q2
  | false => exact ⟨x, H2, I2, r1, q2⟩
theorem pe_orR {r : V → Hp → (Bool → Hp → Prop) → Prop} {ta tb : TE} (ht : TruR X r) (ha : PE X a ta) (hb : PE X (.BoolOp .Or (b :: rest) pos) tb) :
    PE X (.BoolOp .Or (a :: b :: rest) pos) (fun σ H Q => ta σ H fun x H1 => r x H1 fun k H2 => if k = true then Q x H2 else tb σ H2 Q) := by
  refine ⟨fun pins s σ H Q I h => ?_⟩
  refine BoolOp_or (thn (ha.run pins s σ H _ I h) fun v s1 ⟨x, H1, I1, r1, q1⟩ => ?_)
  refine thn (ht pins s1 σ H1 x v _ I1 r1 q1) fun k s2 ⟨H2, I2, q2⟩ => ?_
  cases k with
  | false => exact hb.run pins s2 σ H2 Q I2 q2
  | true => exact ⟨x, H2, I2, r1, q2⟩
theorem pe_notR {r : V → Hp → (Bool → Hp → Prop) → Prop} {ta : TE} (ht : TruR X r) (ha : PE X a ta) : PE X (.UnaryOp .Not a pos) (fun σ H Q => ta σ H fun x H1 => r x H1 fun k H2 => Q (.bl (!k)) H2) := by
  refine ⟨fun pins s σ H Q I h => ?_⟩
  refine UnaryOp_ (thn (ha.run pins s σ H _ I h) fun v s1 ⟨x, H1, I1, r1, q1⟩ => ?_)
  exact not_of (thn (ht pins s1 σ H1 x v _ I1 r1 q1) fun k s2 ⟨H2, I2, q2⟩ => ⟨.bl (!k), H2, I2, rfl, q2⟩)
theorem pE_and (g : Gx F X) (ha : PE X a (tE F W (evE C xa))) (hb : PE X (.BoolOp .And (b :: rest) pos) (tE F W (evE C xb))) : PE X (.BoolOp .And (a :: b :: rest) pos) (tE F W (evE C (.and xa xb))) :=
  (pe_andR (tru_D (W := W) g) ha hb).imp fun _ _ _ h => tM.step h fun env x v st1 ρ1 H1 he hs r q => ⟨x, st1, ρ1, hs, r, q.bnd.imp fun k H2 ⟨l, st2, ρ2, x2, s2, r2, q2⟩ => by
    have e : l = k := r2
    subst e
    cases l with
    | true => exact ⟨env, st2, ρ2, he.mono x2, s2, q2⟩
    | false => exact q2.ret s2 (Rl.mono x2 _ _ r)⟩
theorem pE_or (g : Gx F X) (ha : PE X a (tE F W (evE C xa))) (hb : PE X (.BoolOp .Or (b :: rest) pos) (tE F W (evE C xb))) : PE X (.BoolOp .Or (a :: b :: rest) pos) (tE F W (evE C (.or xa xb))) :=
  (pe_orR (tru_D (W := W) g) ha hb).imp fun _ _ _ h => tM.step h fun env x v st1 ρ1 H1 he hs r q => ⟨x, st1, ρ1, hs, r, q.bnd.imp fun k H2 ⟨l, st2, ρ2, x2, s2, r2, q2⟩ => by
    have e : l = k := r2
    subst e
    cases l with
    | false => exact ⟨env, st2, ρ2, he.mono x2, s2, q2⟩
    | true => exact q2.ret s2 (Rl.mono x2 _ _ r)⟩
theorem pE_not (g : Gx F X) (ha : PE X a (tE F W (evE C xa))) : PE X (.UnaryOp .Not a pos) (tE F W (evE C (.not xa))) :=
  (pe_notR (tru_D (W := W) g) ha).imp fun _ _ _ h => tM.step h fun env x v st1 ρ1 H1 he hs r q => ⟨x, st1, ρ1, hs, r, q.bnd.imp fun k H2 ⟨l, st2, ρ2, x2, s2, r2, q2⟩ => by
    have e : l = k := r2
    subst e
    exact q2.ret s2 rl_bl⟩
variable {ya yb : Te}
/-- the test is the value's truth -/
def plainT : Expr → Bool
  | .UnaryOp .Not _ _ => false
  | .BoolOp _ _ _ => false
  | .IfExp _ _ _ _ => false
  | .Compare _ _ _ _ => false
  | _ => true
theorem plainT_eq {a : Expr} (h : plainT a = true) (env : PySem.Env) (whole : Sem Value) : isTrue a env whole = (do let v ← whole; standAt a.pos; holding [v] (PySem.truthy v)) := by
  cases a with
  | UnaryOp op _ _ => cases op <;> first | rfl | cases h
  | BoolOp _ _ _ => cases h
  | IfExp _ _ _ _ => cases h
  | Compare _ _ _ _ => cases h
  | _ => rfl
theorem pt_truR {a : Expr} {ta : TE} {r : V → Hp → (Bool → Hp → Prop) → Prop} (ha : PE X a ta) (hr : TruR X r) (he : ∀ whole, isTrue a X.env whole = (do let v ← whole; standAt a.pos; holding [v] (PySem.truthy v))) :
    PT X a (fun σ H Q => ta σ H fun x H' => r x H' Q) := by
  refine ⟨fun pins s σ H Q I h => ?_⟩
  exact isTrue_plain (thn (ha.run pins s σ H _ I h) fun v s1 ⟨x, H1, I1, r1, q1⟩ => hr pins s1 σ H1 x v Q I1 r1 q1) (he _)
theorem pT_val (g : Gx F X) (h : plainT a = true) (ha : PE X a (tE F W (evE C xa))) : PT X a (tT F W (evT C (.val xa))) :=
  (pt_truR ha (tru_D (W := W) g) (plainT_eq h X.env)).imp fun _ _ _ h => tM.step h fun env x v st1 ρ1 H1 he hs r q => ⟨x, st1, ρ1, hs, r, q⟩
/-- bools come -/
def IsBl (m : M D) : Prop := ∀ st d st', m st = .ok d st' → ∃ k, d = .bl k
theorem IsBl.bnd {α : Type} {m : M α} {k : α → M D} (h : ∀ a, IsBl (k a)) : IsBl (m.bnd k) := fun st d st' e => by
  unfold M.bnd at e
  split at e
  · exact h _ _ _ _ e
  · cases e
  · cases e
theorem IsBl.ret (c : Bool) : IsBl (M.ret (.bl c)) := fun st d st' e => by cases e; exact ⟨c, rfl⟩
theorem isBl_test {m : Env → M D} {σ : L2.St} {H : Hp} {Q : Bool → Hp → Prop} (b : ∀ env, IsBl (m env)) (h : tT F W (fun env => (m env).bnd truthy) σ H Q) : tE F W m σ H (fun x H' => ∃ k, x = .bl k ∧ Q k H') := by
  obtain ⟨env, st, ρ, he, hs, hp⟩ := h
  refine ⟨env, st, ρ, he, hs, ?_⟩
  have hb := b env st
  unfold M.bnd at hp
  cases e : m env st with
  | ok d st1 =>
    simp only [e] at hp
    obtain ⟨k, rfl⟩ := hb d st1 e
    intro ρ1 H1 v x s1 r
    exact ⟨k, r.bl, hp ρ1 H1 k x s1 rfl⟩
  | exc c fs st1 => simp only [e] at hp; exact hp
  | err => simp only [e] at hp; exact hp
theorem pT_cmp (g : Gx F X) (o : Cp) (hm : behindInMarks (cpPy o) b = false) (ha : PE X a (tE F W (evE C xa))) (hb : PE X b (tE F W (evE C xb))) : PT X (.Compare a [cpPy o] [b] pos) (tT F W (evT C (.val (.cmp o xa xb)))) :=
  (pt_cmpR (opr_cmp (W := W) g o) ha hb hm).imp fun _ _ _ h => two_stepC (isBl_test (m := evE C (.cmp o xa xb)) (fun env => .bnd fun _ => .bnd fun _ => .bnd fun c => .ret c) h)
theorem chn_step {σ : L2.St} {H : Hp} {Q : VK} {o o' : Cp} (h : tE F W (evE C (.chn o o' xa xb xc)) σ H Q) : tChain (rCp F W (cmp o)) (rCp F W (cmp o')) (tE F W (evE C xa)) (tE F W (evE C xb)) (tE F W (evE C xc)) σ H Q :=
  tM.step h fun env x v st1 ρ1 H1 he hs r q => ⟨env, st1, ρ1, he, hs, q.bnd.imp fun y H2 ⟨d, st2, ρ2, x2, s2, r2, q2⟩ => ⟨x, d, st2, ρ2, s2, Rl.mono x2 _ _ r, r2, q2.bnd.imp fun b H3 ⟨k, st3, ρ3, x3, s3, r3, q3⟩ => by
    have e : k = b := r3
    subst e
    refine ⟨k, rfl, ?_⟩
    cases k with
    | false => exact q3.ret s3 rl_bl
    | true =>
      refine ⟨env, st3, ρ3, ((he.mono x2).mono x3), s3, q3.bnd.imp fun z H4 ⟨u, st4, ρ4, x4, s4, r4, q4⟩ => ⟨d, u, st4, ρ4, s4, Rl.mono x4 _ _ (Rl.mono x3 _ _ r2), r4, q4.bnd.imp fun b H5 ⟨l, st5, ρ5, x5, s5, r5, q5⟩ => ?_⟩⟩
      have e : l = b := r5
      subst e
      exact q5.ret s5 rl_bl⟩⟩
theorem pT_chn (g : Gx F X) (o o' : Cp) (hm : lastMarks [cpPy o, cpPy o'] [b, c] = false) (ha : PE X a (tE F W (evE C xa))) (hb : PE X b (tE F W (evE C xb))) (hc : PE X c (tE F W (evE C xc))) :
    PT X (.Compare a [cpPy o, cpPy o'] [b, c] pos) (tT F W (evT C (.val (.chn o o' xa xb xc)))) :=
  (pt_chain (opr_cmp (W := W) g o) (opr_cmp g o') ha hb hc hm).imp fun _ _ _ h => chn_step (isBl_test (m := evE C (.chn o o' xa xb xc)) (fun env => .bnd fun _ => .bnd fun _ => .bnd fun c => by
    cases c
    · exact .ret _
    · exact .bnd fun _ => .bnd fun u => .ret u) h)
theorem pT_not (ha : PT X a (tT F W (evT C ya))) : PT X (.UnaryOp .Not a pos) (tT F W (evT C (.not ya))) :=
  (pt_not ha).imp fun _ _ _ h => tM.step h fun env x v st1 ρ1 H1 he hs r q => by
    have e : x = v := r
    subst e
    exact q.ret hs rfl
theorem pT_and (ha : PT X a (tT F W (evT C ya))) (hb : PW X (.BoolOp .And (b :: rest) pos) (tT F W (evT C yb))) : PW X (.BoolOp .And (a :: b :: rest) pos) (tT F W (evT C (.and ya yb))) :=
  (pw_and ha hb).imp fun _ _ _ h => tM.step h fun env x v st1 ρ1 H1 he hs r q => by
    have e : x = v := r
    subst e
    cases x with
    | true => exact ⟨env, st1, ρ1, he, hs, q⟩
    | false => exact q.ret hs rfl
theorem pT_or (ha : PT X a (tT F W (evT C ya))) (hb : PW X (.BoolOp .Or (b :: rest) pos) (tT F W (evT C yb))) : PW X (.BoolOp .Or (a :: b :: rest) pos) (tT F W (evT C (.or ya yb))) :=
  (pw_or ha hb).imp fun _ _ _ h => tM.step h fun env x v st1 ρ1 H1 he hs r q => by
    have e : x = v := r
    subst e
    cases x with
    | true => exact q.ret hs rfl
    | false => exact ⟨env, st1, ρ1, he, hs, q⟩
theorem pE_ite (hc : PT X c (tT F W (evT C ya))) (ha : PE X a (tE F W (evE C xa))) (hb : PE X b (tE F W (evE C xb))) : PE X (.IfExp c a b pos) (tE F W (evE C (.ite ya xa xb))) :=
  (pe_ifExp hc ha hb).imp fun _ _ _ h => tM.step h fun env x v st1 ρ1 H1 he hs r q => by
    have e : x = v := r
    subst e
    cases x with
    | true => exact ⟨env, st1, ρ1, he, hs, q⟩
    | false => exact ⟨env, st1, ρ1, he, hs, q⟩
theorem pE_idx (g : Gx F X) (hs : PlainIx b) (ha : PE X a (tE F W (evE C xa))) (hb : PE X b (tE F W (evE C xb))) : PE X (.Subscript a b pos) (tE F W (evE C (.idx xa xb))) :=
  (pe_ix (ixr_D g) ha hb hs).imp fun _ _ _ h => two_step h
def notSlice : Expr → Bool
  | .Slice _ _ _ _ => false
  | _ => true
theorem plainIx_of {b : Expr} (h : notSlice b = true) : PlainIx b := fun o i => by
  cases b <;> first | rfl | cases h
theorem po_ok {lo : Option Expr} {xl : Option Ex} (h : match xl, lo with
    | none, none => True
    | some x, some e => PE X e (tE F W (evE C x))
    | _, _ => False) : PO X lo (tM F (fun _ _ (i : Option Int) (j : Option Int) => i = j) W (evO C xl)) := by
  cases xl with
  | none =>
    cases lo with
    | none => exact ⟨fun pins s σ H Q I ⟨env, st, ρ, he, hs, hp⟩ => po_none.run pins s σ H Q I (hp.ret hs rfl)⟩
    | some _ => exact h.elim
  | some x =>
    cases lo with
    | none => exact h.elim
    | some e =>
      refine ⟨fun pins s σ H Q I hq => (po_some h).run pins s σ H Q I (tM.step hq fun env d v st1 ρ1 H1 he hs r q => ?_)⟩
      cases d with
      | int i => exact ⟨i, r.int, q.ret hs rfl⟩
      | _ => exact False.elim q
theorem pE_slc (g : Gx F X) {lo hi : Option Expr} {xl xh : Option Ex} {p2 : Pos} (ha : PE X a (tE F W (evE C xa))) (hl : PO X lo (tM F (fun _ _ (i : Option Int) (j : Option Int) => i = j) W (evO C xl))) (hh : PO X hi (tM F (fun _ _ (i : Option Int) (j : Option Int) => i = j) W (evO C xh))) :
    PE X (.Subscript a (.Slice lo hi none p2) pos) (tE F W (evE C (.slc xa xl xh))) :=
  (pe_slice (slr_D g) ha hl hh).imp fun _ _ _ h => tM.step h fun env x v st1 ρ1 H1 he hs r q => ⟨env, st1, ρ1, he, hs, q.bnd.imp fun i H2 ⟨i', st2, ρ2, x2, s2, r2, q2⟩ => by
    have e : i' = i := r2
    subst e
    refine ⟨env, st2, ρ2, he.mono x2, s2, q2.bnd.imp fun j H3 ⟨j', st3, ρ3, x3, s3, r3, q3⟩ => ?_⟩
    have e : j' = j := r3
    subst e
    exact ⟨x, st3, ρ3, s3, Rl.mono x3 _ _ (Rl.mono x2 _ _ r), q3⟩⟩
theorem pE_cst {v : V} {d : D} (h : PE X e (tC v)) (r : ∀ ρ H, Rl F.K ρ H d v) : PE X e (tE F W (evE C (.cst d))) :=
  h.imp fun σ H Q ⟨env, st, ρ, he, hs, hp⟩ => hp.ret hs (r ρ H)
theorem pE_var {i : Nat} {x : Str} (hN : X.N[i]? = some x) (hv : Vis X.env.scope x) (hd : (x == ("__debug__" : Str)) = false) (hcd : (x == ("__classdict__" : Str)) = false) : PE X (.Name x pos) (tE F W (evE C (.var i))) :=
  (pe_var hN hv hd hcd).imp fun σ H Q ⟨env, st, ρ, he, hs, hp⟩ => by
    obtain ⟨d, e1, hp⟩ := hp.opt
    have e2 : env[i]? = some (some d) := by
      cases e3 : env[i]? with
      | none => rw [e3] at e1; cases e1
      | some o => rw [e3] at e1; have : o = some d := e1; rw [this]
    obtain ⟨v, e4, r⟩ := he.2 i d e2
    exact ⟨v, e4, hp.ok hs r⟩
theorem pE_gc {x : Str} (hg : Gl X x) (hd : (x == ("__debug__" : Str)) = false) (h : ∀ d, C.gc x = some d → ∃ v u, X.mg x = some u ∧ RelV v u ∧ ∀ ρ H, Rl F.K ρ H d v) : PE X (.Name x pos) (tE F W (evE C (.gc x))) :=
  ⟨fun pins s σ H Q I ⟨env, st, ρ, he, hs, hp⟩ => by
    obtain ⟨d, e1, hp⟩ := hp.opt
    obtain ⟨v, u, hm, r, hr⟩ := h d e1
    exact (pe_glob hg hm r hd).run pins s σ H Q I (hp.ok hs (hr ρ H))⟩
variable {es : List Expr} {xs : List Ex}
theorem pA_nil : PA X [] (tA F W (evEs C [])) := ⟨fun pos pins s σ H Q I ⟨env, st, ρ, he, hs, hp⟩ => pa_nil.run pos pins s σ H Q I (hp.ret hs RlL.nil)⟩
def notStar : Expr → Bool
  | .Starred _ _ => false
  | _ => true
theorem star_cons {e : Expr} {es : List Expr} (h : notStar e = true) (env : PySem.Env) : starEach (e :: es) env = (false, eval e env) :: starEach es env := by
  cases e <;> first | rfl | cases h
theorem star_any : ∀ {es : List Expr}, es.all notStar = true → ∀ (pos : Pos) (env : PySem.Env), (backTo pos (starEach es env)).any (·.1) = false
  | [], _, _, _ => rfl
  | e :: es, h, pos, env => by
    simp only [List.all_cons, Bool.and_eq_true] at h
    rw [star_cons h.1]
    show (false || (backTo pos (starEach es env)).any (·.1)) = false
    rw [star_any h.2]; rfl
theorem pA_cons (hn : notStar e = true) (ha : PE X e (tE F W (evE C xa))) (hr : PA X es (tA F W (evEs C xs))) : PA X (e :: es) (tA F W (evEs C (xa :: xs))) :=
  (pa_cons ha hr (star_cons hn X.env)).imp fun _ _ _ h => tM.step h fun env x v st1 ρ1 H1 he hs r q => ⟨env, st1, ρ1, he, hs, q.bnd.imp fun ys H2 ⟨ds, st2, ρ2, x2, s2, r2, q2⟩ => q2.ret s2 (RlL.cons (Rl.mono x2 _ _ r) r2)⟩
theorem pE_tup {k : Nat} (h : PA X es (tA F W (evEs C xs))) : PE X (.Tuple es k pos) (tE F W (evE C (.tup xs))) := by
  refine ⟨fun pins s σ H Q I hq => ?_⟩
  refine wpAny_Tuple_spliced (thn (h.run pos pins s σ H _ I (tM.step hq fun env ds vs st1 ρ1 H1 he hs r q => (show ∃ ds st ρ, SR F.τ F.K ρ H1 st ∧ RlL F.K ρ H1 ds vs ∧ Post F (Rl F.K) W (boxed ds st) ρ H1 Q from ⟨ds, st1, ρ1, hs, r, q⟩))) fun us s1 ⟨vs, H1, I1, rv, ds, st1, ρ1, hs, r, q⟩ => ?_)
  unfold boxed at q
  split at q
  · rename_i hz
    rw [r.len, rv.length] at hz
    obtain ⟨J, hn⟩ := I1.tupN rv (by rw [rv.length]; exact sz5 hz)
    exact ⟨sz5 hz, .ref s1.heap.objs.size, _, J, rfl, Post.newT (show Post F (Rl F.K) W (.ok (.tup ds) st1) ρ1 H1 Q from q) hs r hn⟩
  · exact False.elim q
theorem pL_lst (h : PA X es (tA F W (evEs C xs))) : PE X (.List es pos) (tL F W (evN C (.lst xs))) :=
  (pe_lst h).imp fun _ _ _ h => tM.stepX h fun env ds vs st1 ρ0 ρ1 H1 x1 he hs r q => by
    unfold listed at q
    split at q
    · rename_i hz
      rw [r.len] at hz
      exact ⟨sz5 hz, fun p hp => (show Post F _ W (.ok ds st1) ρ1 H1 _ from q).fresh hs x1.dom r hp⟩
    · exact False.elim q
theorem pE_new {n : Ne} (h : PE X e (tL F W (evN C n))) : PE X e (tE F W (evE C (.new n))) := h.imp fun _ _ _ q => tL.new q
/-- read as a list or tuple -/
abbrev tS (F : Cf) (W : VW) (m : Env → M (List D)) : TE := tM F (RSq F.K) W m
theorem pS_new {n : Ne} (h : PE X e (tL F W (evN C n))) : PE X e (tS F W (evS C (.new n))) := h.imp fun _ _ _ q => tL.sq q
theorem items_sq {K : Frag} {ρ : Rho} {H : Hp} {st : Store} {d : D} {v : V} {xs : List D} {st' : Store} (s : SR τ K ρ H st) (r : Rl K ρ H d v) (h : itemsOf d st = .ok xs st') : st' = st ∧ RSq K ρ H xs v := by
  cases d with
  | tup ys =>
    cases h
    obtain ⟨a, vs, rfl, h1, h2⟩ := r.tup
    exact ⟨rfl, a, vs, rfl, .inr h1, h2⟩
  | lit ns =>
    cases h
    obtain ⟨a, rfl, h1⟩ := r.lit
    exact ⟨rfl, a, _, rfl, .inl h1.l, RlL.ofInts ns⟩
  | loc l =>
    simp only [itemsOf] at h
    split at h
    · rename_i ys hg
      cases h
      obtain ⟨a, ha, rfl⟩ := r.loc
      obtain ⟨vs, h1, h2⟩ := s.getL hg ha
      exact ⟨rfl, a, vs, rfl, .inl h1, h2⟩
    · cases h
  | _ => cases h
theorem pS_val (h : PE X e (tE F W (evE C xa))) : PE X e (tS F W (evS C (.val xa))) :=
  h.imp fun _ _ _ h => tM.step h fun env d v st1 ρ1 H1 he hs r q => by
    cases e : itemsOf d st1 with
    | ok ys st2 =>
      obtain ⟨rfl, h2⟩ := items_sq hs r e
      rw [e] at q
      exact q.ok hs h2
    | exc c fs st2 =>
      exfalso
      cases d <;> simp only [itemsOf] at e <;> first | cases e | (split at e <;> cases e)
    | err => rw [e] at q; exact False.elim q
end
end Cr

set_option maxRecDepth 100000
set_option maxHeartbeats 1000000
namespace Cr
open PySem PySem.Spec PyProof.Rows PySem.Calls L2
section
variable {F : Cf} {X : Cx} {W : VW} {C : Cl} {a b c e : Expr} {xa xb xc : Ex} {p pos : Pos} {x : Str} {id T : String}
/-- a name of the built-in ones -/
structure Bn (X : Cx) (x : Str) : Prop where
  g : Gl X x
  m : X.mg x = none
theorem pA_one (hn : notStar e = true) {te : TE} (ha : PE X e te) : PA X [e] (fun σ H Q => te σ H fun v H1 => Q [v] H1) := pa_cons ha pa_nil (star_cons hn X.env)
theorem pA_two (h1 : notStar a = true) (h2 : notStar b = true) {ta tb : TE} (ha : PE X a ta) (hb : PE X b tb) : PA X [a, b] (fun σ H Q => ta σ H fun v H1 => tb σ H1 fun u H2 => Q [v, u] H2) :=
  pa_cons ha (pA_one h2 hb) (star_cons h1 X.env)
theorem pA_three {c : Expr} {tc : TE} (h1 : notStar a = true) (h2 : notStar b = true) (h3 : notStar c = true) {ta tb : TE} (ha : PE X a ta) (hb : PE X b tb) (hc : PE X c tc) : PA X [a, b, c] (fun σ H Q => ta σ H fun v H1 => tb σ H1 fun u H2 => tc σ H2 fun t H3 => Q [v, u, t] H3) :=
  pa_cons ha (pa_cons hb (pA_one h3 hc) (star_cons h2 X.env)) (star_cons h1 X.env)
theorem pE_b1 {r : List V → Hp → VK → Prop} {te : TE} (B : Bn X x) (hc : CallR X (.builtin id) r) (hv : bootBuiltins x = some (.builtin id)) (hn : notStar e = true) (ha : PE X e te) (h1 : x ≠ "__name__") (h2 : (x == ("__debug__" : Str)) = false) :
    PE X (.Call (.Name x p) [e] [] pos) (fun σ H Q => te σ H fun v H1 => r [v] H1 Q) :=
  (pe_callB hc B.g B.m hv (pA_one hn ha) h1 h2 (star_cons hn X.env) (star_any (es := []) rfl pos X.env)).imp fun _ _ _ h => h
theorem pE_t1 {r : List V → Hp → VK → Prop} {te : TE} (B : Bn X x) (hc : CallR X (.type T) r) (hv : bootBuiltins x = some (.type T)) (hn : notStar e = true) (ha : PE X e te) (h1 : x ≠ "__name__") (h2 : (x == ("__debug__" : Str)) = false) :
    PE X (.Call (.Name x p) [e] [] pos) (fun σ H Q => te σ H fun v H1 => r [v] H1 Q) :=
  (pe_callTy hc B.g B.m hv (pA_one hn ha) h1 h2 (star_cons hn X.env) (star_any (es := []) rfl pos X.env)).imp fun _ _ _ h => h
theorem pE_b2 {r : List V → Hp → VK → Prop} {ta tb : TE} (B : Bn X x) (hc : CallR X (.builtin id) r) (hv : bootBuiltins x = some (.builtin id)) (n1 : notStar a = true) (n2 : notStar b = true) (ha : PE X a ta) (hb : PE X b tb) (h1 : x ≠ "__name__") (h2 : (x == ("__debug__" : Str)) = false) :
    PE X (.Call (.Name x p) [a, b] [] pos) (fun σ H Q => ta σ H fun v H1 => tb σ H1 fun u H2 => r [v, u] H2 Q) :=
  (pe_callB hc B.g B.m hv (pA_two n1 n2 ha hb) h1 h2 (star_cons n1 X.env) (star_any (es := [b]) (by simp [n2]) pos X.env)).imp fun _ _ _ h => h
theorem boot_abs' : bootBuiltins "abs" = some (.builtin "abs") := PyProof.Rows.boot_abs
theorem step_f1 {f : F1} {σ : L2.St} {H : Hp} {Q : VK} (h : tE F W (evE C (.f1 f xa)) σ H Q) : tE F W (evE C xa) σ H fun v H1 => rC1 F W (f1 f) [v] H1 Q :=
  tM.step h fun env d v st1 ρ1 H1 he hs r q => ⟨v, d, st1, ρ1, rfl, hs, r, q⟩
theorem pE_abs (g : Gx F X) (B : Bn X "abs") (hn : notStar a = true) (ha : PE X a (tE F W (evE C xa))) : PE X (.Call (.Name "abs" p) [a] [] pos) (tE F W (evE C (.f1 .abs xa))) :=
  (pE_b1 B (cr_abs1 g) PyProof.Rows.boot_abs hn ha (by decide +kernel) (by decide +kernel)).imp fun _ _ _ h => step_f1 h
theorem pE_int (g : Gx F X) (B : Bn X "int") (hn : notStar a = true) (ha : PE X a (tE F W (evE C xa))) : PE X (.Call (.Name "int" p) [a] [] pos) (tE F W (evE C (.f1 .int xa))) :=
  (pE_t1 B (cr_int1 g) PyProof.Rows.boot_int hn ha (by decide +kernel) (by decide +kernel)).imp fun _ _ _ h => step_f1 h
theorem pE_len (g : Gx F X) (B : Bn X "len") (hn : notStar a = true) (ha : PE X a (tE F W (evE C xa))) : PE X (.Call (.Name "len" p) [a] [] pos) (tE F W (evE C (.f1 .len xa))) :=
  (pE_b1 B (cr_len1 g) PySem.boot_len hn ha (by decide +kernel) (by decide +kernel)).imp fun _ _ _ h => step_f1 h
theorem pE_repr (g : Gx F X) (B : Bn X "repr") (hn : notStar a = true) (ha : PE X a (tE F W (evE C xa))) : PE X (.Call (.Name "repr" p) [a] [] pos) (tE F W (evE C (.f1 .repr xa))) :=
  (pE_b1 B (cr_repr1 g) PyProof.Rows.boot_repr hn ha (by decide +kernel) (by decide +kernel)).imp fun _ _ _ h => step_f1 h
theorem lenNub_len : ∀ {ns ks : List Int}, ks.Nodup → (∀ k, k ∈ ns ↔ k ∈ ks) → ks.length = lenNub ns := by
  have nub : ∀ ns : List Int, ∃ l : List Int, l.Nodup ∧ (∀ k, k ∈ l ↔ k ∈ ns) ∧ l.length = lenNub ns := fun ns => by
    induction ns with
    | nil => exact ⟨[], .nil, fun _ => .rfl, rfl⟩
    | cons x r ih =>
      obtain ⟨l, h1, h2, h3⟩ := ih
      unfold lenNub
      by_cases hc : r.contains x = true
      · rw [if_pos hc]
        have hx : x ∈ r := by simpa using hc
        refine ⟨l, h1, fun k => ?_, h3⟩
        rw [h2, List.mem_cons]
        constructor
        · exact .inr
        · rintro (rfl | h)
          · exact hx
          · exact h
      · rw [if_neg hc]
        have hx : x ∉ r := by simpa using hc
        refine ⟨x :: l, List.nodup_cons.mpr ⟨fun z => hx ((h2 x).mp z), h1⟩, fun k => ?_, by simp [h3]⟩
        rw [List.mem_cons, List.mem_cons, h2]
  intro ns ks h1 h2
  obtain ⟨l, l1, l2, l3⟩ := nub ns
  rw [← l3]
  have p : ks.Perm l := (List.perm_ext_iff_of_nodup h1 l1).mpr fun k => by rw [l2, h2]
  exact p.length_eq
theorem pE_lenSet (g : Gx F X) {p2 q : Pos} (B : Bn X "len") (B2 : Bn X "set") (hn : notStar a = true) (ha : PE X a (tE F W (evE C xa))) : PE X (.Call (.Name "len" p) [.Call (.Name "set" p2) [a] [] q] [] pos) (tE F W (evE C (.f1 .lenSet xa))) := by
  refine ⟨fun pins s σ H Q I h => ?_⟩
  refine Call_ (ld_blt I B.g B.m PySem.boot_len ?_)
  refine PyProof.Rows.callWith_builtin1 (PyProof.Rows.args_cons ?_ rfl) rfl rfl
  refine Call_ (ld_blt I B2.g B2.m PyProof.Rows.boot_set ?_)
  refine PyProof.Rows.callWith_type1 (PyProof.Rows.args_cons (thn (ha.run pins s σ H _ I (step_f1 h)) fun v s1 ⟨x, H1, I1, r1, q1⟩ => PyProof.Rows.args_nil ?_) (star_cons hn X.env)) (star_cons hn X.env) rfl
  obtain ⟨y, d, st, ρ, ey, hs, rd, hp⟩ := q1
  cases ey
  cases d with
  | tup xs =>
    obtain ⟨t, vs, rfl, ht, rt⟩ := rd.tup
    simp only [f1] at hp
    split at hp
    · rename_i ns hns
      split at hp
      · rename_i hlt
        obtain ⟨rfl, rfl⟩ := rt.ints hns
        cases r1
        obtain ⟨its, r, pt, hz⟩ := I1.tuple (by rw [g.K]; exact ht.t)
        have hi : IntsAre its ns := intsAre_of r
        refine call_set_tupI ns (I1.ok.hd g.calm) (show s1.heap.IsTuple t its.toArray from pt) (by simpa using hi) (by unfold scanBound; omega) fun h' tk c R hcn k => ?_
        refine PyProof.Rows.args_nil ?_
        obtain ⟨o, es, ep, t, ho, hex, hd, _, hnd, hmem, _, hf, hsz, _⟩ := R
        have I2 : Inv X pins σ H1 { s1 with heap := h', toks := tk } := I1.kept k
        have hlen : es.size = lenNub ns := by
          have := lenNub_len hnd (ns := ns) fun k => by rw [← hmem]; simp
          rw [← this, List.length_map, Array.length_toList]
        exact PySem.call_len_set ho hex hd hf (by rw [hsz]; omega) ⟨.int (lenNub ns), H1, I2.tok _, ⟨_, by rw [hlen]⟩, hp.ok hs rl_int⟩
      · exact hp.elim
    · exact hp.elim
  | _ => exact False.elim hp
variable {la lb : Ls}
theorem step_fs {f : FS} {σ : L2.St} {H : Hp} {Q : VK} (h : tE F W (evE C (.fs f la)) σ H Q) : tS F W (evS C la) σ H fun v H1 => rS F W (fs f) [v] H1 Q :=
  tM.step h fun env d v st1 ρ1 H1 he hs r q => ⟨v, d, st1, ρ1, rfl, hs, r, q⟩
theorem pE_tuple (g : Gx F X) (B : Bn X "tuple") (hn : notStar a = true) (ha : PE X a (tS F W (evS C la))) : PE X (.Call (.Name "tuple" p) [a] [] pos) (tE F W (evE C (.fs .tuple la))) :=
  (pE_t1 B (crs_tuple g) PyProof.Rows.boot_tuple hn ha (by decide +kernel) (by decide +kernel)).imp fun _ _ _ h => step_fs h
theorem pE_all (g : Gx F X) (B : Bn X "all") (hn : notStar a = true) (ha : PE X a (tS F W (evS C la))) : PE X (.Call (.Name "all" p) [a] [] pos) (tE F W (evE C (.fs .all la))) :=
  (pE_b1 B (crs_all g) PyProof.Rows.boot_all hn ha (by decide +kernel) (by decide +kernel)).imp fun _ _ _ h => step_fs h
theorem pE_any (g : Gx F X) (B : Bn X "any") (hn : notStar a = true) (ha : PE X a (tS F W (evS C la))) : PE X (.Call (.Name "any" p) [a] [] pos) (tE F W (evE C (.fs .any la))) :=
  (pE_b1 B (crs_any g) PyProof.Rows.boot_any hn ha (by decide +kernel) (by decide +kernel)).imp fun _ _ _ h => step_fs h
theorem pE_sum (g : Gx F X) (B : Bn X "sum") (hn : notStar a = true) (ha : PE X a (tS F W (evS C la))) : PE X (.Call (.Name "sum" p) [a] [] pos) (tE F W (evE C (.fs .sum la))) :=
  (pE_b1 B (crs_sum g) PyProof.Rows.boot_sum hn ha (by decide +kernel) (by decide +kernel)).imp fun _ _ _ h => step_fs h
theorem pE_max (g : Gx F X) (B : Bn X "max") (hn : notStar a = true) (ha : PE X a (tS F W (evS C la))) : PE X (.Call (.Name "max" p) [a] [] pos) (tE F W (evE C (.fs .max la))) :=
  (pE_b1 B (crs_max g) PyProof.Rows.boot_max hn ha (by decide +kernel) (by decide +kernel)).imp fun _ _ _ h => step_fs h
theorem pE_min (g : Gx F X) (B : Bn X "min") (hn : notStar a = true) (ha : PE X a (tS F W (evS C la))) : PE X (.Call (.Name "min" p) [a] [] pos) (tE F W (evE C (.fs .min la))) :=
  (pE_b1 B (crs_min g) PyProof.Rows.boot_min hn ha (by decide +kernel) (by decide +kernel)).imp fun _ _ _ h => step_fs h
theorem step_fl {f : FL} {σ : L2.St} {H : Hp} {Q : VK} (h : tL F W (evN C (.fl f la)) σ H Q) : tS F W (evS C la) σ H fun v H1 => rSL F f [v] H1 Q :=
  tM.stepX h fun env xs v st1 ρ0 ρ1 H1 x1 he hs r q => by
    obtain ⟨ys, e, q⟩ := q.opt
    exact ⟨v, xs, ys, st1, ρ1, rfl, hs, r, e, fun p vs hp rv => q.fresh hs x1.dom rv hp⟩
theorem pL_list (g : Gx F X) (B : Bn X "list") (hn : notStar a = true) (ha : PE X a (tS F W (evS C la))) : PE X (.Call (.Name "list" p) [a] [] pos) (tL F W (evN C (.fl .list la))) :=
  (pE_t1 B (crs_list g) PyProof.Rows.boot_list hn ha (by decide +kernel) (by decide +kernel)).imp fun _ _ _ h => step_fl h
theorem pL_sorted (g : Gx F X) (B : Bn X "sorted") (hn : notStar a = true) (ha : PE X a (tS F W (evS C la))) : PE X (.Call (.Name "sorted" p) [a] [] pos) (tL F W (evN C (.fl .sorted la))) :=
  (pE_b1 B (crs_sorted g) PyProof.Rows.boot_sorted hn ha (by decide +kernel) (by decide +kernel)).imp fun _ _ _ h => step_fl h
theorem step_f2 {f : F2} {σ : L2.St} {H : Hp} {Q : VK} (h : tE F W (evE C (.f2 f xa xb)) σ H Q) : tE F W (evE C xa) σ H fun v H1 => tE F W (evE C xb) σ H1 fun u H2 => rC2 F W (f2 f) [v, u] H2 Q :=
  tM.step h fun env d v st1 ρ1 H1 he hs r q => ⟨env, st1, ρ1, he, hs, q.bnd.imp fun u H2 ⟨y, st2, ρ2, x2, s2, r2, q2⟩ => ⟨v, u, d, y, st2, ρ2, rfl, s2, Rl.mono x2 _ _ r, r2, q2⟩⟩
theorem pE_max2 (g : Gx F X) (B : Bn X "max") (h1 : notStar a = true) (h2 : notStar b = true) (ha : PE X a (tE F W (evE C xa))) (hb : PE X b (tE F W (evE C xb))) : PE X (.Call (.Name "max" p) [a, b] [] pos) (tE F W (evE C (.f2 .max xa xb))) :=
  (pE_b2 B (cr_max2 g) PyProof.Rows.boot_max h1 h2 ha hb (by decide +kernel) (by decide +kernel)).imp fun _ _ _ h => step_f2 h
theorem pE_min2 (g : Gx F X) (B : Bn X "min") (h1 : notStar a = true) (h2 : notStar b = true) (ha : PE X a (tE F W (evE C xa))) (hb : PE X b (tE F W (evE C xb))) : PE X (.Call (.Name "min" p) [a, b] [] pos) (tE F W (evE C (.f2 .min xa xb))) :=
  (pE_b2 B (cr_min2 g) PyProof.Rows.boot_min h1 h2 ha hb (by decide +kernel) (by decide +kernel)).imp fun _ _ _ h => step_f2 h
theorem pE_divmod (g : Gx F X) (B : Bn X "divmod") (h1 : notStar a = true) (h2 : notStar b = true) (ha : PE X a (tE F W (evE C xa))) (hb : PE X b (tE F W (evE C xb))) : PE X (.Call (.Name "divmod" p) [a, b] [] pos) (tE F W (evE C (.f2 .divmod xa xb))) :=
  (pE_b2 B (cr_divmod2 g) PyProof.Rows.boot_divmod h1 h2 ha hb (by decide +kernel) (by decide +kernel)).imp fun _ _ _ h => step_f2 h
end
end Cr

set_option maxRecDepth 100000
set_option maxHeartbeats 1000000
namespace Cr
open PySem PySem.Spec PyProof.Rows PySem.Calls L2
section
variable {F : Cf} {X : Cx} {W : VW} {C : Cl} {a b c e o : Expr} {xa xb xc xo : Ex} {p pos : Pos} {x : Str} {id T : String} {la : Ls}
theorem rngL_rl {K : Frag} {ρ : Rho} {H : Hp} (i j : Int) : RlL K ρ H (rngL i j) (rgV i j) := by
  unfold rngL rgV
  have e1 : (List.range (j - i).toNat).map (fun (k : Nat) => D.int (i + (k : Int))) = ((List.range (j - i).toNat).map fun (k : Nat) => i + (k : Int)).map D.int := by rw [List.map_map]; rfl
  have e2 : (List.range (j - i).toNat).map (fun (k : Nat) => V.int (i + (k : Int))) = ((List.range (j - i).toNat).map fun (k : Nat) => i + (k : Int)).map V.int := by rw [List.map_map]; rfl
  rw [e1, e2]
  exact RlL.ofInts _
theorem rngB_ok {α β : Type} {R : Rho → Hp → α → β → Prop} {x y : D} {v u : V} {ρ : Rho} {H : Hp} {st : Store} {k : List D → M α} {Q : β → Hp → Prop} (h1 : Rl F.K ρ H x v) (h2 : Rl F.K ρ H y u) (q : Post F R W ((rngB x y).bnd k st) ρ H Q) :
    ∃ i j, v = .int i ∧ u = .int j ∧ RgOk i j ∧ Post F R W (k (rngL i j) st) ρ H Q := by
  cases x with
  | int i =>
    cases y with
    | int j =>
      have q : Post F R W (M.bnd (if rngOk i && rngOk j && decide ((j - i).toNat ≤ 100000) then M.ret (rngL i j) else M.err) k st) ρ H Q := q
      by_cases hc : (rngOk i && rngOk j && decide ((j - i).toNat ≤ 100000)) = true
      · rw [if_pos hc] at q
        simp only [Bool.and_eq_true, decide_eq_true_eq, rngOk] at hc
        obtain ⟨⟨⟨c1, c2⟩, c3, c4⟩, c5⟩ := hc
        exact ⟨i, j, h1.int, h2.int, ⟨by omega, by omega, by omega, by omega, by omega⟩, q⟩
      · rw [if_neg hc] at q
        exact False.elim q
    | _ => exact False.elim q
  | _ => exact False.elim q
theorem bnd_ret {α : Type} (m : M α) : m.bnd M.ret = m := by
  funext st
  unfold M.bnd
  cases m st <;> rfl
theorem prg2 {p2 : Pos} (B2 : Bn X "range") (n1 : notStar a = true) (n2 : notStar b = true) {ta tb : TE} (ha : PE X a ta) (hb : PE X b tb) : PRg X (.Call (.Name "range" p2) [a, b] [] pos) (tRg2 ta tb) :=
  prg_2 B2.g B2.m ha hb (star_cons n1 X.env) (star_cons n2 X.env) (star_any (es := [b]) (by simp [n2]) pos X.env)
theorem prg1 {p2 : Pos} (B2 : Bn X "range") (n1 : notStar a = true) {ta : TE} (ha : PE X a ta) : PRg X (.Call (.Name "range" p2) [a] [] pos) (tRg1 ta) := prg_1 B2.g B2.m ha (star_cons n1 X.env)
theorem tRg2_imp {xa xb : Ex} {σ : L2.St} {H : Hp} {Q Q' : Int → Int → Hp → Prop} (h : tRg2 (tE F W (evE C xa)) (tE F W (evE C xb)) σ H Q) (k : ∀ i j H, Q i j H → Q' i j H) : tRg2 (tE F W (evE C xa)) (tE F W (evE C xb)) σ H Q' := by
  obtain ⟨env, st, ρ, he, hs, hp⟩ := h
  exact ⟨env, st, ρ, he, hs, hp.imp fun v H1 ⟨env, st, ρ, he, hs, hp⟩ => ⟨env, st, ρ, he, hs, hp.imp fun u H2 ⟨i, j, e1, e2, q⟩ => ⟨i, j, e1, e2, k _ _ _ q⟩⟩⟩
theorem tRg1_imp {xb : Ex} {σ : L2.St} {H : Hp} {Q Q' : Int → Int → Hp → Prop} (h : tRg1 (tE F W (evE C xb)) σ H Q) (k : ∀ i j H, Q i j H → Q' i j H) : tRg1 (tE F W (evE C xb)) σ H Q' := by
  obtain ⟨env, st, ρ, he, hs, hp⟩ := h
  exact ⟨env, st, ρ, he, hs, hp.imp fun v H1 ⟨j, e2, q⟩ => ⟨j, e2, k _ _ _ q⟩⟩
theorem step_rng {α β : Type} {R : Rho → Hp → α → β → Prop} {k : List D → M α} {σ : L2.St} {H : Hp} {Q : β → Hp → Prop} (h : tM F R W (fun env => (evE C xa env).bnd fun x => (evE C xb env).bnd fun y => (rngB x y).bnd k) σ H Q) :
    tRg2 (tE F W (evE C xa)) (tE F W (evE C xb)) σ H fun i j H2 => RgOk i j ∧ ∃ ρ0 st ρ, Ext ρ0 H ρ H2 ∧ SR F.τ F.K ρ H2 st ∧ Post F R W (k (rngL i j) st) ρ H2 Q :=
  tM.stepX h fun env x v st1 ρ0 ρ1 H1 x1 he hs r q => ⟨env, st1, ρ1, he, hs, q.bnd.imp fun u H2 ⟨y, st2, ρ2, x2, s2, r2, q2⟩ => by
      obtain ⟨i, j, e1, e2, ok, q3⟩ := rngB_ok (Rl.mono x2 _ _ r) r2 q2
      exact ⟨i, j, e1, e2, ok, ρ0, st2, ρ2, x1.trans x2, s2, q3⟩⟩
theorem step_rng1 {α β : Type} {R : Rho → Hp → α → β → Prop} {k : List D → M α} {σ : L2.St} {H : Hp} {Q : β → Hp → Prop} (h : tM F R W (fun env => (M.ret (.int 0)).bnd fun x => (evE C xb env).bnd fun y => (rngB x y).bnd k) σ H Q) :
    tRg1 (tE F W (evE C xb)) σ H fun i j H2 => RgOk i j ∧ ∃ ρ0 st ρ, Ext ρ0 H ρ H2 ∧ SR F.τ F.K ρ H2 st ∧ Post F R W (k (rngL i j) st) ρ H2 Q :=
  tM.stepX (m := evE C xb) (k := fun env y => (rngB (.int 0) y).bnd k) h fun env y u st1 ρ0 ρ1 H1 x1 he hs r q => by
      obtain ⟨i, j, e1, e2, ok, q3⟩ := rngB_ok rl_int r q
      cases e1
      exact ⟨j, e2, ok, ρ0, st1, ρ1, x1, hs, q3⟩
theorem step_rngL {σ : L2.St} {H : Hp} {Q : VK} (h : tL F W (evN C (.rng xa xb)) σ H Q) : tM F (LsR F.K H) W (fun env => (evE C xa env).bnd fun x => (evE C xb env).bnd fun y => (rngB x y).bnd M.ret) σ H Q := by
  have e : (fun env : Env => (evE C xa env).bnd fun x => (evE C xb env).bnd fun y => (rngB x y).bnd M.ret) = evN C (.rng xa xb) := by
    funext env
    simp only [bnd_ret]
    rfl
  rw [e]; exact h
theorem pL_rng2 (g : Gx F X) {p2 q : Pos} (B : Bn X "list") (B2 : Bn X "range") (n1 : notStar a = true) (n2 : notStar b = true) (ha : PE X a (tE F W (evE C xa))) (hb : PE X b (tE F W (evE C xb))) :
    PE X (.Call (.Name "list" p) [.Call (.Name "range" p2) [a, b] [] q] [] pos) (tL F W (evN C (.rng xa xb))) :=
  (pe_listRg g.calm B.g B.m (prg2 B2 n1 n2 ha hb) rfl).imp fun σ H Q h => tRg2_imp (step_rng (step_rngL h)) fun i j H2 ⟨ok, ρ0, st, ρ, x1, s2, q⟩ => ⟨ok, fun p hp => Post.fresh q s2 x1.dom (rngL_rl i j) hp⟩
theorem pL_rng1 (g : Gx F X) {p2 q : Pos} (B : Bn X "list") (B2 : Bn X "range") (n2 : notStar b = true) (hb : PE X b (tE F W (evE C xb))) :
    PE X (.Call (.Name "list" p) [.Call (.Name "range" p2) [b] [] q] [] pos) (tL F W (evN C (.rng (.cst (.int 0)) xb))) :=
  (pe_listRg g.calm B.g B.m (prg1 B2 n2 hb) rfl).imp fun σ H Q h => tRg1_imp (step_rng1 (step_rngL h)) fun i j H2 ⟨ok, ρ0, st, ρ, x1, s2, q⟩ => ⟨ok, fun p hp => Post.fresh q s2 x1.dom (rngL_rl i j) hp⟩
/-- tuple(range(..)): the tuple as it is laid -/
theorem pe_tupRgD {te : L2.St → Hp → (Int → Int → Hp → Prop) → Prop} (hc : X.calm = true) (B : Bn X "tuple") (he : PRg X e te) (na : notStar e = true) : PE X (.Call (.Name "tuple" p) [e] [] pos) (fun σ H Q => te σ H fun a b H1 => RgOk a b ∧ ∀ q its, H1 q = none → Q (.ref q) (upd H1 q (fz its (rgV a b)))) := by
  refine ⟨fun pins s σ H Q I h => ?_⟩
  refine Call_ (ld_blt I B.g B.m PyProof.Rows.boot_tuple (PyProof.Rows.callWith_type1 (args_cons (thn (he pins s σ H _ I h) fun x s1 ⟨r, a, b, t, u, v, H1, ex, hr, I1, ok, q⟩ => args_nil ?_) (star_cons na X.env)) (star_cons na X.env)))
  subst ex
  obtain ⟨b1, b2, b3, b4, b5⟩ := ok
  refine call_tuple_range (n := (b - a).toNat) (I1.ok.hd hc) hr (small_one b1 b2 b3 b4) (rangeSize_nat a b) b5 fun h' tk acc hk hi => ?_
  have I2 : Inv X pins σ H1 { s1 with heap := h', toks := tk } := I1.kept hk
  obtain ⟨J, hn⟩ := I2.tupN (its := acc.toList) (vals_rg hi) (by rw [rgV_length, sizeLine_eq]; omega)
  rw [tupO, Array.toArray_toList] at J
  exact ⟨.ref h'.objs.size, _, J, rfl, q _ _ hn⟩
theorem step_tupR {σ : L2.St} {H : Hp} {Q : VK} (h : tE F W (evE C (.tupR xa xb)) σ H Q) : tRg2 (tE F W (evE C xa)) (tE F W (evE C xb)) σ H fun i j H2 => RgOk i j ∧ ∀ q its, H2 q = none → Q (.ref q) (upd H2 q (fz its (rgV i j))) :=
  tRg2_imp (step_rng (k := fun xs => M.ret (D.tup xs)) h) fun i j H2 ⟨ok, ρ0, st, ρ, x1, s2, q⟩ => ⟨ok, fun p its hp => Post.newT (its := its) q s2 (rngL_rl i j) hp⟩
theorem pE_tupR2 (g : Gx F X) {p2 q : Pos} (B : Bn X "tuple") (B2 : Bn X "range") (n1 : notStar a = true) (n2 : notStar b = true) (ha : PE X a (tE F W (evE C xa))) (hb : PE X b (tE F W (evE C xb))) :
    PE X (.Call (.Name "tuple" p) [.Call (.Name "range" p2) [a, b] [] q] [] pos) (tE F W (evE C (.tupR xa xb))) :=
  (pe_tupRgD g.calm B (prg2 B2 n1 n2 ha hb) rfl).imp fun σ H Q h => step_tupR h
theorem pE_tupR1 (g : Gx F X) {p2 q : Pos} (B : Bn X "tuple") (B2 : Bn X "range") (n2 : notStar b = true) (hb : PE X b (tE F W (evE C xb))) :
    PE X (.Call (.Name "tuple" p) [.Call (.Name "range" p2) [b] [] q] [] pos) (tE F W (evE C (.tupR (.cst (.int 0)) xb))) :=
  (pe_tupRgD g.calm B (prg1 B2 n2 hb) rfl).imp fun σ H Q h => tRg1_imp (step_rng1 (k := fun xs => M.ret (D.tup xs)) h) fun i j H2 ⟨ok, ρ0, st, ρ, x1, s2, q⟩ => ⟨ok, fun p its hp => Post.newT (its := its) q s2 (rngL_rl i j) hp⟩
def tyN : Ty → String
  | .int => "int" | .bool => "bool" | .tuple => "tuple" | .str => "str"
def ktN : Kt → String
  | .non => "NoneType" | .bl => "bool" | .int => "int" | .str => "str" | .tup => "tuple" | .lst => "list" | .dict => "dict"
theorem isa_kit (K : Frag) (k : Kt) (t : Ty) : PySem.W.kitOne K (.type (ktN k)) (.type (tyN t)) = some (isaK k t) := by
  cases k <;> cases t <;> kernel_rfl
theorem kt_ty {ρ : Rho} {H : Hp} {st : Store} {d : D} {v : V} {k : Kt} (hs : SR F.τ F.K ρ H st) (r : Rl F.K ρ H d v) (h : ktOf st d = some k) : TyX F.K H v (.type (ktN k)) := by
  cases d with
  | non => cases h; obtain rfl := r.non; exact .base .non
  | bl b => cases h; obtain rfl := r.bl; exact .base (.bl b)
  | int i => cases h; obtain rfl := r.int; exact .base (.int i)
  | str i => cases h; obtain rfl := r.str; exact .base (.str i)
  | tup xs =>
    cases h
    obtain ⟨a, vs, rfl, h1, h2⟩ := r.tup
    rcases h1 with ⟨o, h1, _⟩ | ⟨o, its, n, h1, h2, _⟩
    · exact .fTuple h1
    · exact .kTuple h1 h2
  | loc l =>
    obtain ⟨a, ha, rfl⟩ := r.loc
    simp only [ktOf] at h
    split at h
    · rename_i xs hl
      cases h
      obtain ⟨vs, q, _⟩ := hs.obj l _ a hl ha
      exact .base (.lst q)
    · rename_i kvs hl
      cases h
      obtain ⟨ws, q, _⟩ := hs.obj l _ a hl ha
      exact .base (.dK q)
    · cases h
  | _ => cases h
theorem pE_isi (g : Gx F X) {t : Ty} {q : Pos} {y : Str} (B : Bn X "isinstance") (By : Bn X y) (ht : bootBuiltins y = some (.type (tyN t))) (hy : y ≠ "__name__") (hy2 : (y == ("__debug__" : Str)) = false) (hn : notStar a = true) (ha : PE X a (tE F W (evE C xa))) :
    PE X (.Call (.Name "isinstance" p) [a, .Name y q] [] pos) (tE F W (evE C (.isi xa t))) :=
  (pE_b2 B call_isi PyProof.Rows.boot_isinstance hn rfl ha (pe_bltn By.g By.m ht (v := .ty (tyN t)) rfl hy hy2) (by decide +kernel) (by decide +kernel)).imp fun _ _ _ h => tM.step h fun env d v st1 ρ1 H1 he hs r q => by
    unfold M.bnd isTy at q
    cases e : ktOf st1 d with
    | none => rw [e] at q; exact False.elim q
    | some k =>
      rw [e] at q
      exact ⟨v, .ty (tyN t), _, _, isaK k t, rfl, .ty _, by rw [g.K]; exact kt_ty hs r e, isa_kit X.K k t, (show Post F (Rl F.K) W (.ok (.bl (isaK k t)) st1) ρ1 H1 _ from q).ok hs rl_bl⟩
theorem sliceApplied_rev {prog : Program} {w : World} {A : Around} {E : Value → Shared → Prop} {s : Shared} {sl : Addr} {vl vu vs : Value} {n : Nat} {Q : Int × Int × Nat → Shared → Prop} (hs : s.heap.IsSliceOf sl vl vu vs) (pl : IsPart vl none) (pu : IsPart vu none) (ps : IsPart vs (some (-1)))
    (h : Q ((n : Int) - 1, -1, n) s) : wpAny (model prog w) A (Builtin.Slice.sliceApplied (.ref sl) (pure (n : Int))) Q E s := by
  obtain ⟨os, hos, hcs, hds⟩ := id hs
  unfold Builtin.Slice.sliceApplied Builtin.Slice.sliceFields
  refine wpAny_bind (wpAny_bind (wpAny_field hos hds (x := vl) rfl (wpAny_bind (wpAny_field hos hds (x := vu) rfl (wpAny_bind (wpAny_field hos hds (x := vs) rfl (wpAny_pure ?_)))))))
  refine wpAny_bind (HT.slicePart_ ps ?_)
  show wpAny _ _ (if ((-1 : Int) == 0) = true then _ else _) _ _ s
  rw [if_neg (by decide)]
  refine wpAny_bind (HT.slicePart_ pl (wpAny_bind (HT.slicePart_ pu (wpAny_bind (wpAny_pure ?_)))))
  have e : Builtin.Slice.sliceAdjust none none (-1) (n : Int) = ((n : Int) - 1, -1) := by
    unfold Builtin.Slice.sliceAdjust
    simp
  have e2 : Builtin.Slice.slicePlaces ((n : Int) - 1) (-1) (-1) = n := by
    unfold Builtin.Slice.slicePlaces
    have h1 : ¬ ((-1 : Int) > 0) := by decide
    rw [if_neg h1]
    split
    · have : ((n : Int) - 1 - -1 - 1) / (- -1) = (n : Int) - 1 := by
        rw [show (- -1 : Int) = 1 by decide, Int.ediv_one]; omega
      omega
    · omega
  show wpAny _ _ (match Builtin.Slice.sliceAdjust none none (-1) (n : Int) with | (lo, hi) => pure (lo, (-1 : Int), Builtin.Slice.slicePlaces lo hi (-1))) _ _ s
  rw [e]
  show wpAny _ _ (pure ((n : Int) - 1, (-1 : Int), Builtin.Slice.slicePlaces ((n : Int) - 1) (-1) (-1))) _ _ s
  rw [e2]
  exact wpAny_pure h
theorem fm_congr {α β : Type} {f g : α → Option β} : ∀ {l : List α}, (∀ x ∈ l, f x = g x) → l.filterMap f = l.filterMap g
  | [], _ => rfl
  | x :: l, h => by
    rw [List.filterMap_cons, List.filterMap_cons, h x List.mem_cons_self, fm_congr fun y hy => h y (List.mem_cons_of_mem _ hy)]
theorem pick_rev (xs : Array Value) : ((List.range xs.size).filterMap fun (m : Nat) => xs[((xs.size : Int) - 1 + (m : Int) * (-1)).toNat]?).toArray = xs.toList.reverse.toArray := by
  have e : (List.range xs.size).filterMap (fun (m : Nat) => xs[((xs.size : Int) - 1 + (m : Int) * (-1)).toNat]?) = ((List.range xs.size).map fun k => xs.size - 1 - k).filterMap (xs[·]?) := by
    rw [List.filterMap_map]
    refine fm_congr fun m hm => ?_
    have := List.mem_range.mp hm
    show xs[((xs.size : Int) - 1 + (m : Int) * (-1)).toNat]? = xs[xs.size - 1 - m]?
    rw [show ((xs.size : Int) - 1 + (m : Int) * (-1)).toNat = xs.size - 1 - m by omega]
  rw [e, PySem.W.krv_range, List.filterMap_reverse, PySem.W.krv_all]
theorem getItem_tuple_rev {prog : Program} {w : World} {A : Around} {E : Value → Shared → Prop} {s : Shared} {t sl : Addr} {items : Array Value} {vl vu vs : Value} {Q : Value → Shared → Prop} (ht : IsTup s.heap t items) (hs : s.heap.IsSliceOf sl vl vu vs) (pl : IsPart vl none) (pu : IsPart vu none) (ps : IsPart vs (some (-1)))
    (h : Q (.ref s.heap.objs.size) { s with heap := s.heap.push (tupO items.toList.reverse) }) (hsz : items.size ≤ sizeLine) : wpAny (model prog w) A (getItem (.ref t) (.ref sl)) Q E s := by
  have htake : sizeOk (.seq items.toList.reverse.toArray) := by
    show items.toList.reverse.toArray.size ≤ sizeLine
    simpa using hsz
  obtain ⟨os, hos, hcs, hds⟩ := id hs
  have hTs : s.TypeIs (.ref sl) "slice" := ⟨os, hos, hcs⟩
  unfold getItem
  try with_reducible refine wpAny_holding ?_
  first | refine wpAny_bind (wpAny_pure ?_) | skip
  refine wpAny_bind (wpAny_sequenceKey ht.typeIs (by decide) ?_)
  refine wpAny_bind (wpAny_callSpecial?_slot (name := Str.ofString "__getitem__") ht.typeIs PyProof.Rows.slot_tuple_getitem
    (wpAny_call_entry PyProof.Rows.slot_tuple_getitem ht.typeIs entry_tuple_getitem ?_ (args_tuple_getitem _ _)))
  show wpAny _ _ (Builtin.Tuple.tupleItemsOf (.ref t) >>= _) _ _ s
  refine wpAny_bind (PyProof.Rows.tupleItemsOf_ ht ?_)
  refine wpAny_bind (wpAny_typeOf hTs ?_)
  rw [if_pos (by decide)]
  refine wpAny_bind (sliceApplied_rev hs pl pu ps ?_)
  have hno : ¬ (((((items.size : Int) - 1)) == 0 && (-1 : Int) == 1 && items.size == items.size) = true) := by
    intro q
    rw [Bool.and_eq_true, Bool.and_eq_true] at q
    exact absurd q.1.2 (by decide)
  show wpAny _ _ (if ((((items.size : Int) - 1)) == 0 && (-1 : Int) == 1 && items.size == items.size) = true then _ else _) _ _ s
  rw [if_neg hno, pick_rev]
  first
    | exact wpAny_bind (m := Builtin.Tuple.tupleExact _) (wpAny_newObj_type (wpAny_pure ⟨_, rfl, wpAny_pure h⟩) htake)
    | exact wpAny_bind (m := Builtin.Tuple.tupleExact _) (wpAny_newObj_type (wpAny_bind (wpAny_pure (wpAny_pure ⟨_, rfl, wpAny_pure h⟩))) htake)
    | exact wpAny_bind (wpAny_bind (m := Builtin.Tuple.tupleExact _) (wpAny_newObj_type (wpAny_pure (wpAny_pure ⟨_, rfl, wpAny_pure h⟩)) htake))
    | exact wpAny_bind (wpAny_bind (m := Builtin.Tuple.tupleExact _) (wpAny_newObj_type (wpAny_pure ⟨_, rfl, wpAny_pure h⟩) htake))
theorem pE_rev (g : Gx F X) {k : Nat} {p1 p2 p3 : Pos} (ha : PE X a (tE F W (evE C xa))) : PE X (.Subscript a (.Slice none none (some (.UnaryOp .USub (.Constant (.int 1) k p1) p2)) p3) pos) (tE F W (evE C (.rev xa))) := by
  refine ⟨fun pins s σ H Q I h => ?_⟩
  refine Subscript_ (thn (ha.run pins s σ H _ I (tM.step (Q' := fun v H1 => ∃ d st ρ, SR F.τ F.K ρ H1 st ∧ Rl F.K ρ H1 d v ∧ Post F (Rl F.K) W (rev d st) ρ H1 Q) h fun env d v st1 ρ1 H1 he hs r q => ⟨d, st1, ρ1, hs, r, q⟩)) fun v s1 ⟨x, H1, I1, r1, d, st1, ρ1, hs, rd, hp⟩ => ?_)
  cases d with
  | tup xs =>
    obtain ⟨t, vv, rfl, ht, rt⟩ := rd.tup
    cases r1
    have hst : PO X (some (.UnaryOp .USub (.Constant (.int 1) k p1) p2)) (tPart (tUn (rU fun i => .int (-i)) (tC (.int 1)))) := po_some (pe_un un_neg pe_int)
    refine wpAny_Slice (thn (po_none.run pins s1 σ H1 (fun o H2 => o = none ∧ H2 = H1) I1 ⟨rfl, rfl⟩) fun vl s2 ⟨l, H2, I2, pl, el, e2⟩ => ?_)
    subst el e2
    refine thn (po_none.run pins s2 σ H2 (fun o H3 => o = none ∧ H3 = H2) I2 ⟨rfl, rfl⟩) fun vu s3 ⟨u, H3, I3, pu, eu, e3⟩ => ?_
    subst eu e3
    refine thn (hst.run pins s3 σ H3 (fun o H4 => o = some (-1) ∧ H4 = H3) I3 ⟨1, rfl, -1, rfl, rfl, rfl⟩) fun vs s4 ⟨o, H4, I4, ps, eo, e4⟩ => ?_
    subst eo e4
    have I5 : Inv X pins σ H4 { s4 with heap := s4.heap.push { cls := .type "slice", data := .fields #[vl, vu, vs] } } := I4.kept (t' := s4.toks) fun b ob q => Heap.get?_push_of_some _ q
    obtain ⟨its, r, hti, hz⟩ := I5.tuple (by rw [g.K]; exact ht.t)
    have hlen := r.length
    show wpAny (model X.prog X.w) X.A (subscriptTail a (.Slice none none (some (.UnaryOp .USub (.Constant (.int 1) k p1) p2)) p3) (.ref t) (.ref s4.heap.objs.size)) (EP X pins σ Q) X.xe { s4 with heap := s4.heap.push { cls := .type "slice", data := .fields #[vl, vu, vs] } }
    refine tail_any (ops := [.ref t, .ref s4.heap.objs.size]) hti.typeIs (PyProof.Rows.slot_tuple_getitem.lookup) ?_ (by with_unfolding_all rfl)
    refine getItem_tuple_rev hti (Heap.IsSliceOf.new _ vl vu vs) pl pu ps ?_ (by rw [List.size_toArray]; omega)
    obtain ⟨J, hn⟩ := I5.tupN (its := its.reverse) (vs := vv.reverse) r.reverse (by rw [List.length_reverse]; exact hz)
    exact ⟨.ref _, _, J, rfl, hp.newT hs rt.reverse hn⟩
  | _ => exact False.elim hp
end
end Cr

set_option maxRecDepth 100000
set_option maxHeartbeats 1000000
namespace Cr
open PySem PySem.Spec PyProof.Rows PySem.Calls L2
section
variable {F : Cf} {X : Cx} {W : VW} {C : Cl} {a b c e o : Expr} {xa xb xc xo : Ex} {p pos apos cpos : Pos} {x name : Str} {id T : String} {la : Ls} {es : List Expr} {xs : List Ex}
def kdN : Kd → String
  | .list => "list" | .tuple => "tuple"
/-- a value's type, seen from the abstract heap -/
def TyD (X : Cx) (T : String) (x : V) (H : Hp) : Prop := ∀ (pins : List (Addr × Obj)) (σ : L2.St) (s : Shared) (v : Value), Inv X pins σ H s → RelV x v → s.TypeIs v T ∧ ∀ a, v = .ref a → ∃ ob, s.heap.get? a = some ob ∧ ob.dict = none
theorem kd_ty (g : Gx F X) {ρ : Rho} {H : Hp} {st : Store} {d : D} {x : V} {k : Kd} {u : Unit} {st' : Store} (hs : SR F.τ F.K ρ H st) (rd : Rl F.K ρ H d x) (h : kindIs k d st = .ok u st') : st' = st ∧ TyD X (kdN k) x H := by
  cases k with
  | tuple =>
    cases d with
    | tup xs =>
      cases h
      refine ⟨rfl, fun pins σ s v I rv => ?_⟩
      obtain ⟨a, vs, rfl, h1, _⟩ := rd.tup
      cases rv
      rcases h1 with ⟨o, h1, hd⟩ | ⟨o, its, n, h1, h2, h3, _⟩
      · obtain ⟨e1, z, its, r, ob, e2, c, _⟩ := I.hok a _ h1
        rw [e1] at e2; cases e2
        exact ⟨⟨o, e1, c⟩, fun b e => by cases e; exact ⟨o, e1, hd⟩⟩
      · have e1 := I.kIn a o (by rw [g.K]; exact h1)
        exact ⟨⟨o, e1, h2⟩, fun b e => by cases e; exact ⟨o, e1, h3⟩⟩
    | _ => cases h
  | list =>
    cases d with
    | loc l =>
      simp only [kindIs] at h
      split at h
      · rename_i xs hl
        cases h
        refine ⟨rfl, fun pins σ s v I rv => ?_⟩
        obtain ⟨a, ha, rfl⟩ := rd.loc
        obtain ⟨vs, h1, _⟩ := hs.obj l _ a hl ha
        cases rv
        obtain ⟨z, its, n, r, e1⟩ := I.hok a _ h1
        exact ⟨⟨_, e1, rfl⟩, fun b e => by cases e; exact ⟨_, e1, rfl⟩⟩
      · cases h
    | _ => cases h
/-- the receiver is no super() -/
def abOk : Expr → Bool
  | .Call (.Name _ _) [] [] _ => false
  | _ => true
theorem ab_eq {o : Expr} (h : abOk o = true) (m : Str) (env : PySem.Env) (whole : Sem Value) : attributeBase o m env whole = whole := by
  unfold attributeBase
  split
  · cases h
  · rfl
theorem few_of {es : List Expr} (h : es.all notStar = true) (hl : es.length < 30) (pos : Pos) (env : PySem.Env) : ((backTo pos (starEach es env)).all (fun x => !x.1) && (backToKw pos (keywordEach [] env)).all (fun x => x.1.isSome)
      && decide (es.length + ([] : List Keyword).length + (if ([] : List Keyword).isEmpty then 0 else 1) < 30)) = true := by
  have h1 : (backTo pos (starEach es env)).all (fun x => !x.1) = true := by
    have h2 := star_any h pos env
    rw [List.all_eq_true]
    intro x hx
    cases hb : x.1 with
    | false => rfl
    | true =>
      have : (backTo pos (starEach es env)).any (·.1) = true := List.any_eq_true.mpr ⟨x, hx, hb⟩
      rw [h2] at this; cases this
  rw [h1]
  simp only [Bool.true_and, Bool.and_eq_true, decide_eq_true_eq]
  refine ⟨rfl, ?_⟩
  show es.length + 0 + 0 < 30
  omega
def tBD (X : Cx) (T : String) (r : V → List V → Hp → VK → Prop) (to : TE) (t : TA) : TE := fun σ H Q => to σ H fun x H1 => TyD X T x H1 ∧ t σ H1 fun xs H2 => r x xs H2 Q
theorem pe_bmD {r : V → List V → Hp → VK → Prop} {to : TE} {t : TA} (pa : PlainAttrs T) (slot : Slot T name id) (hty : typeOf (.builtin id) = pure (.type "method_descriptor")) (hm : MtR X id r) (ho : PE X o to) (ha : PA X (e :: es) t)
    (hb : abOk o = true) (hs : (e :: es).all notStar = true) (hl : (e :: es).length < 30) (hline : (apos.endLine == cpos.line) = true) : PE X (.Call (.Attribute o name apos) (e :: es) [] cpos) (tBD X T r to t) := by
  refine ⟨fun pins s σ H Q I h => ?_⟩
  refine wpAny_Call_method_late (ab_eq hb _ _ _) (few_of hs hl cpos X.env) hline rfl (thn (ho.run pins s σ H _ I h) fun v s1 ⟨x, H1, I1, r1, ty, q1⟩ => ?_)
  obtain ⟨h1, h2⟩ := ty pins σ s1 v I1 r1
  refine ⟨T, id, pa, slot, hty, h1, h2, ?_⟩
  have hA := ha.run cpos pins s1 σ H1 _ I1 q1
  simp only [List.all_cons, Bool.and_eq_true] at hs
  rw [star_cons hs.1] at hA ⊢
  refine Calls.callWith_builtin (by show (false || (backTo cpos (starEach es X.env)).any (·.1)) = false; rw [star_any hs.2]; rfl) (Calls.evalArgs_plain ?_)
  exact thn hA fun us s2 ⟨vs, H2, I2, r2, q2⟩ => hm pins s2 σ H2 x vs v us Q I2 r1 r2 q2
theorem pe_bm0D {r : V → List V → Hp → VK → Prop} {to : TE} (pa : PlainAttrs T) (slot : Slot T name id) (hty : typeOf (.builtin id) = pure (.type "method_descriptor")) (hm : MtR X id r) (ho : PE X o to)
    (hb : abOk o = true) (hline : (apos.endLine == cpos.line) = true) : PE X (.Call (.Attribute o name apos) [] [] cpos) (fun σ H Q => to σ H fun x H1 => TyD X T x H1 ∧ r x [] H1 Q) := by
  refine ⟨fun pins s σ H Q I h => ?_⟩
  refine wpAny_Call_method0_late (ab_eq hb _ _ _) hline (thn (ho.run pins s σ H _ I h) fun v s1 ⟨x, H1, I1, r1, ty, q1⟩ => ?_)
  obtain ⟨h1, h2⟩ := ty pins σ s1 v I1 r1
  exact ⟨T, id, pa, slot, hty, h1, h2, Calls.callWith_builtin rfl (PySem.evalArgs_none (hm pins s1 σ H1 x [] v [] Q I1 r1 .nil q1))⟩
/-- the kind that the method's type is -/
theorem step_kd {α β : Type} {R : Rho → Hp → α → β → Prop} {kd : Kd} {k : Env → D → M α} {σ : L2.St} {H : Hp} {Q : β → Hp → Prop} (g : Gx F X) (h : tM F R W (fun env => (evE C xo env).bnd fun x => (kindIs kd x).bnd fun _ => k env x) σ H Q) :
    tE F W (evE C xo) σ H fun v H1 => TyD X (kdN kd) v H1 ∧ ∃ env d st ρ, RE F.K ρ H1 env σ ∧ SR F.τ F.K ρ H1 st ∧ Rl F.K ρ H1 d v ∧ Post F R W (k env d st) ρ H1 Q :=
  tM.step h fun env d v st1 ρ1 H1 he hs r q => by
    unfold M.bnd at q
    cases e : kindIs kd d st1 with
    | ok u st2 =>
      obtain ⟨rfl, ty⟩ := kd_ty g hs r e
      rw [e] at q
      exact ⟨ty, env, d, st2, ρ1, he, hs, r, q⟩
    | exc c fs st2 =>
      exfalso
      cases kd <;> cases d <;> simp only [kindIs] at e <;> first | cases e | (split at e <;> cases e)
    | err => rw [e] at q; exact False.elim q
theorem tE_imp {m : Env → M D} {σ : L2.St} {H : Hp} {Q Q' : VK} (h : tE F W m σ H Q) (k : ∀ v H, Q v H → Q' v H) : tE F W m σ H Q' := by
  obtain ⟨env, st, ρ, he, hs, hp⟩ := h
  exact ⟨env, st, ρ, he, hs, hp.imp k⟩
theorem step_meth {m : Me} {σ : L2.St} {H : Hp} {Q : VK} (g : Gx F X) (h : tE F W (evE C (.meth m xo xs)) σ H Q) : tBD X (kdN (mkd m)) (rM F W (meth m (mkd m))) (tE F W (evE C xo)) (tA F W (evEs C xs)) σ H Q :=
  tE_imp (step_kd g h) fun v H1 ⟨ty, env, d, st, ρ, he, hs, r, q⟩ => ⟨ty, env, st, ρ, he, hs, q.bnd.imp fun vs H2 ⟨ds, st2, ρ2, x2, s2, r2, q2⟩ => ⟨d, ds, st2, ρ2, s2, Rl.mono x2 _ _ r, r2, q2⟩⟩
def meN : Me → Str
  | .append => "append" | .extend => "extend" | .pop => "pop" | .index => "index"
theorem pE_meth (g : Gx F X) (m : Me) (hm : m ≠ .extend) (ho : PE X o (tE F W (evE C xo))) (ha : PA X (e :: es) (tA F W (evEs C xs)))
    (hb : abOk o = true) (hs : (e :: es).all notStar = true) (hl : (e :: es).length < 30) (hline : (apos.endLine == cpos.line) = true) : PE X (.Call (.Attribute o (meN m) apos) (e :: es) [] cpos) (tE F W (evE C (.meth m xo xs))) := by
  cases m with
  | append => exact (pe_bmD PySem.F.plainAttrs_list PySem.F.slot_list_append PySem.F.type_list_append (mt_append g) ho ha hb hs hl hline).imp fun _ _ _ h => step_meth g h
  | extend => exact absurd rfl hm
  | pop => exact (pe_bmD PySem.F.plainAttrs_list PySem.F.slot_list_pop PySem.F.type_list_pop (mt_pop1 g) ho ha hb hs hl hline).imp fun _ _ _ h => step_meth g h
  | index => exact (pe_bmD PySem.F.plainAttrs_tuple PySem.F.slot_tuple_index PySem.F.type_tuple_index (mt_index g) ho ha hb hs hl hline).imp fun _ _ _ h => step_meth g h
theorem pE_pop0 (g : Gx F X) (ho : PE X o (tE F W (evE C xo))) (hb : abOk o = true) (hline : (apos.endLine == cpos.line) = true) : PE X (.Call (.Attribute o "pop" apos) [] [] cpos) (tE F W (evE C (.meth0 .pop xo))) :=
  (pe_bm0D PySem.F.plainAttrs_list PySem.F.slot_list_pop PySem.F.type_list_pop (mt_pop0 (W := W) g) ho hb hline).imp fun _ _ _ h =>
    tE_imp (step_kd (k := fun _ x => meth0 .pop .list x) g h) fun v H1 ⟨ty, env, d, st, ρ, he, hs, r, q⟩ => ⟨ty, rfl, d, st, ρ, hs, r, q⟩
/-- l.extend(a list that is made) -/
theorem mt_extendR (g : Gx F X) : MtR X "list.extend" (fun x ws H Q => ∃ dx ys vs b st ρ, ws = [.ref b] ∧ SR F.τ F.K ρ H st ∧ Rl F.K ρ H dx x ∧ H b = some (.lst vs) ∧ RlL F.K ρ H ys vs ∧ Post F (Rl F.K) W (extend dx ys st) ρ H Q) := by
  intro pins s σ H x ws v us Q I rx rv ⟨dx, ys, vs, b, st, ρ, e, hs, h1, hb, r, hp⟩
  subst e
  obtain ⟨u, rfl, ru⟩ := rv.one
  cases ru
  exact extend_ok g I rx hs h1 hb r hp
theorem pE_ext {n : Ne} (g : Gx F X) (ho : PE X o (tE F W (evE C xo))) (ha : PE X e (tL F W (evN C n)))
    (hb : abOk o = true) (hs : notStar e = true) (hline : (apos.endLine == cpos.line) = true) : PE X (.Call (.Attribute o "extend" apos) [e] [] cpos) (tE F W (evE C (.ext xo (.new n)))) :=
  (pe_bmD PySem.F.plainAttrs_list PySem.F.slot_list_extend PySem.F.type_list_extend (mt_extendR (W := W) g) ho (pA_one hs ha) hb (by simp [hs]) (by simp) hline).imp fun _ _ _ h =>
    tE_imp (step_kd (k := fun env x => (evN C n env).bnd fun xs => extend x xs) g h) fun v H1 ⟨ty, env, d, st, ρ, he, hs, r, q⟩ => ⟨ty, env, st, ρ, he, hs, q.bnd.imp fun u H2 ⟨ds, st2, ρ2, x2, s2, ⟨a, vs, eu, h1, _, _, r2⟩, q2⟩ => ⟨d, ds, vs, a, st2, ρ2, by rw [eu], s2, Rl.mono x2 _ _ r, h1, r2, q2⟩⟩
end
end Cr

set_option maxRecDepth 100000
set_option maxHeartbeats 1000000
namespace Cr
open PySem PySem.Spec PyProof.Rows PySem.Calls L2
section
variable {F : Cf} {X : Cx} {W : VW} {C : Cl} {a : Expr} {xa : Ex} {p p2 pos pos2 : Pos}
theorem pL_sset (g : Gx F X) (B1 : Bn X "sorted") (B2 : Bn X "set") (hn : notStar a = true) (ha : PE X a (tE F W (evE C xa))) :
    PE X (.Call (.Name "sorted" p) [.Call (.Name "set" p2) [a] [] pos2] [] pos) (tL F W (evN C (.sset xa))) :=
  (pE_b1 B1 (cr_sortedT g.calm) PyProof.Rows.boot_sorted rfl (pE_t1 B2 (cr_setOfT g.calm (by have := g.un; omega)) PyProof.Rows.boot_set hn ha (by decide +kernel) (by decide +kernel)) (by decide +kernel) (by decide +kernel)).imp fun σ H Q h => by
    have h : tM F (LsR F.K H) W (fun env => (evE C xa env).bnd fun x => (kindIs .list x).bnd fun _ => (itemsOf x).bnd fun xs => M.opt (ssetL xs)) σ H Q := by
      obtain ⟨env, st, ρ, q1, q2, q3⟩ := h
      refine ⟨env, st, ρ, q1, q2, ?_⟩
      simp only [evN] at q3
      exact q3
    refine tM.stepX h fun env d v st1 ρ0 ρ1 H1 x1 he hs r q => ?_
    cases d with
    | loc l =>
      obtain ⟨b, hb, rfl⟩ := r.loc
      replace q : Post F (LsR F.K H) W (((kindIs .list (.loc l)).bnd fun _ => (itemsOf (.loc l)).bnd fun xs => M.opt (ssetL xs)) st1) ρ1 H1 Q := q
      unfold M.bnd at q
      cases hl : st1[l]? with
      | none =>
        have e : kindIs .list (.loc l) st1 = .err := by simp only [kindIs, hl]
        rw [e] at q
        exact False.elim q
      | some o =>
        cases o with
        | lst xs =>
          have e : kindIs .list (.loc l) st1 = .ok () st1 := by simp only [kindIs, hl]
          rw [e] at q
          have hg : getL st1 l = some xs := by unfold getL; rw [hl]
          have e2 : itemsOf (.loc l) st1 = .ok xs st1 := by simp only [itemsOf, hg]
          have q3 : Post F (LsR F.K H) W (M.opt (ssetL xs) st1) ρ1 H1 Q := by
            dsimp only at q
            rw [e2] at q
            exact q
          obtain ⟨ys, hf, q4⟩ := q3.opt
          obtain ⟨vs, z1, z2⟩ := hs.obj l _ b hl hb
          rw [g.K]
          exact sset_ok hs z2 (SqL.of z1) hf fun H2 p vs' x2 s2 hpn r2 => (q4.from x2).fresh s2 (fun c hc => x1.dom c (x2.dom c hc)) r2 hpn
        | dict _ =>
          have e : kindIs .list (.loc l) st1 = .err := by simp only [kindIs, hl]
          rw [e] at q
          exact False.elim q
        | ins _ _ =>
          have e : kindIs .list (.loc l) st1 = .err := by simp only [kindIs, hl]
          rw [e] at q
          exact False.elim q
    | _ => exact False.elim q
end
end Cr

set_option maxRecDepth 100000
set_option maxHeartbeats 1000000
namespace Cr
open PySem PySem.Spec PyProof.Rows PySem.Calls L2
theorem _root_.L2.PI.imp {X : Cx} {tg e : Expr} {t t' : TI} (h : PI X tg e t) (k : ∀ σ H R, t' σ H R → t σ H R) : PI X tg e t' := ⟨fun pins s σ H R I q => h.run pins s σ H R I (k σ H R q)⟩
/-- an iterator goes as the walk's list of values tells -/
def HdR (τ : Tbs) (K : Frag) (ρ0 : Rho) (H0 : Hp) (h : Hd) (J : It) : Prop := ∀ (ρ : Rho) (H : Hp) (st : Store) (i : Nat), Ext ρ0 H0 ρ H → SR τ K ρ H st → match h.get st i with
  | some (some d) => J.go i H ∧ ∀ x H', J.yld i H x H' → Ext ρ H ρ H' ∧ SR τ K ρ H' st ∧ Rl K ρ H' d x
  | some none => J.stop i H
  | none => True
abbrev tQ (F : Cf) (W : VW) (m : Env → M Hd) : TI := tM F (fun ρ H h J => HdR F.τ F.K ρ H h J) W m
section
variable {F : Cf} {X : Cx} {W : VW} {C : Cl} {K : Frag} {ρ : Rho} {H : Hp}
theorem hd_listOf {a : Addr} {xs : List D} {vs : List V} (h : ∀ ρ' H', Ext ρ H ρ' H' → SqL K H' a vs) (r : RlL K ρ H xs vs) : HdR τ K ρ H (.its xs) (Itl K a) := fun ρ' H' st i e s => by
  show match some xs[i]? with | some (some d) => _ | some none => _ | none => _
  have hq := h ρ' H' e
  cases hi : xs[i]? with
  | some d =>
    obtain ⟨v, h1, h2⟩ := r.get hi
    refine ⟨⟨vs, v, hq, h1⟩, fun x H2 ⟨e2, hx⟩ => ?_⟩
    subst e2
    have := hx vs hq
    rw [h1] at this; cases this
    exact ⟨Ext.refl _ _, s, Rl.mono e _ _ h2⟩
  | none =>
    have hl := r.len
    have := List.getElem?_eq_none_iff.mp hi
    exact ⟨vs, hq, by omega⟩
theorem hd_tupOf {a : Addr} {xs : List D} {vs : List V} (h : SqD K H a vs) (r : RlL K ρ H xs vs) : HdR τ K ρ H (.its xs) (Itt K a) := fun ρ' H' st i e s => by
  show match some xs[i]? with | some (some d) => _ | some none => _ | none => _
  have hq := (e.tup h).t
  cases hi : xs[i]? with
  | some d =>
    obtain ⟨v, h1, h2⟩ := r.get hi
    refine ⟨⟨vs, v, hq, h1⟩, fun x H2 ⟨e2, hx⟩ => ?_⟩
    subst e2
    have := hx vs hq
    rw [h1] at this; cases this
    exact ⟨Ext.refl _ _, s, Rl.mono e _ _ h2⟩
  | none =>
    have hl := r.len
    have := List.getElem?_eq_none_iff.mp hi
    exact ⟨vs, hq, by omega⟩
theorem hd_loc {a : Addr} {l : Nat} (ha : ρ[l]? = some a) : HdR τ K ρ H (.ls l) (Itl K a) := fun ρ' H' st i e s => by
  unfold Hd.get
  cases hg : getL st l with
  | none => trivial
  | some xs =>
    obtain ⟨vs, hq, r⟩ := s.getL hg (e.at ha)
    dsimp only
    cases hi : xs[i]? with
    | some d =>
      obtain ⟨v, h1, h2⟩ := r.get hi
      refine ⟨⟨vs, v, hq, h1⟩, fun x H2 ⟨e2, hx⟩ => ?_⟩
      subst e2
      have := hx vs hq
      rw [h1] at this; cases this
      exact ⟨Ext.refl _ _, s, h2⟩
    | none =>
      have hl := r.len
      have := List.getElem?_eq_none_iff.mp hi
      exact ⟨vs, hq, by omega⟩
theorem hd_rg {lo : Int} {n : Nat} : HdR τ K ρ H (.rg lo n) (Itr lo n) := fun ρ' H' st i e s => by
  unfold Hd.get
  by_cases h : i < n
  · rw [if_pos h]
    refine ⟨h, fun x H2 ⟨e2, hx⟩ => ?_⟩
    subst e2 hx
    exact ⟨Ext.refl _ _, s, rl_int⟩
  · rw [if_neg h]
    exact Nat.le_of_not_lt h
/-- .. however lists of the store change -/
def HdM (τ : Tbs) (K : Frag) (ρ0 : Rho) (H0 : Hp) (h : Hd) (J : It) : Prop := ∀ (ρ : Rho) (H : Hp) (st : Store) (i : Nat), Mo ρ0 ρ H0 H → SR τ K ρ H st → match h.get st i with
  | some (some d) => J.go i H ∧ ∀ x H', J.yld i H x H' → Ext ρ H ρ H' ∧ SR τ K ρ H' st ∧ Rl K ρ H' d x
  | some none => J.stop i H
  | none => True
abbrev tQM (F : Cf) (W : VW) (m : Env → M Hd) : TI := tM F (fun ρ H h J => HdM F.τ F.K ρ H h J) W m
theorem hdQ_listOf {a : Addr} {xs : List D} {vs : List V} (h : ∀ ρ' H', Mo ρ ρ' H H' → SqL K H' a vs) (r : RlL K ρ H xs vs) : HdM τ K ρ H (.its xs) (Itl K a) := fun ρ' H' st i e s => by
  show match some xs[i]? with | some (some d) => _ | some none => _ | none => _
  have hq := h ρ' H' e
  cases hi : xs[i]? with
  | some d =>
    obtain ⟨v, h1, h2⟩ := r.get hi
    refine ⟨⟨vs, v, hq, h1⟩, fun x H2 ⟨e2, hx⟩ => ?_⟩
    subst e2
    have := hx vs hq
    rw [h1] at this; cases this
    exact ⟨Ext.refl _ _, s, Rl.mo e _ _ h2⟩
  | none =>
    have hl := r.len
    have := List.getElem?_eq_none_iff.mp hi
    exact ⟨vs, hq, by omega⟩
theorem hdQ_tupOf {a : Addr} {xs : List D} {vs : List V} (h : SqD K H a vs) (r : RlL K ρ H xs vs) : HdM τ K ρ H (.its xs) (Itt K a) := fun ρ' H' st i e s => by
  show match some xs[i]? with | some (some d) => _ | some none => _ | none => _
  have hq := (e.tup h).t
  cases hi : xs[i]? with
  | some d =>
    obtain ⟨v, h1, h2⟩ := r.get hi
    refine ⟨⟨vs, v, hq, h1⟩, fun x H2 ⟨e2, hx⟩ => ?_⟩
    subst e2
    have := hx vs hq
    rw [h1] at this; cases this
    exact ⟨Ext.refl _ _, s, Rl.mo e _ _ h2⟩
  | none =>
    have hl := r.len
    have := List.getElem?_eq_none_iff.mp hi
    exact ⟨vs, hq, by omega⟩
theorem hdQ_loc {a : Addr} {l : Nat} (ha : ρ[l]? = some a) : HdM τ K ρ H (.ls l) (Itl K a) := fun ρ' H' st i e s => by
  unfold Hd.get
  cases hg : getL st l with
  | none => trivial
  | some xs =>
    obtain ⟨vs, hq, r⟩ := s.getL hg (e.pos _ _ ha)
    dsimp only
    cases hi : xs[i]? with
    | some d =>
      obtain ⟨v, h1, h2⟩ := r.get hi
      refine ⟨⟨vs, v, hq, h1⟩, fun x H2 ⟨e2, hx⟩ => ?_⟩
      subst e2
      have := hx vs hq
      rw [h1] at this; cases this
      exact ⟨Ext.refl _ _, s, h2⟩
    | none =>
      have hl := r.len
      have := List.getElem?_eq_none_iff.mp hi
      exact ⟨vs, hq, by omega⟩
theorem hdQ_rg {lo : Int} {n : Nat} : HdM τ K ρ H (.rg lo n) (Itr lo n) := fun ρ' H' st i e s => by
  unfold Hd.get
  by_cases h : i < n
  · rw [if_pos h]
    refine ⟨h, fun x H2 ⟨e2, hx⟩ => ?_⟩
    subst e2 hx
    exact ⟨Ext.refl _ _, s, rl_int⟩
  · rw [if_neg h]
    exact Nat.le_of_not_lt h
/-- a list or a tuple, walked -/
theorem pi_seq {tg l : Expr} {tl : TE} (hl : PE X l tl) : PI X tg l (fun σ H R => tl σ H fun x H1 => ∃ a, x = .ref a ∧ ((∃ xs, SqL X.K H1 a xs) ∧ R (Itl X.K a) H1 ∨ (∃ xs, SqT X.K H1 a xs) ∧ R (Itt X.K a) H1)) := by
  refine ⟨fun pins s σ H R I h => ?_⟩
  refine thn (hl.run pins s σ H _ I h) fun v s1 ⟨x, H1, I1, r1, q1⟩ => ?_
  obtain ⟨a, e, ⟨⟨xs, hq⟩, q⟩ | ⟨⟨xs, hq⟩, q⟩⟩ := q1
  · subst e
    cases r1
    obtain ⟨its, rv, p, hz⟩ := I1.list hq
    refine wpAny_pyIter_list p.isList ?_
    refine ⟨s1.heap.objs.size, [s1.heap.objs.size], _, _, H1, rfl, I1.kept (t' := s1.toks) fun b o e => Heap.get?_push_of_some _ e, turn_list a _, ⟨_, Heap.get?_push_size _ rfl, rfl, rfl⟩, fun b hb => ?_, q⟩
    have e : b = s1.heap.objs.size := by simpa using hb
    subst e
    exact I1.fpOk (Nat.le_refl _) (I1.hok.fresh (Nat.le_refl _))
  · subst e
    cases r1
    obtain ⟨its, rv, p, hz⟩ := I1.tuple hq
    refine wpAny_pyIter_tuple (show s1.heap.IsTuple a its.toArray from p) ?_
    refine ⟨s1.heap.objs.size, [s1.heap.objs.size], _, _, H1, rfl, I1.kept (t' := s1.toks) fun b o e => Heap.get?_push_of_some _ e, turn_tuple a _, ⟨_, Heap.get?_push_size _ rfl, rfl, rfl⟩, fun b hb => ?_, q⟩
    have e : b = s1.heap.objs.size := by simpa using hb
    subst e
    exact I1.fpOk (Nat.le_refl _) (I1.hok.fresh (Nat.le_refl _))
/-- what a sequence's place is -/
def SeqP (K : Frag) (H : Hp) (a : Addr) (J : It) : Prop := ((∃ xs, SqL K H a xs) ∧ J = Itl K a) ∨ ((∃ xs, SqT K H a xs) ∧ J = Itt K a)
/-- the reading of what is walked: its place -/
abbrev tH (F : Cf) (W : VW) (m : Env → M Hd) : TE := tM F (fun ρ H h v => ∃ a J, v = .ref a ∧ SeqP F.K H a J ∧ HdR F.τ F.K ρ H h J) W m
variable {e : Expr} {xa : Ex} {n : Ne} {l : Ls}
theorem hdOf_rl {d : D} {v : V} {st : Store} {h : Hd} {st' : Store} (s : SR τ K ρ H st) (r : Rl K ρ H d v) (e : hdOf d st = .ok h st') : st' = st ∧ ∃ a J, v = .ref a ∧ SeqP K H a J ∧ HdR τ K ρ H h J := by
  cases d with
  | tup xs =>
    cases e
    obtain ⟨a, vs, rfl, h1, h2⟩ := r.tup
    exact ⟨rfl, a, _, rfl, .inr ⟨⟨vs, h1.t⟩, rfl⟩, hd_tupOf h1 h2⟩
  | lit ns =>
    cases e
    obtain ⟨a, rfl, h1⟩ := r.lit
    refine ⟨rfl, a, _, rfl, .inl ⟨⟨_, h1.l⟩, rfl⟩, hd_listOf (fun ρ' H' x => ?_) (RlL.ofInts ns)⟩
    rcases h1 with ⟨o, h1⟩ | h1
    · exact .inl (.inr ⟨o, x.frz h1⟩)
    · exact h1 H'
  | loc l =>
    simp only [hdOf] at e
    split at e
    · rename_i xs hg
      cases e
      obtain ⟨a, ha, rfl⟩ := r.loc
      obtain ⟨vs, h1, _⟩ := s.getL hg ha
      exact ⟨rfl, a, _, rfl, .inl ⟨⟨vs, h1⟩, rfl⟩, hd_loc ha⟩
    · cases e
  | _ => cases e
theorem pH_val (h : PE X e (tE F W (evE C xa))) : PE X e (tH F W (evH C (.val xa))) :=
  h.imp fun _ _ _ h => tM.step h fun env d v st1 ρ1 H1 he hs r q => by
    cases e : hdOf d st1 with
    | ok g st2 =>
      obtain ⟨rfl, h2⟩ := hdOf_rl hs r e
      rw [e] at q
      exact q.ok hs h2
    | exc c fs st2 =>
      exfalso
      cases d <;> simp only [hdOf] at e <;> first | cases e | (split at e <;> cases e)
    | err => rw [e] at q; exact False.elim q
theorem pH_new (h : PE X e (tL F W (evN C n))) : PE X e (tH F W (evH C (.new n))) :=
  h.imp fun σ H Q h => by
    obtain ⟨env, st, ρ, he, hs, hp⟩ := h
    exact ⟨env, st, ρ, he, hs, hp.bnd.imp fun v H1 ⟨xs, st1, ρ1, x1, s1, ⟨a, vs, ev, h1, n1, _, r⟩, q⟩ => q.ret s1 ⟨a, _, ev, .inl ⟨⟨vs, SqL.of h1⟩, rfl⟩, hd_listOf (fun ρ' H' x => SqL.of (x.fr _ _ h1 (.inl n1) (fun _ q => by cases q))) r⟩⟩
theorem pQ_ls {tg : Expr} (g : Gx F X) (h : PE X e (tH F W (evH C l))) : PI X tg e (tQ F W (evQ C (.ls l))) :=
  (pi_seq h).imp fun σ H R ⟨env, st, ρ, he, hs, hp⟩ => ⟨env, st, ρ, he, hs, by
    have hp : Post F (fun ρ H h J => HdR F.τ F.K ρ H h J) W (evH C l env st) ρ H R := hp
    generalize evH C l env st = r at hp ⊢
    cases r with
    | ok h st1 =>
      rintro ρ1 H1 v x s1 ⟨a, J, ev, hq, hj⟩
      refine ⟨a, ev, ?_⟩
      rcases hq with ⟨q1, rfl⟩ | ⟨q1, rfl⟩
      · exact .inl ⟨by rw [g.K]; exact q1, by rw [g.K]; exact hp ρ1 H1 _ x s1 hj⟩
      · exact .inr ⟨by rw [g.K]; exact q1, by rw [g.K]; exact hp ρ1 H1 _ x s1 hj⟩
    | exc c fs st1 => exact hp
    | err => exact hp⟩
abbrev tHM (F : Cf) (W : VW) (m : Env → M Hd) : TE := tM F (fun ρ H h v => ∃ a J, v = .ref a ∧ SeqP F.K H a J ∧ HdM F.τ F.K ρ H h J) W m
theorem hdOf_rlM {d : D} {v : V} {st : Store} {h : Hd} {st' : Store} (s : SR τ K ρ H st) (r : Rl K ρ H d v) (e : hdOf d st = .ok h st') : st' = st ∧ ∃ a J, v = .ref a ∧ SeqP K H a J ∧ HdM τ K ρ H h J := by
  cases d with
  | tup xs =>
    cases e
    obtain ⟨a, vs, rfl, h1, h2⟩ := r.tup
    exact ⟨rfl, a, _, rfl, .inr ⟨⟨vs, h1.t⟩, rfl⟩, hdQ_tupOf h1 h2⟩
  | lit ns =>
    cases e
    obtain ⟨a, rfl, h1⟩ := r.lit
    refine ⟨rfl, a, _, rfl, .inl ⟨⟨_, h1.l⟩, rfl⟩, hdQ_listOf (fun ρ' H' x => ?_) (RlL.ofInts ns)⟩
    rcases h1 with ⟨o, h1⟩ | h1
    · exact .inl (.inr ⟨o, x.frz _ _ _ h1⟩)
    · exact h1 H'
  | loc l =>
    simp only [hdOf] at e
    split at e
    · rename_i xs hg
      cases e
      obtain ⟨a, ha, rfl⟩ := r.loc
      obtain ⟨vs, h1, _⟩ := s.getL hg ha
      exact ⟨rfl, a, _, rfl, .inl ⟨⟨vs, h1⟩, rfl⟩, hdQ_loc ha⟩
    · cases e
  | _ => cases e
theorem pHM_val (h : PE X e (tE F W (evE C xa))) : PE X e (tHM F W (evH C (.val xa))) :=
  h.imp fun _ _ _ h => tM.step h fun env d v st1 ρ1 H1 he hs r q => by
    cases e : hdOf d st1 with
    | ok g st2 =>
      obtain ⟨rfl, h2⟩ := hdOf_rlM hs r e
      rw [e] at q
      exact q.ok hs h2
    | exc c fs st2 =>
      exfalso
      cases d <;> simp only [hdOf] at e <;> first | cases e | (split at e <;> cases e)
    | err => rw [e] at q; exact False.elim q
theorem pQM_ls {tg : Expr} (g : Gx F X) (h : PE X e (tHM F W (evH C l))) : PI X tg e (tQM F W (evQ C (.ls l))) :=
  (pi_seq h).imp fun σ H R ⟨env, st, ρ, he, hs, hp⟩ => ⟨env, st, ρ, he, hs, by
    have hp : Post F (fun ρ H h J => HdM F.τ F.K ρ H h J) W (evH C l env st) ρ H R := hp
    generalize evH C l env st = r at hp ⊢
    cases r with
    | ok h st1 =>
      rintro ρ1 H1 v x s1 ⟨a, J, ev, hq, hj⟩
      refine ⟨a, ev, ?_⟩
      rcases hq with ⟨q1, rfl⟩ | ⟨q1, rfl⟩
      · exact .inl ⟨by rw [g.K]; exact q1, by rw [g.K]; exact hp ρ1 H1 _ x s1 hj⟩
      · exact .inr ⟨by rw [g.K]; exact q1, by rw [g.K]; exact hp ρ1 H1 _ x s1 hj⟩
    | exc c fs st1 => exact hp
    | err => exact hp⟩
variable {a b : Expr} {xb : Ex} {p pos : Pos} {tg : Expr}
theorem rngH_ok {x y : D} {v u : V} {st : Store} {R : It → Hp → Prop} (h1 : Rl F.K ρ H x v) (h2 : Rl F.K ρ H y u) (hs : SR F.τ F.K ρ H st) (q : Post F (fun ρ H h J => HdR F.τ F.K ρ H h J) W (rngH x y st) ρ H R) :
    ∃ i j : Int, v = .int i ∧ u = .int j ∧ (-(2 ^ 62) ≤ i ∧ i < 2 ^ 62 ∧ -(2 ^ 62) ≤ j ∧ j < 2 ^ 62) ∧ R (Itr i (j - i).toNat) H := by
  cases x with
  | int i =>
    cases y with
    | int j =>
      have q : Post F (fun ρ H h J => HdR F.τ F.K ρ H h J) W ((if rngOk i && rngOk j then M.ret (.rg i (j - i).toNat) else M.err : M Hd) st) ρ H R := q
      by_cases hc : (rngOk i && rngOk j) = true
      · rw [if_pos hc] at q
        simp only [Bool.and_eq_true, decide_eq_true_eq, rngOk] at hc
        obtain ⟨⟨c1, c2⟩, c3, c4⟩ := hc
        exact ⟨i, j, h1.int, h2.int, ⟨by omega, by omega, by omega, by omega⟩, q.ret hs hd_rg⟩
      · rw [if_neg hc] at q
        exact False.elim q
    | _ => exact False.elim q
  | _ => exact False.elim q
theorem rngHM_ok {x y : D} {v u : V} {st : Store} {R : It → Hp → Prop} (h1 : Rl F.K ρ H x v) (h2 : Rl F.K ρ H y u) (hs : SR F.τ F.K ρ H st) (q : Post F (fun ρ H h J => HdM F.τ F.K ρ H h J) W (rngH x y st) ρ H R) :
    ∃ i j : Int, v = .int i ∧ u = .int j ∧ (-(2 ^ 62) ≤ i ∧ i < 2 ^ 62 ∧ -(2 ^ 62) ≤ j ∧ j < 2 ^ 62) ∧ R (Itr i (j - i).toNat) H := by
  cases x with
  | int i =>
    cases y with
    | int j =>
      have q : Post F (fun ρ H h J => HdM F.τ F.K ρ H h J) W ((if rngOk i && rngOk j then M.ret (.rg i (j - i).toNat) else M.err : M Hd) st) ρ H R := q
      by_cases hc : (rngOk i && rngOk j) = true
      · rw [if_pos hc] at q
        simp only [Bool.and_eq_true, decide_eq_true_eq, rngOk] at hc
        obtain ⟨⟨c1, c2⟩, c3, c4⟩ := hc
        exact ⟨i, j, h1.int, h2.int, ⟨by omega, by omega, by omega, by omega⟩, q.ret hs hdQ_rg⟩
      · rw [if_neg hc] at q
        exact False.elim q
    | _ => exact False.elim q
  | _ => exact False.elim q
theorem pQM_rng2 (B : Bn X "range") (n1 : notStar a = true) (n2 : notStar b = true) (ha : PE X a (tE F W (evE C xa))) (hb : PE X b (tE F W (evE C xb))) : PI X tg (.Call (.Name "range" p) [a, b] [] pos) (tQM F W (evQ C (.rng xa xb))) :=
  (pi_range2 B.g B.m (pA_two n1 n2 ha hb) (by rw [star_cons n1, star_cons n2]; rfl) (by rw [star_cons n2]; rfl)).imp fun σ H R h => tM.step h fun env x v st1 ρ1 H1 he hs r q => ⟨env, st1, ρ1, he, hs, q.bnd.imp fun u H2 ⟨y, st2, ρ2, x2, s2, r2, q2⟩ => by
    obtain ⟨i, j, rfl, rfl, b, q3⟩ := rngHM_ok (Rl.mono x2 _ _ r) r2 s2 q2
    exact ⟨i, j, rfl, b, q3⟩⟩
theorem pQM_rng1 (B : Bn X "range") (n2 : notStar b = true) (hb : PE X b (tE F W (evE C xb))) : PI X tg (.Call (.Name "range" p) [b] [] pos) (tQM F W (evQ C (.rng (.cst (.int 0)) xb))) :=
  (pi_range1 B.g B.m (pA_one n2 hb) (by rw [star_cons n2]; rfl)).imp fun σ H R h => tM.step (m := evE C xb) (k := fun env y => rngH (.int 0) y) h fun env y u st1 ρ1 H1 he hs r q => by
    obtain ⟨i, j, e1, rfl, b, q3⟩ := rngHM_ok rl_int r hs q
    cases e1
    refine ⟨j, rfl, by omega, by omega, ?_⟩
    simpa using q3
theorem pQ_rng2 (B : Bn X "range") (n1 : notStar a = true) (n2 : notStar b = true) (ha : PE X a (tE F W (evE C xa))) (hb : PE X b (tE F W (evE C xb))) : PI X tg (.Call (.Name "range" p) [a, b] [] pos) (tQ F W (evQ C (.rng xa xb))) :=
  (pi_range2 B.g B.m (pA_two n1 n2 ha hb) (by rw [star_cons n1, star_cons n2]; rfl) (by rw [star_cons n2]; rfl)).imp fun σ H R h => tM.step h fun env x v st1 ρ1 H1 he hs r q => ⟨env, st1, ρ1, he, hs, q.bnd.imp fun u H2 ⟨y, st2, ρ2, x2, s2, r2, q2⟩ => by
    obtain ⟨i, j, rfl, rfl, b, q3⟩ := rngH_ok (Rl.mono x2 _ _ r) r2 s2 q2
    exact ⟨i, j, rfl, b, q3⟩⟩
theorem hd_rg3 {lo c : Int} {n : Nat} : HdR τ K ρ H (.its ((List.range n).map fun (k : Nat) => D.int (lo + (k : Int) * c))) (Itc lo c n) := fun ρ' H' st i e s => by
  show match some ((List.range n).map fun (k : Nat) => D.int (lo + (k : Int) * c))[i]? with | some (some d) => _ | some none => _ | none => _
  by_cases h : i < n
  · rw [List.getElem?_map, List.getElem?_range h]
    refine ⟨h, fun x H2 ⟨e2, hx⟩ => ?_⟩
    subst e2 hx
    exact ⟨Ext.refl _ _, s, rl_int⟩
  · rw [List.getElem?_eq_none (by simpa using h)]
    exact Nat.le_of_not_lt h
theorem rngSize_nat (a b c : Int) : Builtin.Range.rangeSize a b c = ((Builtin.Range.rangeSize a b c).toNat : Int) := PyProof.Rows.rangeSize_toNat a b c
theorem pQ_rng3 {c : Expr} {xc : Ex} (B : Bn X "range") (n1 : notStar a = true) (n2 : notStar b = true) (n3 : notStar c = true) (ha : PE X a (tE F W (evE C xa))) (hb : PE X b (tE F W (evE C xb))) (hc : PE X c (tE F W (evE C xc))) :
    PI X tg (.Call (.Name "range" p) [a, b, c] [] pos) (tQ F W (evQ C (.rng3 xa xb xc))) :=
  (pi_range3 B.g B.m (pA_three n1 n2 n3 ha hb hc) (star_cons n1 X.env) (by rw [star_cons n2, star_cons n3]; rfl)).imp fun σ H R h => tM.step h fun env x v st1 ρ1 H1 he hs r q => ⟨env, st1, ρ1, he, hs, q.bnd.imp fun u H2 ⟨y, st2, ρ2, x2, s2, r2, q2⟩ => ⟨env, st2, ρ2, he.mono x2, s2, q2.bnd.imp fun t H3 ⟨z, st3, ρ3, x3, s3, r3, q3⟩ => by
    have r := Rl.mono (x2.trans x3) _ _ r
    have r2 := Rl.mono x3 _ _ r2
    cases x with
    | int i =>
      cases y with
      | int j =>
        cases z with
        | int k =>
          have q3 : Post F (fun ρ H h J => HdR F.τ F.K ρ H h J) W ((if decide (0 < k ∧ k < 1000) && Builtin.Range.small i j k && decide (Builtin.Range.rangeSize i j k ≤ 1000) then M.ret (.its ((List.range (Builtin.Range.rangeSize i j k).toNat).map fun (m : Nat) => D.int (i + (m : Int) * k))) else M.err : M Hd) st3) ρ3 H3 R := q3
          by_cases hcc : (decide (0 < k ∧ k < 1000) && Builtin.Range.small i j k && decide (Builtin.Range.rangeSize i j k ≤ 1000)) = true
          · rw [if_pos hcc] at q3
            simp only [Bool.and_eq_true, decide_eq_true_eq] at hcc
            obtain ⟨⟨⟨c1, c2⟩, c3⟩, c4⟩ := hcc
            rw [r.int, r2.int, r3.int]
            exact ⟨i, j, k, (Builtin.Range.rangeSize i j k).toNat, rfl, ⟨by omega, by omega, c3, rngSize_nat i j k⟩, q3.ret s3 hd_rg3⟩
          · rw [if_neg hcc] at q3
            exact False.elim q3
        | _ => exact False.elim q3
      | _ => exact False.elim q3
    | _ => exact False.elim q3⟩⟩
theorem pQ_rng1 (B : Bn X "range") (n2 : notStar b = true) (hb : PE X b (tE F W (evE C xb))) : PI X tg (.Call (.Name "range" p) [b] [] pos) (tQ F W (evQ C (.rng (.cst (.int 0)) xb))) :=
  (pi_range1 B.g B.m (pA_one n2 hb) (by rw [star_cons n2]; rfl)).imp fun σ H R h => tM.step (m := evE C xb) (k := fun env y => rngH (.int 0) y) h fun env y u st1 ρ1 H1 he hs r q => by
    obtain ⟨i, j, e1, rfl, b, q3⟩ := rngH_ok rl_int r hs q
    cases e1
    refine ⟨j, rfl, by omega, by omega, ?_⟩
    simpa using q3
def setV (σ : L2.St) (is : List Nat) (vs : List V) : L2.St := (is.zip vs).foldl (fun s p => s.set p.1 (some p.2)) σ
/-- the slots behind the target -/
def tgSt (K : Frag) (H : Hp) (tg : Tg) (v : V) (σ σ' : L2.St) : Prop := match tg with
  | .nm i => σ' = σ.set i (some v)
  | .tp is => ∃ a vs, v = .ref a ∧ SqT K H a vs ∧ vs.length = is.length ∧ σ' = setV σ is vs
  | .tn i is => ∃ a x b vs, v = .ref a ∧ SqT K H a [x, .ref b] ∧ SqT K H b vs ∧ vs.length = is.length ∧ σ' = setV (σ.set i (some x)) is vs
def gT (K : Frag) (tg : Tg) : TG := fun v σ H Q => ∃ σ', tgSt K H tg v σ σ' ∧ Q σ' H
def gNames : List Nat → TGs
  | [] => gNil
  | i :: r => gCons (gName i) (gNames r)
theorem gNames_ok : ∀ (is : List Nat) (vs : List V) (σ : L2.St) (H : Hp) (Q : L2.St → Hp → Prop), vs.length = is.length → Q (setV σ is vs) H → gNames is vs σ H Q
  | [], [], _, _, _, _, h => ⟨rfl, h⟩
  | i :: is, v :: vs, σ, H, Q, hl, h => ⟨v, vs, rfl, gNames_ok is vs _ H Q (by simpa using hl) h⟩
/-- a target's name stands in the slot, as a local (or, at the def's own level, as a cell) -/
def nmOk (N : List Str) (sc : Scope) (st : Str → Bool) (i : Nat) (x : Str) : Bool := decide (N[i]? = some x) && (decide (sc.names.lookup x = some .local) || (st x && decide (sc.names.lookup x = some .cell)))
/-- the block's own cells -/
def ownCell (scope : Scope) (x : Str) : Bool := scope.names.lookup x == some .cell
theorem nmOk_inv {X : Cx} {N : List Str} {sc : Scope} {st : Str → Bool} {i : Nat} {x : Str} (hN : X.N = N) (hsc : X.env.scope = sc) (hst : ∀ x, st x = true → X.fn x = true) (h : nmOk N sc st i x = true) :
    X.N[i]? = some x ∧ Loc X.env.scope x ∧ (X.fn x = true ∨ X.env.scope.names.lookup x = some .local) := by
  simp only [nmOk, Bool.and_eq_true, Bool.or_eq_true, decide_eq_true_eq] at h
  subst hN hsc
  obtain ⟨h1, h2 | ⟨h2, h3⟩⟩ := h
  · exact ⟨h1, .inl h2, .inr h2⟩
  · exact ⟨h1, .inr h3, .inl (hst x h2)⟩
def tgNames (N : List Str) (sc : Scope) (st : Str → Bool) : List Nat → List Expr → Bool
  | [], [] => true
  | i :: is, .Name x _ :: es => nmOk N sc st i x && tgNames N sc st is es
  | _, _ => false
def ckTg (N : List Str) (sc : Scope) (st : Str → Bool) : Tg → Expr → Bool
  | .nm i, .Name x _ => nmOk N sc st i x
  | .tp is, .Tuple es _ _ => tgNames N sc st is es
  | .tn i is, .Tuple [.Name x _, .Tuple es _ _] _ _ => nmOk N sc st i x && tgNames N sc st is es
  | _, _ => false
theorem assign_len {N : List Str} {sc : Scope} {st : Str → Bool} {env : PySem.Env} : ∀ {is : List Nat} {es : List Expr}, tgNames N sc st is es = true → (assignEach es env).length = is.length ∧ (assignEach es env).findIdx? (·.1) = none
  | [], [], _ => ⟨rfl, rfl⟩
  | i :: is, .Name x p :: es, h => by
    simp only [tgNames, Bool.and_eq_true] at h
    obtain ⟨h1, h2⟩ := assign_len (env := env) h.2
    refine ⟨by show (_ :: assignEach es env).length = _; simp [h1], ?_⟩
    show ((false, assign (.Name x p) env) :: assignEach es env).findIdx? (·.1) = none
    rw [List.findIdx?_cons]
    simp [h2]
  | [], _ :: _, h => by cases h
  | _ :: _, [], h => by cases h
theorem pgs_names {N : List Str} {sc : Scope} {st : Str → Bool} (hN : X.N = N) (nd : N.Nodup) (hsc : X.env.scope = sc) (hst : ∀ x, st x = true → X.fn x = true) : ∀ {is : List Nat} {es : List Expr}, tgNames N sc st is es = true → PGs X es (gNames is)
  | [], [], _ => pgs_nil
  | i :: is, .Name x p :: es, h => by
    simp only [tgNames, Bool.and_eq_true] at h
    obtain ⟨k1, k2, k3⟩ := nmOk_inv hN hsc hst h.1
    exact pgs_cons (pg_name (hN ▸ nd) k1 k2 k3) (pgs_names hN nd hsc hst h.2) rfl
  | [], _ :: _, h => by cases h
  | _ :: _, [], h => by cases h
theorem pg_okN {N : List Str} {sc : Scope} {st : Str → Bool} (hc : X.calm = true) (hN : X.N = N) (nd : N.Nodup) (hsc : X.env.scope = sc) (hst : ∀ x, st x = true → X.fn x = true) {i : Nat} {is : List Nat} {x : Str} {es : List Expr} {p1 p2 p3 : Pos} {k1 k2 : Nat}
    (h0 : nmOk N sc st i x = true) (h : tgNames N sc st is es = true) : PG X (.Tuple [.Name x p1, .Tuple es k1 p2] k2 p3) (gT X.K (.tn i is)) := by
  obtain ⟨q1, q2, q3⟩ := nmOk_inv (x := x) (i := i) hN hsc hst h0
  have P1 : PG X (.Name x p1) (gName i) := pg_name (hN ▸ nd) q1 q2 q3
  obtain ⟨h1, h2⟩ := assign_len (env := X.env) h
  have P2 : PG X (.Tuple es k1 p2) (gTup X.K is.length (gNames is)) := pg_tup hc (pgs_names hN nd hsc hst h) h1 h2
  have P : PG X (.Tuple [.Name x p1, .Tuple es k1 p2] k2 p3) (gTup X.K 2 (gCons (gName i) (gCons (gTup X.K is.length (gNames is)) gNil))) := pg_tup hc (pgs_cons P1 (pgs_cons P2 pgs_nil rfl) rfl) rfl rfl
  refine ⟨fun pins s σ H v u Q I r ⟨σ', ⟨a, y, b, vs, e1, e2, e3, e4, e5⟩, q⟩ => P.run pins s σ H v u Q I r ⟨a, [y, .ref b], e1, e2, rfl, y, [.ref b], rfl, ?_⟩⟩
  exact ⟨.ref b, [], rfl, b, vs, rfl, e3, e4, gNames_ok is vs _ H _ e4 ⟨rfl, by rw [← e5]; exact q⟩⟩
theorem pg_ok {N : List Str} {sc : Scope} {st : Str → Bool} (hc : X.calm = true) (hN : X.N = N) (nd : N.Nodup) (hsc : X.env.scope = sc) (hst : ∀ x, st x = true → X.fn x = true) {t : Tg} {te : Expr} (h : ckTg N sc st t te = true) : PG X te (gT X.K t) := by
  cases t with
  | nm i =>
    cases te with
    | Name x p =>
      obtain ⟨k1, k2, k3⟩ := nmOk_inv (x := x) (i := i) hN hsc hst h
      have P : PG X (.Name x p) (gName i) := pg_name (hN ▸ nd) k1 k2 k3
      exact ⟨fun pins s σ H v u Q I r ⟨σ', e, q⟩ => P.run pins s σ H v u Q I r (by
        have e : σ' = σ.set i (some v) := e
        subst e; exact q)⟩
    | _ => cases h
  | tp is =>
    cases te with
    | Tuple es k p =>
      have h : tgNames N sc st is es = true := h
      obtain ⟨h1, h2⟩ := assign_len (env := X.env) h
      have P : PG X (.Tuple es k p) (gTup X.K is.length (gNames is)) := pg_tup hc (pgs_names hN nd hsc hst h) h1 h2
      refine ⟨fun pins s σ H v u Q I r ⟨σ', ⟨a, vs, e1, e2, e3, e4⟩, q⟩ => P.run pins s σ H v u Q I r ⟨a, vs, e1, e2, e3, gNames_ok is vs σ H Q e3 (by rw [← e4]; exact q)⟩⟩
    | _ => cases h
  | tn i is =>
    cases te with
    | Tuple es k p =>
      rcases es with _ | ⟨e1, _ | ⟨e2, _ | ⟨_, _⟩⟩⟩
      · cases h
      · cases e1 <;> cases h
      · cases e1 with
        | Name x p1 =>
          cases e2 with
          | Tuple es k1 p2 =>
            have h : (nmOk N sc st i x && tgNames N sc st is es) = true := h
            simp only [Bool.and_eq_true] at h
            exact pg_okN hc hN nd hsc hst h.1 h.2
          | _ => cases h
        | _ => cases h
      · cases e1 with
        | Name x p1 => cases e2 <;> cases h
        | _ => cases h
    | _ => cases h
theorem RE.set {env : Env} {σ : L2.St} {i : Nat} {d : D} {v : V} (h : RE K ρ H env σ) (r : Rl K ρ H d v) : RE K ρ H (env.set i (some d)) (σ.set i (some v)) := by
  refine ⟨by rw [List.length_set, List.length_set, h.1], fun j c e => ?_⟩
  by_cases hj : i = j
  · subst hj
    by_cases hl : i < env.length
    · rw [List.getElem?_set_self hl] at e
      cases e
      exact ⟨v, List.getElem?_set_self (by rw [← h.1]; exact hl), r⟩
    · rw [List.getElem?_eq_none (by rw [List.length_set]; omega)] at e
      cases e
  · rw [List.getElem?_set_ne hj] at e ⊢
    exact h.2 j c e
theorem RE.setAll {σ : L2.St} : ∀ {is : List Nat} {xs : List D} {vs : List V} {env : Env} {σ : L2.St}, RE K ρ H env σ → RlL K ρ H xs vs → RE K ρ H ((is.zip xs).foldl (fun e p => e.set p.1 (some p.2)) env) (setV σ is vs)
  | [], _, _, _, _, h, _ => h
  | _ :: _, [], _, _, _, h, r => by
    unfold RlL at r
    subst r
    exact h
  | i :: is, x :: xs, _, env, σ, h, r => by
    obtain ⟨v, vs, rfl, r1, r2⟩ := r.cons_inv
    exact RE.setAll (is := is) (σ := σ) (h.set r1) r2
theorem bindTg_ok {t : Tg} {d : D} {v : V} {env env' : Env} {σ : L2.St} {st st' : Store} (h : RE K ρ H env σ) (r : Rl K ρ H d v) (e : bindTg t d env st = .ok env' st') : st' = st ∧ ∃ σ', tgSt K H t v σ σ' ∧ RE K ρ H env' σ' := by
  cases t with
  | nm i => cases e; exact ⟨rfl, _, rfl, h.set r⟩
  | tp is =>
    cases d with
    | tup xs =>
      have e : (if xs.length = is.length then M.ret ((is.zip xs).foldl (fun e p => e.set p.1 (some p.2)) env) else M.err : M Env) st = .ok env' st' := e
      split at e
      · rename_i hl
        cases e
        obtain ⟨a, vs, rfl, h1, h2⟩ := r.tup
        exact ⟨rfl, _, ⟨a, vs, rfl, h1.t, by rw [← h2.len, hl], rfl⟩, RE.setAll (σ := σ) h h2⟩
      · cases e
    | _ => cases e
  | tn i is =>
    simp only [bindTg] at e
    split at e
    · rename_i x xs
      split at e
      · rename_i hl
        cases e
        obtain ⟨a, vs, rfl, h1, h2⟩ := r.tup
        obtain ⟨y, t, rfl, r1, h2⟩ := h2.cons_inv
        obtain ⟨z, t, rfl, r2, h2⟩ := h2.cons_inv
        obtain rfl := h2.nil_inv
        obtain ⟨b, us, rfl, h3, h4⟩ := r2.tup
        exact ⟨rfl, _, ⟨a, y, b, us, rfl, h1.t, h3.t, by rw [← h4.len, hl], rfl⟩, RE.setAll (σ := σ) (h.set r1) h4⟩
      · cases e
    · cases e
end
end Cr

set_option maxRecDepth 100000
set_option maxHeartbeats 1000000
namespace Cr
open PySem PySem.Spec PyProof.Rows PySem.Calls L2
section
variable {F : Cf} {X : Cx} {W : VW} {C : Cl} {K : Frag} {ρ : Rho} {H : Hp}
theorem wipe_len (env : Env) : ∀ vs : List Nat, (Cr.wipe env vs).length = env.length
  | [] => rfl
  | v :: vs => by unfold Cr.wipe; rw [List.length_set, wipe_len env vs]
theorem set_comm' {α : Type} (σ : List α) {i j : Nat} {x y : α} (h : i ≠ j) : (σ.set i x).set j y = (σ.set j y).set i x := List.set_comm x y h
theorem wipe_set {i : Nat} {x : Option V} : ∀ {vs : List Nat} {σ : L2.St}, i ∈ vs → L2.wipe (σ.set i x) vs = L2.wipe σ vs
  | [], _, h => by cases h
  | v :: vs, σ, h => by
    show (L2.wipe (σ.set i x) vs).set v none = (L2.wipe σ vs).set v none
    by_cases hv : i ∈ vs
    · rw [wipe_set hv]
    · have e : i = v := by
        rcases List.mem_cons.mp h with e | e
        · exact e
        · exact absurd e hv
      subst e
      have comm : ∀ {ws : List Nat}, i ∉ ws → ∀ τ : L2.St, L2.wipe (τ.set i x) ws = (L2.wipe τ ws).set i x := fun {ws} => by
        induction ws with
        | nil => intro _ _; rfl
        | cons w ws ih =>
          intro hw τ
          have hw : i ≠ w ∧ i ∉ ws := by simpa using hw
          show (L2.wipe (τ.set i x) ws).set w none = ((L2.wipe τ ws).set w none).set i x
          rw [ih hw.2, set_comm' _ hw.1]
      rw [comm hv, List.set_set]
theorem wipe_same (σ : L2.St) : ∀ vs ws : List Nat, (∀ i ∈ vs, i ∈ ws) → L2.wipe (L2.wipe σ vs) ws = L2.wipe σ ws
  | [], ws, _ => rfl
  | v :: vs, ws, h => by
    show L2.wipe ((L2.wipe σ vs).set v none) ws = _
    rw [wipe_set (h v List.mem_cons_self), wipe_same σ vs ws fun i hi => h i (List.mem_cons_of_mem _ hi)]
theorem wipe_setV {σ : L2.St} {ws : List Nat} : ∀ {is : List Nat} {vs : List V} {σ : L2.St}, (∀ i ∈ is, i ∈ ws) → L2.wipe (setV σ is vs) ws = L2.wipe σ ws
  | [], _, _, _ => rfl
  | _ :: _, [], _, _ => rfl
  | i :: is, v :: vs, σ, h => by
    show L2.wipe (setV (σ.set i (some v)) is vs) ws = _
    rw [wipe_setV (σ := σ) fun j hj => h j (List.mem_cons_of_mem _ hj), wipe_set (h i List.mem_cons_self)]
def tgIx : Tg → List Nat
  | .nm i => [i]
  | .tp is => is
  | .tn i is => i :: is
theorem wipe_tg {t : Tg} {v : V} {σ σ' : L2.St} {ws : List Nat} (h : tgSt K H t v σ σ') (hi : ∀ i ∈ tgIx t, i ∈ ws) : L2.wipe σ' ws = L2.wipe σ ws := by
  cases t with
  | nm i =>
    have h : σ' = σ.set i (some v) := h
    subst h
    exact wipe_set (hi i (by simp [tgIx]))
  | tp is =>
    obtain ⟨a, vs, _, _, _, rfl⟩ := h
    exact wipe_setV (σ := σ) hi
  | tn i is =>
    obtain ⟨a, x, b, vs, _, _, _, _, rfl⟩ := h
    rw [wipe_setV (σ := σ.set i (some x)) fun j hj => hi j (by simp [tgIx, hj]), wipe_set (hi i (by simp [tgIx]))]
theorem RE.wipe {env : Env} {σ : L2.St} (h : RE K ρ H env σ) : ∀ vs : List Nat, RE K ρ H (Cr.wipe env vs) (L2.wipe σ vs)
  | [] => h
  | v :: vs => by
    have ih := RE.wipe h vs
    refine ⟨by rw [wipe_len, L2.wipe_length]; exact h.1, fun j c e => ?_⟩
    have e : ((Cr.wipe env vs).set v none)[j]? = some (some c) := e
    show ∃ u, ((L2.wipe σ vs).set v none)[j]? = some (some u) ∧ _
    by_cases hj : v = j
    · subst hj
      by_cases hl : v < (Cr.wipe env vs).length
      · rw [List.getElem?_set_self hl] at e; cases e
      · rw [List.getElem?_eq_none (by rw [List.length_set]; omega)] at e; cases e
    · rw [List.getElem?_set_ne hj] at e ⊢
      exact ih.2 j c e
/-- within a comprehension nothing is raised -/
def noW : VW := fun _ _ _ => False
theorem bnd_inv {α β : Type} {m : M α} {k : α → M β} {st st' : Store} {b : β} (e : (m.bnd k) st = .ok b st') : ∃ a st1, m st = .ok a st1 ∧ k a st1 = .ok b st' := by
  unfold M.bnd at e
  split at e
  · rename_i a st1 h; exact ⟨a, st1, h, e⟩
  · cases e
  · cases e
/-- one turn of a list comprehension -/
def lcStep (C : Cl) (elt : Ex) (tg : Tg) (ifs : Option Te) (env : Env) (d : D) : M (Option D) :=
  (bindTg tg d env).bnd fun env' => (evI C ifs env').bnd fun t => if t then (evE C elt env').bnd fun v => M.ret (some v) else M.ret none
theorem tM_ok {α β : Type} {R : Rho → Hp → α → β → Prop} {m : Env → M α} {env : Env} {σ : L2.St} {st st' : Store} {a : α} {Q : β → Hp → Prop} (he : RE F.K ρ H env σ) (hs : SR F.τ F.K ρ H st) (e : m env st = .ok a st')
    (h : ∀ ρ' H' v, Ext ρ H ρ' H' → SR F.τ F.K ρ' H' st' → R ρ' H' a v → Q v H') : tM F R W m σ H Q := ⟨env, st, ρ, he, hs, by rw [e]; exact h⟩
/-- the new list grows, the store knows nothing of it -/
theorem Ext.side {ρ' : Rho} {H' : Hp} {D0 : Addr} {u' : HO} (x : Ext ρ H ρ' H') (h0 : H D0 = none) : Ext ρ H ρ' (upd H' D0 u') :=
  ⟨x.pre, fun a o e n t => by rw [upd_ne (ne_of_none e h0)]; exact x.fr a o e n t, x.new, fun a h => x.dom a (upd_dom h)⟩
theorem SR.sideX {st : Store} {D0 : Addr} {u u' : HO} (s : SR τ K ρ H st) (hD : H D0 = some u) (hf : ∀ o w, u ≠ .frz o w) (ht : ∀ ps, u ≠ .tbl ps) (hx : ∀ c q, u ≠ LamX.CodeO c q) (hn : D0 ∉ ρ) (ha : ∀ x, τ.anc = some x → x.2 D0 = none) (hu : ∀ ps, u' ≠ .tbl ps := by intro _ z; cases z) : SR τ K ρ (upd H D0 u') st ∧ Mo ρ ρ H (upd H D0 u') := by
  have mo : Mo ρ ρ H (upd H D0 u') := ⟨fun _ _ h => h, fun a o w e => by
    have ha : a ≠ D0 := by rintro rfl; rw [hD] at e; cases e; exact hf _ _ rfl
    rw [upd_ne ha]; exact e⟩
  refine ⟨⟨s.len, fun l o a h1 h2 => RO.mo mo (s.obj l o a h1 h2) fun _ v e => ?_, s.inj, tabs_set s.tab (fun ps z => by rw [hD] at z; exact ht ps (Option.some.inj z)) (fun c q z => by rw [hD] at z; exact hx c q (Option.some.inj z)) hu, fun x hx => ?_⟩, mo⟩
  · have ha : a ≠ D0 := by rintro rfl; exact hn (List.mem_of_getElem? h2)
    rw [upd_ne ha]; exact e
  · exact (s.anc x hx).side (ha x hx)
theorem SR.side {st : Store} {D0 : Addr} {u u' : HO} (s : SR τ K ρ H st) (hD : H D0 = some u) (hf : ∀ o w, u ≠ .frz o w) (ht : ∀ ps, u ≠ .tbl ps) (hx : ∀ φ, u ≠ .ext φ) (hn : D0 ∉ ρ) (ha : ∀ x, τ.anc = some x → x.2 D0 = none) (hu : ∀ ps, u' ≠ .tbl ps := by intro _ z; cases z) : SR τ K ρ (upd H D0 u') st ∧ Mo ρ ρ H (upd H D0 u') := s.sideX hD hf ht (fun c q => hx _) hn ha hu
theorem Ext.notin {ρ' : Rho} {H' : Hp} {D0 : Addr} (x : Ext ρ H ρ' H') (hn : D0 ∉ ρ) (hd : H D0 ≠ none) : D0 ∉ ρ' := fun h => hd (x.new D0 h hn)
theorem lc_turn {elt : Ex} {tg : Tg} {ifs : Option Te} {own : List Nat} {env : Env} {σ : L2.St} {H0 : Hp} {ρ1 : Rho} {H1 : Hp} {h : Hd} {J : It} {Q : VK} {st0 : Store} (hK : X.K = F.K) (hi : ∀ i ∈ tgIx tg, i ∈ own)
    (he : RE F.K ρ1 H1 env σ) (hs : SR F.τ F.K ρ1 H1 st0) (hj : HdR F.τ F.K ρ1 H1 h J) (hd : ∀ a, H1 a = none → H0 a = none) (hp : Post F (LsR F.K H0) W (compH h (lcStep C elt tg ifs (Cr.wipe env own)) st0) ρ1 H1 Q) :
    ∀ D0, H1 D0 = none → ∃ Wv : Nat → Nat → Hp → Prop, (∃ m, Wv 0 m (upd H1 D0 (.lst []))) ∧ ∀ i m H, Wv i m H →
      (J.stop i H ∧ Q (.ref D0) H) ∨ (J.go i H ∧ ∃ Nx : Hp → Prop, (∀ H', Nx H' → ∃ m', m' < m ∧ Wv (i + 1) m' H') ∧ ∀ x H', J.yld i H x H' → gT X.K tg x (L2.wipe σ own) H' fun σ2 H2 => L2.wipe σ2 own = L2.wipe σ own ∧ tT F noW (evI C ifs) σ2 H2 fun b H3 =>
        if b = true then tE F noW (evE C elt) σ2 H3 fun y H4 => ∃ acc, H4 D0 = some (.lst acc) ∧ acc.length < sizeLine ∧ Nx (upd H4 D0 (.lst (acc ++ [y]))) else Nx H3) := by
  intro D0 hD0
  have hn0 : D0 ∉ ρ1 := hs.out hD0
  refine ⟨fun i m H => ∃ ρ st acc accV, Ext ρ1 H1 ρ H ∧ SR F.τ F.K ρ H st ∧ H D0 = some (.lst accV) ∧ D0 ∉ ρ ∧ RlL F.K ρ H acc accV ∧ Post F (LsR F.K H0) W (compN (fun st i => h.get st i) (lcStep C elt tg ifs (Cr.wipe env own)) m i acc st) ρ1 H1 Q, ?_, ?_⟩
  · unfold compH at hp
    cases hl : h.len st0 with
    | none => rw [hl] at hp; exact False.elim hp
    | some n =>
      rw [hl] at hp
      obtain ⟨s', e'⟩ := hs.beside (u := .lst []) hD0
      exact ⟨n, ρ1, st0, [], [], e', s', upd_same, hn0, RlL.nil, hp⟩
  · rintro i m H ⟨ρ, st, acc, accV, x, s, hD, hn, r, q⟩
    have hjt := hj ρ H st i x s
    cases m with
    | zero =>
      unfold compN at q
      cases hg : h.get st i with
      | none => rw [hg] at q; exact False.elim q
      | some o =>
        cases o with
        | some d => rw [hg] at q; exact False.elim q
        | none =>
          rw [hg] at q hjt
          exact .inl ⟨hjt, q ρ H (.ref D0) x s ⟨D0, accV, rfl, hD, hn, hd D0 hD0, r⟩⟩
    | succ m =>
      unfold compN at q
      cases hg : h.get st i with
      | none => rw [hg] at q; exact False.elim q
      | some o =>
        cases o with
        | none =>
          rw [hg] at q hjt
          exact .inl ⟨hjt, q ρ H (.ref D0) x s ⟨D0, accV, rfl, hD, hn, hd D0 hD0, r⟩⟩
        | some d =>
          rw [hg] at q hjt
          obtain ⟨go, yl⟩ := hjt
          refine .inr ⟨go, fun H' => ∃ ρ st acc accV, Ext ρ1 H1 ρ H' ∧ SR F.τ F.K ρ H' st ∧ H' D0 = some (.lst accV) ∧ D0 ∉ ρ ∧ RlL F.K ρ H' acc accV ∧ Post F (LsR F.K H0) W (compN (fun st i => h.get st i) (lcStep C elt tg ifs (Cr.wipe env own)) m (i + 1) acc st) ρ1 H1 Q,
            fun H' w => ⟨m, Nat.lt_succ_self m, w⟩, fun v H' y => ?_⟩
          obtain ⟨x2, s2, rd⟩ := yl v H' y
          dsimp only at q
          have hne : ∀ {ρ' H''}, Ext ρ H ρ' H'' → H'' D0 = some (.lst accV) ∧ D0 ∉ ρ' := fun {ρ' H''} z => ⟨z.fr D0 _ hD (.inl hn) (fun _ q => by cases q), z.notin hn (by rw [hD]; simp)⟩
          cases hst : lcStep C elt tg ifs (Cr.wipe env own) d st with
          | exc c fs st' => rw [hst] at q; exact False.elim q
          | err => rw [hst] at q; exact False.elim q
          | ok ov st' =>
            rw [hst] at q
            unfold lcStep at hst
            obtain ⟨env2, st2, b1, hst1⟩ := bnd_inv hst
            have hre : RE F.K ρ H' (Cr.wipe env own) (L2.wipe σ own) := ((he.mono x).mono x2).wipe own
            obtain ⟨est, σ2, ht, he2⟩ := bindTg_ok hre rd b1
            subst est
            obtain ⟨t, st3, b2, hst2⟩ := bnd_inv hst1
            refine ⟨σ2, by rw [hK]; exact ht, ?_, tM_ok he2 s2 b2 fun ρ3 H3 b x3 s3 rb => ?_⟩
            · rw [wipe_tg ht hi, wipe_same σ own own fun _ h => h]
            have rb : t = b := rb
            subst rb
            have x23 := x2.trans x3
            cases t with
            | false =>
              cases hst2
              obtain ⟨k1, k2⟩ := hne x23
              exact ⟨ρ3, st', acc, accV, x.trans x23, s3, k1, k2, RlL.mono x23 _ _ r, q⟩
            | true =>
              obtain ⟨v', st4, b3, hst3⟩ := bnd_inv hst2
              cases hst3
              refine tM_ok (he2.mono x3) s3 b3 fun ρ4 H4 y x4 s4 ry => ?_
              have x24 := x23.trans x4
              obtain ⟨k1, k2⟩ := hne x24
              dsimp only at q
              split at q
              · rename_i hz
                rw [r.len] at hz
                obtain ⟨s5, mo⟩ := s4.side (u' := .lst (accV ++ [y])) k1 (fun _ _ e => by cases e) (fun _ e => by cases e) (fun _ e => by cases e) k2 (fun y hy => (hs.anc y hy).dom D0 hD0)
                exact ⟨accV, k1, sz5' hz, ρ4, st', acc ++ [v'], accV ++ [y], (x.trans x24).side hD0, s5, upd_same, k2, RlL.mo mo _ _ ((RlL.mono x24 _ _ r).append (RlL.cons ry RlL.nil)), q⟩
              · exact False.elim q
/-- a turn of the outer one of two -/
def lc2Step (C : Cl) (elt : Ex) (tg : Tg) (ifs : Option Te) (tg1 : Tg) (it1 : Sq) (ifs1 : Option Te) (own1 : List Nat) (env : Env) (d : D) (acc : List D) : M (List D) :=
  (bindTg tg d env).bnd fun env' => (evI C ifs env').bnd fun t => if t then (evQ C it1 env').bnd fun h1 => compA h1 (lcStep C elt tg1 ifs1 (Cr.wipe env' own1)) acc else M.ret acc
theorem lc2_turn {elt : Ex} {tg tg1 : Tg} {it1 : Sq} {ifs ifs1 : Option Te} {own own1 : List Nat} {env : Env} {σ : L2.St} {H0 : Hp} {ρ1 : Rho} {H1 : Hp} {h : Hd} {J : It} {Q : VK} {st0 : Store} (hK : X.K = F.K) (hi : ∀ i ∈ tgIx tg, i ∈ own) (hi1 : ∀ i ∈ tgIx tg1, i ∈ own1)
    (he : RE F.K ρ1 H1 env σ) (hs : SR F.τ F.K ρ1 H1 st0) (hj : HdR F.τ F.K ρ1 H1 h J) (hd : ∀ a, H1 a = none → H0 a = none) (hp : Post F (LsR F.K H0) W (compHF h (lc2Step C elt tg ifs tg1 it1 ifs1 own1 (Cr.wipe env own)) st0) ρ1 H1 Q) :
    ∀ D0, H1 D0 = none → ∃ Wv : Nat → Nat → Hp → Prop, (∃ m, Wv 0 m (upd H1 D0 (.lst []))) ∧ ∀ i m H, Wv i m H →
      (J.stop i H ∧ Q (.ref D0) H) ∨ (J.go i H ∧ ∃ Nx : Hp → Prop, (∀ H', Nx H' → ∃ m', m' < m ∧ Wv (i + 1) m' H') ∧ ∀ x H', J.yld i H x H' → gT X.K tg x (L2.wipe σ own) H' fun σ2 H2 => L2.wipe σ2 own = L2.wipe σ own ∧ tT F noW (evI C ifs) σ2 H2 fun b H3 =>
        if b = true then tQM F noW (evQ C it1) σ2 H3 fun J1 H4 => ∃ W1 : Nat → Nat → Hp → Prop, (∃ m, W1 0 m H4) ∧ ∀ j k H, W1 j k H →
          (J1.stop j H ∧ Nx H) ∨ (J1.go j H ∧ ∃ Nx1 : Hp → Prop, (∀ H', Nx1 H' → ∃ k', k' < k ∧ W1 (j + 1) k' H') ∧ ∀ x H', J1.yld j H x H' → gT X.K tg1 x (L2.wipe σ2 own1) H' fun σ3 H5 => L2.wipe σ3 own1 = L2.wipe σ2 own1 ∧ tT F noW (evI C ifs1) σ3 H5 fun b H6 =>
            if b = true then tE F noW (evE C elt) σ3 H6 fun y H7 => ∃ acc, H7 D0 = some (.lst acc) ∧ acc.length < sizeLine ∧ Nx1 (upd H7 D0 (.lst (acc ++ [y]))) else Nx1 H6)
        else Nx H3) := by
  intro D0 hD0
  have hn0 : D0 ∉ ρ1 := hs.out hD0
  refine ⟨fun i m H => ∃ ρ st acc accV, Ext ρ1 H1 ρ H ∧ SR F.τ F.K ρ H st ∧ H D0 = some (.lst accV) ∧ D0 ∉ ρ ∧ RlL F.K ρ H acc accV ∧ Post F (LsR F.K H0) W (compF (fun st i => h.get st i) (lc2Step C elt tg ifs tg1 it1 ifs1 own1 (Cr.wipe env own)) m i acc st) ρ1 H1 Q, ?_, ?_⟩
  · unfold compHF at hp
    cases hl : h.len st0 with
    | none => rw [hl] at hp; exact False.elim hp
    | some n =>
      rw [hl] at hp
      obtain ⟨s', e'⟩ := hs.beside (u := .lst []) hD0
      exact ⟨n, ρ1, st0, [], [], e', s', upd_same, hn0, RlL.nil, hp⟩
  · rintro i m H ⟨ρ, st, acc, accV, x, s, hD, hn, r, q⟩
    have hjt := hj ρ H st i x s
    cases m with
    | zero =>
      unfold compF at q
      cases hg : h.get st i with
      | none => rw [hg] at q; exact False.elim q
      | some o =>
        cases o with
        | some d => rw [hg] at q; exact False.elim q
        | none =>
          rw [hg] at q hjt
          exact .inl ⟨hjt, q ρ H (.ref D0) x s ⟨D0, accV, rfl, hD, hn, hd D0 hD0, r⟩⟩
    | succ m =>
      unfold compF at q
      cases hg : h.get st i with
      | none => rw [hg] at q; exact False.elim q
      | some o =>
        cases o with
        | none =>
          rw [hg] at q hjt
          exact .inl ⟨hjt, q ρ H (.ref D0) x s ⟨D0, accV, rfl, hD, hn, hd D0 hD0, r⟩⟩
        | some d =>
          rw [hg] at q hjt
          obtain ⟨go, yl⟩ := hjt
          refine .inr ⟨go, fun H' => ∃ ρ st acc accV, Ext ρ1 H1 ρ H' ∧ SR F.τ F.K ρ H' st ∧ H' D0 = some (.lst accV) ∧ D0 ∉ ρ ∧ RlL F.K ρ H' acc accV ∧ Post F (LsR F.K H0) W (compF (fun st i => h.get st i) (lc2Step C elt tg ifs tg1 it1 ifs1 own1 (Cr.wipe env own)) m (i + 1) acc st) ρ1 H1 Q,
            fun H' w => ⟨m, Nat.lt_succ_self m, w⟩, fun v H' y => ?_⟩
          obtain ⟨x2, s2, rd⟩ := yl v H' y
          dsimp only at q
          have hne : ∀ {ρ' H''}, Ext ρ H ρ' H'' → H'' D0 = some (.lst accV) ∧ D0 ∉ ρ' := fun {ρ' H''} z => ⟨z.fr D0 _ hD (.inl hn) (fun _ q => by cases q), z.notin hn (by rw [hD]; simp)⟩
          cases hst : lc2Step C elt tg ifs tg1 it1 ifs1 own1 (Cr.wipe env own) d acc st with
          | exc c fs st' => rw [hst] at q; exact False.elim q
          | err => rw [hst] at q; exact False.elim q
          | ok accE stE =>
            rw [hst] at q
            unfold lc2Step at hst
            obtain ⟨env2, st2, b1, hst1⟩ := bnd_inv hst
            have hre : RE F.K ρ H' (Cr.wipe env own) (L2.wipe σ own) := ((he.mono x).mono x2).wipe own
            obtain ⟨est, σ2, ht, he2⟩ := bindTg_ok hre rd b1
            subst est
            obtain ⟨t, st3, b2, hst2⟩ := bnd_inv hst1
            refine ⟨σ2, by rw [hK]; exact ht, ?_, tM_ok he2 s2 b2 fun ρ3 H3 b x3 s3 rb => ?_⟩
            · rw [wipe_tg ht hi, wipe_same σ own own fun _ h => h]
            have rb : t = b := rb
            subst rb
            have x23 := x2.trans x3
            cases t with
            | false =>
              cases hst2
              obtain ⟨k1, k2⟩ := hne x23
              exact ⟨ρ3, stE, acc, accV, x.trans x23, s3, k1, k2, RlL.mono x23 _ _ r, q⟩
            | true =>
              obtain ⟨h1, st4, b3, hst3⟩ := bnd_inv hst2
              refine tM_ok (he2.mono x3) s3 b3 fun ρ4 H4 J1 x4 s4 hj1 => ?_
              have x24 := x23.trans x4
              obtain ⟨k1, k2⟩ := hne x24
              have he4 : RE F.K ρ4 H4 env2 σ2 := (he2.mono x3).mono x4
              have pos0 : ∀ (l : Nat) (a : Addr), ρ4[l]? = some a → ρ4[l]? = some a := fun _ _ z => z
              refine ⟨fun j k H => ∃ ρ st accI accIV, Ext ρ1 H1 ρ H ∧ Mo ρ4 ρ H4 H ∧ SR F.τ F.K ρ H st ∧ H D0 = some (.lst accIV) ∧ D0 ∉ ρ ∧ RlL F.K ρ H accI accIV ∧ compN (fun st i => h1.get st i) (lcStep C elt tg1 ifs1 (Cr.wipe env2 own1)) k j accI st = .ok accE stE, ?_, ?_⟩
              · unfold compA at hst3
                cases hl : h1.len st4 with
                | none => rw [hl] at hst3; cases hst3
                | some n =>
                  rw [hl] at hst3
                  exact ⟨n, ρ4, st4, acc, accV, x.trans x24, (Ext.refl ρ4 H4).mo, s4, k1, k2, RlL.mono x24 _ _ r, hst3⟩
              · rintro j k H ⟨ρ, st, accI, accIV, xI, mI, sI, hDI, hnI, rI, qI⟩
                have hjt1 := hj1 ρ H st j mI sI
                cases k with
                | zero =>
                  unfold compN at qI
                  cases hg : h1.get st j with
                  | none => rw [hg] at qI; cases qI
                  | some o =>
                    cases o with
                    | some d => rw [hg] at qI; cases qI
                    | none =>
                      rw [hg] at qI hjt1
                      cases qI
                      exact .inl ⟨hjt1, ρ, stE, accE, accIV, xI, sI, hDI, hnI, rI, q⟩
                | succ k =>
                  unfold compN at qI
                  cases hg : h1.get st j with
                  | none => rw [hg] at qI; cases qI
                  | some o =>
                    cases o with
                    | none =>
                      rw [hg] at qI hjt1
                      cases qI
                      exact .inl ⟨hjt1, ρ, stE, accE, accIV, xI, sI, hDI, hnI, rI, q⟩
                    | some d1 =>
                      rw [hg] at qI hjt1
                      obtain ⟨go1, yl1⟩ := hjt1
                      refine .inr ⟨go1, fun H => ∃ ρ st accI accIV, Ext ρ1 H1 ρ H ∧ Mo ρ4 ρ H4 H ∧ SR F.τ F.K ρ H st ∧ H D0 = some (.lst accIV) ∧ D0 ∉ ρ ∧ RlL F.K ρ H accI accIV ∧ compN (fun st i => h1.get st i) (lcStep C elt tg1 ifs1 (Cr.wipe env2 own1)) k (j + 1) accI st = .ok accE stE,
                        fun H' w => ⟨k, Nat.lt_succ_self k, w⟩, fun v1 H5 y1 => ?_⟩
                      obtain ⟨x5, s5, rd1⟩ := yl1 v1 H5 y1
                      dsimp only at qI
                      have hneI : ∀ {ρ' H''}, Ext ρ H ρ' H'' → H'' D0 = some (.lst accIV) ∧ D0 ∉ ρ' := fun {ρ' H''} z => ⟨z.fr D0 _ hDI (.inl hnI) (fun _ q => by cases q), z.notin hnI (by rw [hDI]; simp)⟩
                      cases hstI : lcStep C elt tg1 ifs1 (Cr.wipe env2 own1) d1 st with
                      | exc c fs st' => rw [hstI] at qI; cases qI
                      | err => rw [hstI] at qI; cases qI
                      | ok ov st' =>
                        rw [hstI] at qI
                        unfold lcStep at hstI
                        obtain ⟨env3, st6, b5, hstI1⟩ := bnd_inv hstI
                        have hre1 : RE F.K ρ H5 (Cr.wipe env2 own1) (L2.wipe σ2 own1) := ((RE.mo mI he4).mono x5).wipe own1
                        obtain ⟨est, σ3, ht1, he5⟩ := bindTg_ok hre1 rd1 b5
                        subst est
                        obtain ⟨t1, st7, b6, hstI2⟩ := bnd_inv hstI1
                        refine ⟨σ3, by rw [hK]; exact ht1, ?_, tM_ok he5 s5 b6 fun ρ6 H6 b x6 s6 rb => ?_⟩
                        · rw [wipe_tg ht1 hi1, wipe_same σ2 own1 own1 fun _ h => h]
                        have rb : t1 = b := rb
                        subst rb
                        have x56 := x5.trans x6
                        cases t1 with
                        | false =>
                          cases hstI2
                          obtain ⟨k1, k2⟩ := hneI x56
                          exact ⟨ρ6, st', accI, accIV, xI.trans x56, mI.trans x56.mo, s6, k1, k2, RlL.mono x56 _ _ rI, qI⟩
                        | true =>
                          obtain ⟨v', st8, b7, hstI3⟩ := bnd_inv hstI2
                          cases hstI3
                          refine tM_ok (he5.mono x6) s6 b7 fun ρ7 H7 y x7 s7 ry => ?_
                          have x57 := x56.trans x7
                          obtain ⟨k1, k2⟩ := hneI x57
                          dsimp only at qI
                          split at qI
                          · rename_i hz
                            rw [rI.len] at hz
                            obtain ⟨s8, mo⟩ := s7.side (u' := .lst (accIV ++ [y])) k1 (fun _ _ e => by cases e) (fun _ e => by cases e) (fun _ e => by cases e) k2 (fun y hy => (hs.anc y hy).dom D0 hD0)
                            exact ⟨accIV, k1, sz5' hz, ρ7, st', accI ++ [v'], accIV ++ [y], (xI.trans x57).side hD0, (mI.trans x57.mo).trans mo, s8, upd_same, k2, RlL.mo mo _ _ ((RlL.mono x57 _ _ rI).append (RlL.cons ry RlL.nil)), qI⟩
                          · cases qI
variable {e elt iter tgE : Expr} {xe : Ex} {tg : Tg} {it : Sq} {ifs : Option Te} {ifsE : List Expr} {scope : Scope} {own : List (Str × Nat)} {pos : Pos}
theorem pts_ok {Y : Cx} (h : match ifs, ifsE with
    | none, [] => True
    | some t, [c] => PT Y c (tT F noW (evT C t))
    | _, _ => False) : PTs Y ifsE (tT F noW (evI C ifs)) := by
  cases ifs with
  | none =>
    cases ifsE with
    | nil => exact ⟨fun pins s σ H Q I ⟨env, st, ρ, he, hs, hp⟩ => pts_nil.run pins s σ H Q I (hp.ret hs rfl)⟩
    | cons _ _ => exact h.elim
  | some t =>
    cases ifsE with
    | nil => exact h.elim
    | cons c r =>
      cases r with
      | nil => exact pts_one h
      | cons _ _ => exact h.elim
def notSet : Expr → Bool
  | .Set _ _ _ => false
  | _ => true
theorem folded_eq {e : Expr} (h : notSet e = true) (env : PySem.Env) (x : Value) : foldedSetIterable e env x = pure x := by
  cases e <;> first | rfl | cases h
/-- a block's own context -/
abbrev Blk (X : Cx) (scope : Scope) (s : Shared) (H : Hp) (A : Addr) (cl : List (Str × Addr)) (fp : List Addr) : Cx := X.blk s H scope (compEnvC scope cl A X.env) fp
theorem lc_read {σ : L2.St} {Q : VK} (g : Gx F X) (hix : ∀ i ∈ tgIx tg, i ∈ own.map (·.2)) (h : tL F W (evN C (.lc xe tg it ifs (own.map (·.2)))) σ H Q) :
    tLc (tQ F W (evQ C it)) (gT X.K tg) (tT F noW (evI C ifs)) (tE F noW (evE C xe)) (own.map (·.2)) σ H Q :=
  tM.stepX h fun env h J st1 ρ0 ρ1 H1 x1 he hs hj q => lc_turn g.K hix he hs hj x1.dom q
theorem pL_lc (g : Gx F X) (nd : X.N.Nodup) (hi : PI X tgE iter (tQ F W (evQ C it))) (ok : BlkOk X.N X.env.scope scope own) (hg : ∀ s H A cl fp, PG (Blk X scope s H A cl fp) tgE (gT X.K tg)) (ht : ∀ s H A cl fp, PTs (Blk X scope s H A cl fp) ifsE (tT F noW (evI C ifs)))
    (he : ∀ s H A cl fp, PE (Blk X scope s H A cl fp) elt (tE F noW (evE C xe))) (hs : notSet iter = true) (hix : ∀ i ∈ tgIx tg, i ∈ own.map (·.2)) : PE X (.ListComp elt [⟨tgE, iter, ifsE, 0⟩] scope pos) (tL F W (evN C (.lc xe tg it ifs (own.map (·.2))))) :=
  (pe_lc g.calm nd hi ok hg ht he (folded_eq hs X.env)).imp fun σ H Q h => lc_read g hix h
theorem lc2_read {tg1 : Tg} {it1 : Sq} {ifs1 : Option Te} {own1 : List Nat} {σ : L2.St} {Q : VK} (g : Gx F X) (hix : ∀ i ∈ tgIx tg, i ∈ own.map (·.2)) (hix1 : ∀ i ∈ tgIx tg1, i ∈ own1) (h : tL F W (evN C (.lc2 xe tg it ifs tg1 it1 ifs1 (own.map (·.2)) own1)) σ H Q) :
    tLc2 (tQ F W (evQ C it)) (gT X.K tg) (tT F noW (evI C ifs)) (tQM F noW (evQ C it1)) (gT X.K tg1) (tT F noW (evI C ifs1)) (tE F noW (evE C xe)) (own.map (·.2)) own1 σ H Q :=
  tM.stepX h fun env h J st1 ρ0 ρ1 H1 x1 he hs hj q => lc2_turn g.K hix hix1 he hs hj x1.dom q
theorem pL_lc2 {tgE1 iter1 : Expr} {ifsE1 : List Expr} {tg1 : Tg} {it1 : Sq} {ifs1 : Option Te} {own1 : List Nat} (g : Gx F X) (nd : X.N.Nodup) (hi : PI X tgE iter (tQ F W (evQ C it))) (ok : BlkOk X.N X.env.scope scope own) (hv : ∀ i ∈ own1, i ∈ own.map (·.2)) (hg : ∀ s H A cl fp, PG (Blk X scope s H A cl fp) tgE (gT X.K tg)) (ht : ∀ s H A cl fp, PTs (Blk X scope s H A cl fp) ifsE (tT F noW (evI C ifs)))
    (hi1 : ∀ s H A cl fp, PI (Blk X scope s H A cl fp) tgE1 iter1 (tQM F noW (evQ C it1))) (hg1 : ∀ s H A cl fp, PG (Blk X scope s H A cl fp) tgE1 (gT X.K tg1)) (ht1 : ∀ s H A cl fp, PTs (Blk X scope s H A cl fp) ifsE1 (tT F noW (evI C ifs1)))
    (he : ∀ s H A cl fp, PE (Blk X scope s H A cl fp) elt (tE F noW (evE C xe))) (hs : notSet iter = true) (hs1 : notSet iter1 = true) (hix : ∀ i ∈ tgIx tg, i ∈ own.map (·.2)) (hix1 : ∀ i ∈ tgIx tg1, i ∈ own1) : PE X (.ListComp elt [⟨tgE, iter, ifsE, 0⟩, ⟨tgE1, iter1, ifsE1, 0⟩] scope pos) (tL F W (evN C (.lc2 xe tg it ifs tg1 it1 ifs1 (own.map (·.2)) own1))) :=
  (pe_lc2 g.calm nd hi ok hv hg ht hi1 hg1 ht1 he (folded_eq hs X.env) (folded_eq hs1)).imp fun σ H Q h => lc2_read g hix hix1 h
theorem sameK_eq {k a : D} {kk ka : Key} (h1 : keyOf k = some kk) (h2 : keyOf a = some ka) : sameK k a = decide (ka = kk) := by
  cases k with
  | int i =>
    cases h1
    cases a with
    | int j =>
      cases h2
      show decide (i = j) = _
      by_cases e : i = j
      · subst e; simp
      · rw [decide_eq_false e, decide_eq_false fun z => e (Sum.inl.inj z).symm]
    | str y => cases h2; rfl
    | _ => cases h2
  | str x =>
    cases h1
    cases a with
    | str y =>
      cases h2
      show decide (x = y) = _
      by_cases e : x = y
      · subst e; simp
      · rw [decide_eq_false e, decide_eq_false fun z => e (Sum.inr.inj z).symm]
    | int j => cases h2; rfl
    | _ => cases h2
  | _ => cases h1
theorem RlK.len : ∀ {kvs : List (D × D)} {ws : List (Key × V)}, RlK K ρ H kvs ws → kvs.length = ws.length
  | [], _, h => by rw [show _ = [] from h]; rfl
  | p :: r, _, ⟨k, v, t, e, _, _, h3⟩ => by subst e; simp [h3.len]
theorem RlK.any {k : D} {kk : Key} (hk : keyOf k = some kk) : ∀ {kvs : List (D × D)} {ws : List (Key × V)}, RlK K ρ H kvs ws → kvs.any (fun p => sameK k p.1) = ws.any fun kv => decide (kv.1 = kk)
  | [], _, h => by rw [show _ = [] from h]; rfl
  | p :: r, _, ⟨k2, v, t, e, h1, h2, h3⟩ => by
    subst e
    rw [List.any_cons, List.any_cons, RlK.any hk h3, sameK_eq hk h1]
theorem RlK.map {k d : D} {kk : Key} {v : V} (hk : keyOf k = some kk) (rd : Rl K ρ H d v) : ∀ {kvs : List (D × D)} {ws : List (Key × V)}, RlK K ρ H kvs ws → RlK K ρ H (kvs.map fun p => if sameK k p.1 then (p.1, d) else p) (ws.map fun kv => if kv.1 = kk then (kv.1, v) else kv)
  | [], _, h => by rw [show _ = [] from h]; rfl
  | p :: r, _, ⟨k2, v2, t, e, h1, h2, h3⟩ => by
    subst e
    have ih := RlK.map hk rd h3
    show RlK K ρ H ((if sameK k p.1 then (p.1, d) else p) :: _) ((if k2 = kk then (k2, v) else (k2, v2)) :: _)
    rw [sameK_eq hk h1]
    by_cases hh : k2 = kk
    · rw [if_pos (decide_eq_true hh), if_pos hh]
      exact ⟨k2, v, _, rfl, h1, rd, ih⟩
    · rw [if_neg (by simpa using hh), if_neg hh]
      exact ⟨k2, v2, _, rfl, h1, h2, ih⟩
theorem RlK.snoc {k d : D} {kk : Key} {v : V} (hk : keyOf k = some kk) (rd : Rl K ρ H d v) : ∀ {kvs : List (D × D)} {ws : List (Key × V)}, RlK K ρ H kvs ws → RlK K ρ H (kvs ++ [(k, d)]) (ws ++ [(kk, v)])
  | [], _, h => by
    rw [show _ = [] from h]
    exact ⟨kk, v, [], rfl, hk, rd, rfl⟩
  | p :: r, _, ⟨k2, v2, t, e, h1, h2, h3⟩ => by
    subst e
    exact ⟨k2, v2, _, rfl, h1, h2, RlK.snoc hk rd h3⟩
theorem RlK.put {k d : D} {kk : Key} {v : V} {kvs : List (D × D)} {ws : List (Key × V)} (h : RlK K ρ H kvs ws) (hk : keyOf k = some kk) (rd : Rl K ρ H d v) : RlK K ρ H (dput k d kvs) (putK ws kk v) := by
  unfold dput putK
  rw [RlK.any hk h]
  split
  · exact RlK.map hk rd h
  · exact RlK.snoc hk rd h
theorem keyD_of {k : D} (h : keyD k = true) : ∃ kk, keyOf k = some kk := by
  cases k <;> first | exact ⟨_, rfl⟩ | cases h
theorem SR.enterO {st : Store} {a : Addr} {o : SO} (s : SR τ K ρ H st) (n : a ∉ ρ) (r : RO K ρ H a o) (ha : ∀ x, τ.anc = some x → x.2 a = none) : SR τ K (ρ ++ [a]) H (st ++ [o]) := by
  have mo : Mo ρ (ρ ++ [a]) H H := ⟨fun l b q => by
    obtain ⟨hl, _⟩ := List.getElem?_eq_some_iff.mp q
    rw [List.getElem?_append_left hl]; exact q, fun _ _ _ q => q⟩
  have split : ∀ (l : Nat) (q : SO) (b : Addr), (st ++ [o])[l]? = some q → (ρ ++ [a])[l]? = some b → (st[l]? = some q ∧ ρ[l]? = some b) ∨ (l = st.length ∧ b = a ∧ q = o) := fun l q b h1 h2 => by
    by_cases hl : l < st.length
    · rw [List.getElem?_append_left hl] at h1
      rw [List.getElem?_append_left (by rw [s.len]; exact hl)] at h2
      exact .inl ⟨h1, h2⟩
    · have hle : st.length ≤ l := Nat.le_of_not_lt hl
      rw [List.getElem?_append_right hle] at h1
      rw [List.getElem?_append_right (by rw [s.len]; exact hle), s.len] at h2
      cases hk : l - st.length with
      | zero => rw [hk] at h1 h2; simp at h1 h2; exact .inr ⟨by omega, h2.symm, h1.symm⟩
      | succ k => rw [hk] at h1; simp at h1
  refine ⟨by simp [s.len], fun l q b h1 h2 => ?_, fun l m q w b h1 h2 _ _ h5 h6 => ?_, s.tab, fun x hx => (s.anc x hx).plus (ha x hx)⟩
  · rcases split l q b h1 h2 with ⟨a1, a2⟩ | ⟨_, rfl, rfl⟩
    · exact RO.mo mo (s.obj l q b a1 a2) fun _ _ e => e
    · exact RO.mo mo r fun _ _ e => e
  · rcases split l q b h1 h5 with ⟨a1, a2⟩ | ⟨a1, a2, _⟩ <;> rcases split m w b h2 h6 with ⟨b1, b2⟩ | ⟨b1, b2, _⟩
    · exact s.inj l m q w b a1 b1 rfl rfl a2 b2
    · rw [b2] at a2; exact absurd (List.mem_of_getElem? a2) n
    · rw [a2] at b2; exact absurd (List.mem_of_getElem? b2) n
    · omega
theorem Ext.entered {ρ' : Rho} {H' : Hp} {a : Addr} (x : Ext ρ H ρ' H') (h0 : H a = none) : Ext ρ H (ρ' ++ [a]) H' := by
  refine ⟨?_, x.fr, fun b hb hn => ?_, x.dom⟩
  · obtain ⟨k, rfl⟩ := x.pre
    exact ⟨k ++ [a], by simp⟩
  · rcases List.mem_append.mp hb with z | z
    · exact x.new b z hn
    · have : b = a := by simpa using z
      rw [this]; exact h0
theorem Post.dictNew {st : Store} {kvs : List (D × D)} {ws : List (Key × V)} {a : Addr} {Q : VK} {ρ1 : Rho} {H1 : Hp} (h : Post F (Rl F.K) W (alloc (.dict kvs) st) ρ1 H1 Q) (x : Ext ρ1 H1 ρ H) (s : SR F.τ F.K ρ H st) (h0 : H1 a = none) (ha : ∀ x, F.τ.anc = some x → x.2 a = none) (n : a ∉ ρ) (hd : H a = some (.dK ws)) (r : RlK F.K ρ H kvs ws) : Q (.ref a) H := by
  refine h (ρ ++ [a]) H (.ref a) (x.entered h0) (s.enterO n ⟨ws, hd, r⟩ ha) ?_
  unfold Rl
  exact ⟨a, by rw [← s.len]; simp, rfl⟩
def dcStep (C : Cl) (k v : Ex) (tg : Tg) (env : Env) (d : D) : M (D × D) :=
  (bindTg tg d env).bnd fun env' => (evE C k env').bnd fun a => (evE C v env').bnd fun b => M.ret (a, b)
theorem tYes_ok {σ : L2.St} {H : Hp} {A B : Hp → Prop} (h : A H) : tYes σ H (fun b H3 => if b = true then A H3 else B H3) := by
  show if true = true then A H else B H
  rw [if_pos rfl]; exact h
theorem dc_turn {xk xv : Ex} {own : List Nat} {env : Env} {σ : L2.St} {ρ1 : Rho} {H1 : Hp} {h : Hd} {J : It} {Q : VK} {st0 : Store} (hK : X.K = F.K) (hi : ∀ i ∈ tgIx tg, i ∈ own)
    (he : RE F.K ρ1 H1 env σ) (hs : SR F.τ F.K ρ1 H1 st0) (hj : HdR F.τ F.K ρ1 H1 h J) (hp : Post F (Rl F.K) W ((compHD h (dcStep C xk xv tg (Cr.wipe env own))).bnd (fun kvs => alloc (.dict kvs)) st0) ρ1 H1 Q) :
    ∀ D0, H1 D0 = none → ∃ Wv : Nat → Nat → Hp → Prop, (∃ m, Wv 0 m (upd H1 D0 (.dK []))) ∧ ∀ i m H, Wv i m H →
      (J.stop i H ∧ Q (.ref D0) H) ∨ (J.go i H ∧ ∃ Nx : Hp → Prop, (∀ H', Nx H' → ∃ m', m' < m ∧ Wv (i + 1) m' H') ∧ ∀ x H', J.yld i H x H' → gT X.K tg x (L2.wipe σ own) H' fun σ2 H2 => L2.wipe σ2 own = L2.wipe σ own ∧ tYes σ2 H2 fun b H3 =>
        if b = true then tE F noW (evE C xk) σ2 H3 fun y H4 => tE F noW (evE C xv) σ2 H4 fun z H5 => ∃ kvs k, y = kV k ∧ H5 D0 = some (.dK kvs) ∧ kvs.length < sizeLine ∧ Nx (upd H5 D0 (.dK (putK kvs k z))) else Nx H3) := by
  intro D0 hD0
  have hn0 : D0 ∉ ρ1 := hs.out hD0
  refine ⟨fun i m H => ∃ ρ st acc accV, Ext ρ1 H1 ρ H ∧ SR F.τ F.K ρ H st ∧ H D0 = some (.dK accV) ∧ D0 ∉ ρ ∧ RlK F.K ρ H acc accV ∧ Post F (Rl F.K) W ((compD (fun st i => h.get st i) (dcStep C xk xv tg (Cr.wipe env own)) m i acc).bnd (fun kvs => alloc (.dict kvs)) st) ρ1 H1 Q, ?_, ?_⟩
  · unfold M.bnd compHD at hp
    cases hl : h.len st0 with
    | none => rw [hl] at hp; exact False.elim hp
    | some n =>
      rw [hl] at hp
      obtain ⟨s', e'⟩ := hs.beside (u := .dK []) hD0
      exact ⟨n, ρ1, st0, [], [], e', s', upd_same, hn0, rfl, hp⟩
  · rintro i m H ⟨ρ, st, acc, accV, x, s, hD, hn, r, q⟩
    have hjt := hj ρ H st i x s
    have stop : ∀ {q : Post F (Rl F.K) W (alloc (.dict acc) st) ρ1 H1 Q}, Q (.ref D0) H := fun {q} => q.dictNew x s hD0 (fun y hy => (hs.anc y hy).dom D0 hD0) hn hD r
    cases m with
    | zero =>
      unfold M.bnd compD at q
      cases hg : h.get st i with
      | none => rw [hg] at q; exact False.elim q
      | some o =>
        cases o with
        | some d => rw [hg] at q; exact False.elim q
        | none =>
          rw [hg] at q hjt
          exact .inl ⟨hjt, stop (q := q)⟩
    | succ m =>
      unfold M.bnd compD at q
      cases hg : h.get st i with
      | none => rw [hg] at q; exact False.elim q
      | some o =>
        cases o with
        | none =>
          rw [hg] at q hjt
          exact .inl ⟨hjt, stop (q := q)⟩
        | some d =>
          rw [hg] at q hjt
          obtain ⟨go, yl⟩ := hjt
          refine .inr ⟨go, fun H' => ∃ ρ st acc accV, Ext ρ1 H1 ρ H' ∧ SR F.τ F.K ρ H' st ∧ H' D0 = some (.dK accV) ∧ D0 ∉ ρ ∧ RlK F.K ρ H' acc accV ∧ Post F (Rl F.K) W ((compD (fun st i => h.get st i) (dcStep C xk xv tg (Cr.wipe env own)) m (i + 1) acc).bnd (fun kvs => alloc (.dict kvs)) st) ρ1 H1 Q,
            fun H' w => ⟨m, Nat.lt_succ_self m, w⟩, fun v H' y => ?_⟩
          obtain ⟨x2, s2, rd⟩ := yl v H' y
          dsimp only at q
          have hne : ∀ {ρ' H''}, Ext ρ H ρ' H'' → H'' D0 = some (.dK accV) ∧ D0 ∉ ρ' := fun {ρ' H''} z => ⟨z.fr D0 _ hD (.inl hn) (fun _ q => by cases q), z.notin hn (by rw [hD]; simp)⟩
          cases hst : dcStep C xk xv tg (Cr.wipe env own) d st with
          | exc c fs st' => rw [hst] at q; exact False.elim q
          | err => rw [hst] at q; exact False.elim q
          | ok ov st' =>
            rw [hst] at q
            unfold dcStep at hst
            obtain ⟨env2, st2, b1, hst1⟩ := bnd_inv hst
            have hre : RE F.K ρ H' (Cr.wipe env own) (L2.wipe σ own) := ((he.mono x).mono x2).wipe own
            obtain ⟨est, σ2, ht, he2⟩ := bindTg_ok hre rd b1
            subst est
            obtain ⟨kd, st3, b2, hst2⟩ := bnd_inv hst1
            obtain ⟨vd, st4, b3, hst3⟩ := bnd_inv hst2
            cases hst3
            refine ⟨σ2, by rw [hK]; exact ht, ?_, ?_⟩
            · rw [wipe_tg ht hi, wipe_same σ own own fun _ h => h]
            refine tYes_ok ?_
            refine tM_ok he2 s2 b2 fun ρ3 H3 y x3 s3 ry => tM_ok (he2.mono x3) s3 b3 fun ρ4 H4 z x4 s4 rz => ?_
            have x24 := (x2.trans x3).trans x4
            obtain ⟨k1, k2⟩ := hne x24
            dsimp only at q
            by_cases hc : (keyD kd && decide (acc.length < 100000)) = true
            · rw [if_pos hc] at q
              simp only [Bool.and_eq_true, decide_eq_true_eq] at hc
              obtain ⟨kk, hk⟩ := keyD_of hc.1
              have hz := hc.2
              rw [r.len] at hz
              obtain ⟨s5, mo⟩ := s4.side (u' := .dK (putK accV kk z)) k1 (fun _ _ e => by cases e) (fun _ e => by cases e) (fun _ e => by cases e) k2 (fun y hy => (hs.anc y hy).dom D0 hD0)
              exact ⟨accV, kk, keyOf_kV (Rl.mono x4 _ _ ry) hk, k1, sz5' hz, ρ4, st', dput kd vd acc, putK accV kk z, (x.trans x24).side hD0, s5, upd_same, k2, RlK.mo mo _ _ ((RlK.mono x24 _ _ r).put hk rz), q⟩
            · rw [if_neg hc] at q
              exact False.elim q
theorem dc_read {xk xv : Ex} {σ : L2.St} {Q : VK} (g : Gx F X) (hix : ∀ i ∈ tgIx tg, i ∈ own.map (·.2)) (h : tE F W (evE C (.dc xk xv tg it (own.map (·.2)))) σ H Q) :
    tDc (tQ F W (evQ C it)) (gT X.K tg) tYes (tE F noW (evE C xk)) (tE F noW (evE C xv)) (own.map (·.2)) σ H Q :=
  tM.step h fun env h J st1 ρ1 H1 he hs hj q => dc_turn g.K hix he hs hj q
theorem pE_dc {kx vx : Expr} {xk xv : Ex} (g : Gx F X) (nd : X.N.Nodup) (hi : PI X tgE iter (tQ F W (evQ C it))) (ok : BlkOk X.N X.env.scope scope own) (hg : ∀ s H A cl fp, PG (Blk X scope s H A cl fp) tgE (gT X.K tg))
    (hk : ∀ s H A cl fp, PE (Blk X scope s H A cl fp) kx (tE F noW (evE C xk))) (hv : ∀ s H A cl fp, PE (Blk X scope s H A cl fp) vx (tE F noW (evE C xv))) (hs : notSet iter = true) (hix : ∀ i ∈ tgIx tg, i ∈ own.map (·.2)) :
    PE X (.DictComp kx vx [⟨tgE, iter, [], 0⟩] scope pos) (tE F W (evE C (.dc xk xv tg it (own.map (·.2))))) :=
  (pe_dc g.calm nd hi ok hg (fun _ _ _ _ _ => pts_nil) hk hv (folded_eq hs X.env)).imp fun σ H Q h => dc_read g hix h
def trs (F : Cf) (W : VW) (C : Cl) : List Ex → List (TE × TE)
  | k :: v :: r => (tE F W (evE C k), tE F W (evE C v)) :: trs F W C r
  | _ => []
def pairsV : List V → List (V × V)
  | x :: y :: r => (x, y) :: pairsV r
  | _ => []
theorem bnd_assoc {α β γ : Type} (m : M α) (f : α → M β) (g : β → M γ) : (m.bnd f).bnd g = m.bnd fun a => (f a).bnd g := by
  funext st
  unfold M.bnd
  cases m st <;> rfl
theorem ret_bnd {α β : Type} (a : α) (f : α → M β) : (M.ret a).bnd f = f a := rfl
theorem pairs_of : ∀ {es : List Ex} {σ : L2.St} {H : Hp} {Q : List (V × V) → Hp → Prop}, es.length % 2 = 0 → tA F W (evEs C es) σ H (fun vs H' => Q (pairsV vs) H') → tPairs (trs F W C es) σ H Q
  | [], σ, H, Q, _, ⟨env, st, ρ, he, hs, hp⟩ => hp.ret hs RlL.nil
  | [_], _, _, _, h, _ => by simp at h
  | a :: b :: r, σ, H, Q, hl, h => by
    refine tM.step (m := evE C a) (k := fun env x => (evEs C (b :: r) env).bnd fun xs => M.ret (x :: xs)) h fun env x v st1 ρ1 H1 he hs rx q => ?_
    have q : Post F (RlL F.K) W (((evE C b env).bnd fun y => (evEs C r env).bnd fun ys => M.ret (x :: y :: ys)) st1) ρ1 H1 (fun vs H' => Q (pairsV vs) H') := by
      have e : ((evE C b env).bnd fun y => (evEs C r env).bnd fun ys => M.ret (x :: y :: ys)) = (evEs C (b :: r) env).bnd fun xs => M.ret (x :: xs) := by
        show _ = ((evE C b env).bnd fun y => (evEs C r env).bnd fun ys => M.ret (y :: ys)).bnd _
        rw [bnd_assoc]
        congr 1
        funext y
        rw [bnd_assoc]
        rfl
      rw [e]; exact q
    refine ⟨env, st1, ρ1, he, hs, q.bnd.imp fun u H2 ⟨y, st2, ρ2, x2, s2, ry, q2⟩ => pairs_of (by simp only [List.length_cons] at hl; omega) ⟨env, st2, ρ2, he.mono x2, s2, q2.bnd.imp fun vs H3 ⟨ds, st3, ρ3, x3, s3, rs, q3⟩ => ?_⟩⟩
    exact q3.ret (v := v :: u :: vs) s3 (RlL.cons (Rl.mono x3 _ _ (Rl.mono x2 _ _ rx)) (RlL.cons (Rl.mono x3 _ _ ry) rs))
theorem dispD_ok : ∀ {ds : List D} {vs : List V} {acc kvs : List (D × D)} {accV : List (Key × V)}, RlL K ρ H ds vs → RlK K ρ H acc accV → dispD ds acc = some kvs →
    ∃ ks : List (Key × V), pairsV vs = ks.map (fun kv => (kV kv.1, kv.2)) ∧ ks.length * 2 = ds.length ∧ RlK K ρ H kvs (mergeK accV ks)
  | [], _, acc, kvs, accV, h, r, e => by
    cases e
    rw [h.nil_inv]
    exact ⟨[], rfl, rfl, r⟩
  | [_], _, _, _, _, _, _, e => by cases e
  | k :: v :: rest, vs, acc, kvs, accV, h, r, e => by
    obtain ⟨x, t, rfl, rx, h⟩ := h.cons_inv
    obtain ⟨y, t, rfl, ry, h⟩ := h.cons_inv
    simp only [dispD] at e
    split at e
    · rename_i hk
      obtain ⟨kk, hk⟩ := keyD_of hk
      obtain ⟨ks, e1, e2, e3⟩ := dispD_ok h (r.put hk ry) e
      refine ⟨(kk, y) :: ks, ?_, by simp; omega, e3⟩
      show (x, y) :: pairsV t = _
      rw [e1, keyOf_kV rx hk]; rfl
    · cases e
theorem dispB_ok (ds : List D) (st : Store) : dispB ds st = .err ∨ ∃ kvs, dispB ds st = .ok kvs st ∧ ds.length ≤ 30 ∧ dispD ds [] = some kvs := by
  unfold dispB
  split
  · rename_i hz
    split
    · rename_i kvs e
      exact .inr ⟨kvs, rfl, hz, e⟩
    · exact .inl rfl
  · exact .inl rfl
theorem pE_dct {keys : List (Option Expr)} {values : List Expr} {es : List Ex} (h : PPs X pos keys values (trs F W C es)) (hall : keys.all (·.isSome) = true) (hl : keys.length = values.length) (h0 : keys ≠ []) (h15 : keys.length ≤ 15) (h2 : es.length % 2 = 0) :
    PE X (.Dict keys values pos) (tE F W (evE C (.dct es))) :=
  (pe_disp h hall hl h0 h15).imp fun σ H Q ⟨env, st, ρ, he, hs, hp⟩ => fun p hpn => by
    obtain ⟨s', e'⟩ := hs.beside (u := .dK []) hpn
    refine pairs_of h2 ⟨env, st, ρ, he.mono e', s', ?_⟩
    have hp : Post F (Rl F.K) W (((evEs C es env).bnd fun xs => (dispB xs).bnd fun kvs => alloc (.dict kvs)) st) ρ H Q := hp
    unfold M.bnd at hp
    cases e : evEs C es env st with
    | err => rw [e] at hp; exact hp
    | exc c fs st2 =>
      rw [e] at hp
      exact fun ρ' H' cls dx x s w => hp ρ' H' cls dx (e'.trans x) s w
    | ok ds st2 =>
      rw [e] at hp
      intro ρ2 H2 vs x2 s2 r
      have hn : p ∉ ρ := hs.out hpn
      have h1 : H2 p = some (.dK []) := x2.fr p _ upd_same (.inl hn) (fun _ q => by cases q)
      have h3 : p ∉ ρ2 := x2.notin hn (by rw [upd_same]; simp)
      refine ⟨h1, ?_⟩
      have hp : Post F (Rl F.K) W ((dispB ds).bnd (fun kvs => alloc (.dict kvs)) st2) ρ H Q := hp
      unfold M.bnd at hp
      rcases dispB_ok ds st2 with e1 | ⟨kvs, e1, hz, ed⟩
      · rw [e1] at hp; exact False.elim hp
      · rw [e1] at hp
        obtain ⟨ks, e1, e2, e3⟩ := dispD_ok r (acc := []) (accV := []) rfl ed
        obtain ⟨s5, mo⟩ := s2.side (u' := .dK (mergeK [] ks)) h1 (fun _ _ e => by cases e) (fun _ e => by cases e) (fun _ e => by cases e) h3 (fun y hy => (hs.anc y hy).dom p hpn)
        refine ⟨ks, e1, by omega, ?_⟩
        exact (show Post F (Rl F.K) W (alloc (.dict kvs) st2) ρ H Q from hp).dictNew ((e'.trans x2).side hpn) s5 hpn (fun y hy => (hs.anc y hy).dom p hpn) h3 upd_same (RlK.mo mo _ _ e3)
end
end Cr

set_option maxRecDepth 100000
set_option maxHeartbeats 1000000
namespace Cr
open PySem PySem.Spec PyProof.Rows PySem.Calls L2
section
variable {F : Cf} {X : Cx} {W : VW} {C : Cl} {a k v : Expr} {xa xk xv : Ex} {p p2 pos pos2 : Pos}
theorem pE_dctT (g : Gx F X) (hk : PE X k (tE F W (evE C xk))) (hv : PE X v (tE F W (evE C xv))) : PE X (.Dict [some k] [v] pos) (tE F W (evE C (.dctT xk xv))) :=
  (pe_dicD (by have := g.un; omega) hk hv).imp fun σ H Q ⟨env, st, ρ, he, hs, hp⟩ => fun p hpn => by
    have nt : ∀ (L : List (Addr × List Int)) ps, DicO p L ≠ .tbl ps := by intro L _ z; unfold DicO at z; cases z
    obtain ⟨s', e'⟩ := hs.beside (u := DicO p []) hpn (nt _)
    refine ⟨env, st, ρ, he.mono e', s', ?_⟩
    have hp : Post F (Rl F.K) W (((evE C xk env).bnd fun x => (evE C xv env).bnd fun y => (dctB x y).bnd fun ts => alloc (dtsO ts)) st) ρ H Q := hp
    unfold M.bnd at hp
    cases e : evE C xk env st with
    | err => rw [e] at hp; exact hp
    | exc c fs st2 =>
      rw [e] at hp
      exact fun ρ' H' cls dx x s w => hp ρ' H' cls dx (e'.trans x) s w
    | ok d st1 =>
      rw [e] at hp
      intro ρ1 H1 v1 x1 s1 r1
      refine ⟨env, st1, ρ1, (he.mono e').mono x1, s1, ?_⟩
      dsimp only at hp
      cases e2 : evE C xv env st1 with
      | err => rw [e2] at hp; exact hp
      | exc c fs st2 =>
        rw [e2] at hp
        exact fun ρ' H' cls dx x s w => hp ρ' H' cls dx ((e'.trans x1).trans x) s w
      | ok d2 st2 =>
        rw [e2] at hp
        intro ρ2 H2 v2 x2 s2 r2
        have hp : Post F (Rl F.K) W ((dctB d d2).bnd (fun ts => alloc (dtsO ts)) st2) ρ H Q := hp
        have hn : p ∉ ρ := hs.out hpn
        have h1 : H2 p = some (DicO p []) := (x1.trans x2).fr p _ upd_same (.inl hn) (nt _)
        have h3 : p ∉ ρ2 := (x1.trans x2).notin hn (by rw [upd_same]; simp)
        cases d with
        | tup ds =>
          cases d2 with
          | bl b2 =>
            cases b2 with
            | true =>
              have hp : Post F (Rl F.K) W ((M.opt ((intsOf ds).map fun ns => [ns])).bnd (fun ts => alloc (dtsO ts)) st2) ρ H Q := hp
              cases hi : intsOf ds with
              | none => rw [hi] at hp; exact False.elim hp
              | some ns =>
                rw [hi] at hp
                have hp : Post F (Rl F.K) W (alloc (dtsO [ns]) st2) ρ H Q := hp
                obtain ⟨b, vv, rfl, hb, rb⟩ := (Rl.mono x2 _ _ r1).tup
                obtain ⟨rfl, _⟩ := rb.ints hi
                obtain ⟨s5, mo⟩ := s2.sideX (u' := DicO p [(b, ns)]) h1 (by intro _ _ z; unfold DicO at z; cases z) (nt _) (fun c q => dic_ne_code) h3 (fun y hy => (hs.anc y hy).dom p hpn) (nt _)
                refine ⟨b, ns, rfl, r2.bl, by rw [g.K]; exact hb.t, h1, hp (ρ2 ++ [p]) _ (.ref p) (((e'.trans (x1.trans x2)).side hpn).entered hpn) (s5.enterO h3 ⟨[(b, ns)], upd_same, rfl, fun q hq => ?_⟩ (fun y hy => (hs.anc y hy).dom p hpn)) ?_⟩
                · rw [List.mem_singleton.mp hq]
                  exact mo.tup hb
                · unfold Rl
                  exact ⟨p, by rw [← s5.len]; simp, rfl⟩
            | false => exact False.elim hp
          | _ => exact False.elim hp
        | _ => exact False.elim hp
def rSrtD (K : Frag) : List V → Hp → VK → Prop := fun vs H Q => ∃ (a : Addr) (L : List (Addr × List Int)), vs = [V.ref a] ∧ H a = some (DicO a L) ∧ (∀ p ∈ L, SqD K H p.1 (p.2.map V.int)) ∧ okTs (L.map (·.2)) = true ∧
  ∀ p ws, H p = none → Paired (fun v t => ∃ a, v = V.ref a ∧ SqD K H a (t.map V.int)) ws (sortT (L.map (·.2))) → Q (.ref p) (upd H p (.lst ws))
theorem pairs_D {K : Frag} {H : Hp} : ∀ {L : List (Addr × List Int)}, (∀ p ∈ L, SqD K H p.1 (p.2.map V.int)) → Paired (fun v t => ∃ a, v = V.ref a ∧ SqD K H a (t.map V.int)) (L.map fun p => V.ref p.1) (L.map (·.2))
  | [], _ => .nil
  | p :: r, h => .cons ⟨_, rfl, h p List.mem_cons_self⟩ (pairs_D fun q hq => h q (List.mem_cons_of_mem _ hq))
theorem crs_srtD (hc : X.calm = true) : CallR X (.builtin "sorted") (rSrtD X.K) := by
  intro pins s σ H ws us Q I r ⟨a, L, e, hL, hk, hok, q⟩
  subst e
  obtain ⟨u, rfl, rx⟩ := vals1 r
  cases rx
  obtain ⟨h64, d, h1, hb⟩ := okTs_ok hok
  have h64' : L.length < 64 := by rw [List.length_map] at h64; exact h64
  exact sorted_colT I (fun {R} k => dic_collect (I.ok.hd hc) I hL (by rw [sizeLine_eq]; omega) k) (vals_of_refs L) (pairs_D hk) h64 h1 hb q
theorem pL_dsrt (g : Gx F X) (B1 : Bn X "sorted") (hn : notStar a = true) (ha : PE X a (tE F W (evE C xa))) :
    PE X (.Call (.Name "sorted" p) [a] [] pos) (tL F W (evN C (.dsrt xa))) :=
  (pE_b1 B1 (crs_srtD g.calm) PyProof.Rows.boot_sorted hn ha (by decide +kernel) (by decide +kernel)).imp fun σ H Q h => by
    have h : tM F (LsR F.K H) W (fun env => (evE C xa env).bnd fun x => (dtsB x).bnd fun ts => M.opt (srtT ts)) σ H Q := by
      obtain ⟨env, st, ρ, q1, q2, q3⟩ := h
      refine ⟨env, st, ρ, q1, q2, ?_⟩
      simp only [evN] at q3
      exact q3
    refine tM.stepX h fun env d v st1 ρ0 ρ1 H1 x1 he hs r q => ?_
    cases d with
    | loc l =>
      obtain ⟨b, hb, rfl⟩ := r.loc
      unfold M.bnd at q
      cases hl : (st1[l]?).bind dtsOf with
      | none =>
        have e : dtsB (.loc l) st1 = .err := by simp only [dtsB, hl]
        rw [e] at q
        exact False.elim q
      | some ts =>
        have e : dtsB (.loc l) st1 = .ok ts st1 := by simp only [dtsB, hl]
        rw [e] at q
        have q3 : Post F (LsR F.K H) W (M.opt (srtT ts) st1) ρ1 H1 Q := q
        obtain ⟨ys, hf, q4⟩ := q3.opt
        obtain ⟨o, ho, hd⟩ := Option.bind_eq_some_iff.mp hl
        cases o with
        | lst _ => cases hd
        | dict _ => cases hd
        | ins c fs =>
          have hd : tupsOf (fs.map (·.2)) = some ts := hd
          obtain ⟨L, hL, hf', hk⟩ := hs.obj l _ b ho hb
          have htl : L.map (·.2) = ts := by
            rw [hf', tupsOf_map] at hd
            exact Option.some.inj hd
          unfold srtT at hf
          split at hf
          · rename_i hok
            cases hf
            refine ⟨b, L, rfl, hL, fun p hp => by rw [g.K]; exact hk p hp, by rw [htl]; exact hok, fun p ws hpn pr => ?_⟩
            rw [g.K, htl] at pr
            exact q4.fresh hs (fun c hc => x1.dom c hc) (tlist_rl pr) hpn
          · cases hf
    | _ => exact False.elim q
theorem pL_revL (g : Gx F X) {k : Nat} {p1 p2 p3 : Pos} (ha : PE X a (tE F W (evE C xa))) : PE X (.Subscript a (.Slice none none (some (.UnaryOp .USub (.Constant (.int 1) k p1) p2)) p3) pos) (tL F W (evN C (.revL xa))) :=
  (pe_revL ha).imp fun σ H Q h => by
    have h : tM F (LsR F.K H) W (fun env => (evE C xa env).bnd fun x => (kindIs .list x).bnd fun _ => (itemsOf x).bnd fun xs => M.ret xs.reverse) σ H Q := by
      obtain ⟨env, st, ρ, q1, q2, q3⟩ := h
      refine ⟨env, st, ρ, q1, q2, ?_⟩
      simp only [evN] at q3
      exact q3
    refine tM.stepX h fun env d v st1 ρ0 ρ1 H1 x1 he hs r q => ?_
    cases d with
    | loc l =>
      obtain ⟨b, hb, rfl⟩ := r.loc
      replace q : Post F (LsR F.K H) W (((kindIs .list (.loc l)).bnd fun _ => (itemsOf (.loc l)).bnd fun xs => M.ret xs.reverse) st1) ρ1 H1 Q := q
      unfold M.bnd at q
      cases hl : st1[l]? with
      | none =>
        have e : kindIs .list (.loc l) st1 = .err := by simp only [kindIs, hl]
        rw [e] at q
        exact False.elim q
      | some o =>
        cases o with
        | lst xs =>
          have e : kindIs .list (.loc l) st1 = .ok () st1 := by simp only [kindIs, hl]
          rw [e] at q
          have hg : getL st1 l = some xs := by unfold getL; rw [hl]
          have e2 : itemsOf (.loc l) st1 = .ok xs st1 := by simp only [itemsOf, hg]
          have q3 : Post F (LsR F.K H) W (.ok xs.reverse st1) ρ1 H1 Q := by
            dsimp only at q
            rw [e2] at q
            exact q
          obtain ⟨vs, z1, z2⟩ := hs.obj l _ b hl hb
          exact ⟨b, vs, rfl, SqL.of z1, fun p hpn => q3.fresh hs (fun c hc => x1.dom c hc) z2.reverse hpn⟩
        | dict _ =>
          have e : kindIs .list (.loc l) st1 = .err := by simp only [kindIs, hl]
          rw [e] at q
          exact False.elim q
        | ins _ _ =>
          have e : kindIs .list (.loc l) st1 = .err := by simp only [kindIs, hl]
          rw [e] at q
          exact False.elim q
    | _ => exact False.elim q
end
end Cr

set_option maxRecDepth 100000
set_option maxHeartbeats 1000000
namespace Cr
open PySem PySem.Spec PyProof.Rows PySem.Calls L2
section
variable {F : Cf} {X : Cx} {W : VW} {C : Cl} {e b : Expr} {es ec : List Expr} {xa xb : Ex} {xs xc : List Ex} {pos p : Pos}
/-- a tuple of what a list of expressions makes -/
theorem pE_tupM {k : Nat} {m : Env → M (List D)} (h : PA X es (tA F W m)) : PE X (.Tuple es k pos) (tE F W fun env => (m env).bnd fun xs => boxed xs) := by
  refine ⟨fun pins s σ H Q I hq => ?_⟩
  refine wpAny_Tuple_spliced (thn (h.run pos pins s σ H _ I (tM.step hq fun env ds vs st1 ρ1 H1 he hs r q => (show ∃ ds st ρ, SR F.τ F.K ρ H1 st ∧ RlL F.K ρ H1 ds vs ∧ Post F (Rl F.K) W (boxed ds st) ρ H1 Q from ⟨ds, st1, ρ1, hs, r, q⟩))) fun us s1 ⟨vs, H1, I1, rv, ds, st1, ρ1, hs, r, q⟩ => ?_)
  unfold boxed at q
  split at q
  · rename_i hz
    rw [r.len, rv.length] at hz
    obtain ⟨J, hn⟩ := I1.tupN rv (by rw [rv.length]; exact sz5 hz)
    exact ⟨sz5 hz, .ref s1.heap.objs.size, _, J, rfl, Post.newT (show Post F (Rl F.K) W (.ok (.tup ds) st1) ρ1 H1 Q from q) hs r hn⟩
  · exact False.elim q
theorem pL_lstM {m : Env → M (List D)} (h : PA X es (tA F W m)) : PE X (.List es pos) (tL F W fun env => (m env).bnd fun xs => listed xs) :=
  (pe_lst h).imp fun _ _ _ h => tM.stepX h fun env ds vs st1 ρ0 ρ1 H1 x1 he hs r q => by
    unfold listed at q
    split at q
    · rename_i hz
      rw [r.len] at hz
      exact ⟨sz5 hz, fun p hp => (show Post F _ W (.ok ds st1) ρ1 H1 _ from q).fresh hs x1.dom r hp⟩
    · exact False.elim q
/-- what stands behind a star, then the rest -/
def starM (C : Cl) (xb : Ex) (xc : List Ex) (env : Env) : M (List D) := (evE C xb env).bnd fun y => (itemsOf y).bnd fun ys => (evEs C xc env).bnd fun zs => M.ret (ys ++ zs)
theorem items_no {d : D} {st st' : Store} {c : Str} {fs : List (Str × D)} (e : itemsOf d st = .exc c fs st') : False := by
  cases d <;> simp only [itemsOf] at e <;> first | cases e | (split at e <;> cases e)
theorem pA_star (g : Gx F X) (hb : PE X b (tE F W (evE C xb))) (hc : PA X ec (tA F W (evEs C xc))) : PA X (.Starred b p :: ec) (tA F W (starM C xb xc)) :=
  (StX.pa_star hb hc).imp fun σ H Q h => tM.step (m := evE C xb) (k := fun env y => (itemsOf y).bnd fun ys => (evEs C xc env).bnd fun zs => M.ret (ys ++ zs)) h fun env y v st1 ρ1 H1 he hs r q => by
    have q : Post F (RlL F.K) W (((itemsOf y).bnd fun ys => (evEs C xc env).bnd fun zs => M.ret (ys ++ zs)) st1) ρ1 H1 Q := q
    cases e : itemsOf y st1 with
    | ok ys st2 =>
      have q9 : Post F (RlL F.K) W (((evEs C xc env).bnd fun zs => M.ret (ys ++ zs)) st2) ρ1 H1 Q := by
        have z := q
        rw [M.bnd, e] at z
        exact z
      obtain ⟨rfl, a, vs, rfl, hsq, rl⟩ := items_sq hs r e
      exact ⟨a, vs, rfl, by rw [g.K]; exact hsq.symm.imp (fun h => h.t) id, env, st2, ρ1, he, hs, q9.bnd.imp fun zs H2 ⟨ds, st3, ρ2, x2, s2, r2, q2⟩ => q2.ret s2 ((RlL.mono x2 _ _ rl).append r2)⟩
    | exc c fs st2 => exact (items_no e).elim
    | err =>
      have z := q
      rw [M.bnd, e] at z
      exact False.elim z
theorem pA_consM {m : Env → M (List D)} (hn : notStar e = true) (ha : PE X e (tE F W (evE C xa))) (hr : PA X es (tA F W m)) : PA X (e :: es) (tA F W fun env => (evE C xa env).bnd fun x => (m env).bnd fun xs => M.ret (x :: xs)) :=
  (pa_cons ha hr (star_cons hn X.env)).imp fun _ _ _ h => tM.step (m := evE C xa) (k := fun env x => (m env).bnd fun xs => M.ret (x :: xs)) h fun env x v st1 ρ1 H1 he hs r q => ⟨env, st1, ρ1, he, hs, (show Post F (RlL F.K) W (((m env).bnd fun xs => M.ret (x :: xs)) st1) ρ1 H1 _ from q).bnd.imp fun ys H2 ⟨ds, st2, ρ2, x2, s2, r2, q2⟩ => q2.ret s2 (RlL.cons (Rl.mono x2 _ _ r) r2)⟩
theorem tupS0 (C : Cl) (xb : Ex) (xc : List Ex) (f : List D → M D) : (fun env => (starM C xb xc env).bnd f) = fun env => (evEs C [] env).bnd fun xs => (evE C xb env).bnd fun y => (itemsOf y).bnd fun ys => (evEs C xc env).bnd fun zs => f (xs ++ (ys ++ zs)) := by
  funext env
  unfold starM
  rw [bnd_assoc]
  show _ = (M.ret []).bnd _
  rw [ret_bnd]
  congr 1; funext y
  rw [bnd_assoc]; congr 1; funext ys
  rw [bnd_assoc]; rfl
theorem lstS0 (C : Cl) (xb : Ex) (xc : List Ex) (f : List D → M (List D)) : (fun env => (starM C xb xc env).bnd f) = fun env => (evEs C [] env).bnd fun xs => (evE C xb env).bnd fun y => (itemsOf y).bnd fun ys => (evEs C xc env).bnd fun zs => f (xs ++ (ys ++ zs)) := by
  funext env
  unfold starM
  rw [bnd_assoc]
  show _ = (M.ret []).bnd _
  rw [ret_bnd]
  congr 1; funext y
  rw [bnd_assoc]; congr 1; funext ys
  rw [bnd_assoc]; rfl
theorem star1 {α : Type} (C : Cl) (xa xb : Ex) (xc : List Ex) (f : List D → M α) : (fun env => ((evE C xa env).bnd fun x => (starM C xb xc env).bnd fun xs => M.ret (x :: xs)).bnd f) = fun env => (evEs C [xa] env).bnd fun xs => (evE C xb env).bnd fun y => (itemsOf y).bnd fun ys => (evEs C xc env).bnd fun zs => f (xs ++ (ys ++ zs)) := by
  funext env
  show _ = ((evE C xa env).bnd fun x => (M.ret []).bnd fun xs => M.ret (x :: xs)).bnd _
  rw [bnd_assoc, bnd_assoc]
  congr 1; funext x
  rw [ret_bnd, ret_bnd]
  unfold starM
  rw [bnd_assoc, bnd_assoc]
  congr 1; funext y
  rw [bnd_assoc]
  congr 1; funext ys
  rw [bnd_assoc]
  rfl
theorem pE_tupS0 {k : Nat} (g : Gx F X) (hb : PE X b (tE F W (evE C xb))) (hc : PA X ec (tA F W (evEs C xc))) : PE X (.Tuple (.Starred b p :: ec) k pos) (tE F W (evE C (.tupS [] xb xc))) := by
  have h := pE_tupM (k := k) (pos := pos) (pA_star (p := p) g hb hc)
  rw [tupS0] at h
  exact h
theorem pE_tupS1 {k : Nat} (g : Gx F X) (hn : notStar e = true) (ha : PE X e (tE F W (evE C xa))) (hb : PE X b (tE F W (evE C xb))) (hc : PA X ec (tA F W (evEs C xc))) : PE X (.Tuple (e :: .Starred b p :: ec) k pos) (tE F W (evE C (.tupS [xa] xb xc))) := by
  have h := pE_tupM (k := k) (pos := pos) (pA_consM hn ha (pA_star (p := p) g hb hc))
  rw [star1] at h
  exact h
theorem pL_lstS0 (g : Gx F X) (hb : PE X b (tE F W (evE C xb))) (hc : PA X ec (tA F W (evEs C xc))) : PE X (.List (.Starred b p :: ec) pos) (tL F W (evN C (.lstS [] xb xc))) := by
  have h := pL_lstM (pos := pos) (pA_star (p := p) g hb hc)
  rw [lstS0] at h
  exact h
end
end Cr

set_option maxRecDepth 100000
set_option maxHeartbeats 1000000
namespace Cr
open PySem PySem.Spec PyProof.Rows PySem.Calls L2
/-- what is wanted behind a statement -/
def PostS (F : Cf) (W : VW) (r : Os) (ρ : Rho) (H : Hp) (D : Ends) : Prop := match r with
  | .nx env st => ∀ ρ' H' σ', Ext ρ H ρ' H' → SR F.τ F.K ρ' H' st → RE F.K ρ' H' env σ' → D.nx σ' H'
  | .rt d st => ∀ ρ' H' v, Ext ρ H ρ' H' → SR F.τ F.K ρ' H' st → Rl F.K ρ' H' d v → D.rt v H'
  | .exc c fs _ st => ∀ ρ' H' cls dx, Ext ρ H ρ' H' → SR F.τ F.K ρ' H' st → XR F.K F.mg ρ' H' c fs cls dx → W cls dx H'
  | .err => False
def tO (F : Cf) (W : VW) (m : Env → Store → Os) : TS := fun D σ H => ∃ env st ρ, RE F.K ρ H env σ ∧ SR F.τ F.K ρ H st ∧ PostS F W (m env st) ρ H D
theorem _root_.L2.PS.imp {X : Cx} {s : Stmt} {t t' : TS} (h : PS X s t) (k : ∀ D σ H, t' D σ H → t D σ H) : PS X s t' := ⟨fun pins s σ H D I q => h.run pins s σ H D I (k D σ H q)⟩
theorem _root_.L2.PSs.imp {X : Cx} {s : List Stmt} {t t' : TS} (h : PSs X s t) (k : ∀ D σ H, t' D σ H → t D σ H) : PSs X s t' := ⟨fun pins s σ H D I q => h.run pins s σ H D I (k D σ H q)⟩
section
variable {F : Cf} {X : Cx} {W : VW} {C : Cl} {ρ ρ1 : Rho} {H H1 : Hp} {D : Ends} {σ : L2.St}
theorem PostS.from {r : Os} (h : PostS F W r ρ H D) (e : Ext ρ H ρ1 H1) : PostS F W r ρ1 H1 D := by
  cases r with
  | nx env st => exact fun ρ' H' v e' s q => h ρ' H' v (e.trans e') s q
  | rt d st => exact fun ρ' H' v e' s q => h ρ' H' v (e.trans e') s q
  | exc c fs env st => exact fun ρ' H' cls dx e' s q => h ρ' H' cls dx (e.trans e') s q
  | err => exact h
theorem PostS.ofM {α β : Type} {R : Rho → Hp → α → β → Prop} {r : Rs α} {env : Env} {k : α → Store → Os} (h : PostS F W (Os.ofM env r k) ρ H D) :
    Post F R W r ρ H fun v H1 => ∃ a st1 ρ1, Ext ρ H ρ1 H1 ∧ SR F.τ F.K ρ1 H1 st1 ∧ R ρ1 H1 a v ∧ PostS F W (k a st1) ρ1 H1 D := by
  cases r with
  | ok a st => exact fun ρ1 H1 v x s q => ⟨a, st, ρ1, x, s, q, PostS.from (show PostS F W (k a st) ρ H D from h) x⟩
  | exc c fs st => exact h
  | err => exact h
theorem tO.step {α β : Type} {R : Rho → Hp → α → β → Prop} {m : Env → M α} {k : Env → α → Store → Os} {Q' : β → Hp → Prop} (h : tO F W (fun env st => Os.ofM env (m env st) (k env)) D σ H)
    (go : ∀ env a v st1 ρ0 ρ1 H1, Ext ρ0 H ρ1 H1 → RE F.K ρ1 H1 env σ → SR F.τ F.K ρ1 H1 st1 → R ρ1 H1 a v → PostS F W (k env a st1) ρ1 H1 D → Q' v H1) : tM F R W m σ H Q' := by
  obtain ⟨env, st, ρ, he, hs, hp⟩ := h
  exact ⟨env, st, ρ, he, hs, hp.ofM.imp fun v H1 ⟨a, st1, ρ1, x, s1, r, q⟩ => go env a v st1 ρ ρ1 H1 x (he.mono x) s1 r q⟩
theorem PostS.nx {env : Env} {st : Store} (h : PostS F W (.nx env st) ρ H D) (hs : SR F.τ F.K ρ H st) (he : RE F.K ρ H env σ) : D.nx σ H := h ρ H σ (Ext.refl _ _) hs he
theorem PostS.rt {d : Cr.D} {v : V} {st : Store} (h : PostS F W (.rt d st) ρ H D) (hs : SR F.τ F.K ρ H st) (r : Rl F.K ρ H d v) : D.rt v H := h ρ H v (Ext.refl _ _) hs r
variable {e c : Expr} {xa : Ex} {ya : Te} {pos : Pos} {Wn : Nat}
theorem pS_exp (he : PE X e (tE F W (evE C xa))) (hs : swapsWith e none pos.line X.env = pure false) : PS X (.Expr e pos) (tO F W (evM C Wn (.exp xa))) :=
  (ps_expr he hs).imp fun D σ H h => tO.step h fun env d v st1 ρ0 ρ1 H1 x he hs r q => q.nx hs he
theorem pS_ret (he : PE X e (tE F W (evE C xa))) : PS X (.Return (some e) pos) (tO F W (evM C Wn (.ret xa))) :=
  (ps_ret he).imp fun D σ H h => tO.step h fun env d v st1 ρ0 ρ1 H1 x he hs r q => q.rt hs r
theorem pS_retN : PS X (.Return none pos) (tO F W (evM C Wn (.ret (.cst .non)))) :=
  ps_retN.imp fun D σ H ⟨env, st, ρ, he, hs, hp⟩ => PostS.rt (show PostS F W (.rt .non st) ρ H D from hp) hs rl_non
theorem pSs_nil : PSs X [] (tO F W (evMs C Wn [])) := pss_nil.imp fun D σ H ⟨env, st, ρ, he, hs, hp⟩ => PostS.nx (show PostS F W (.nx env st) ρ H D from hp) hs he
/-- one statement, then others -/
theorem PostS.seq {o : Os} {k : Env → Store → Os} (h : PostS F W (match o with | .nx env' st' => k env' st' | o => o) ρ H D) :
    PostS F W o ρ H { D with nx := fun σ' H' => ∃ env st ρ', RE F.K ρ' H' env σ' ∧ SR F.τ F.K ρ' H' st ∧ Ext ρ H ρ' H' ∧ PostS F W (k env st) ρ H D } := by
  cases o with
  | nx env st => exact fun ρ' H' σ' x s r => ⟨env, st, ρ', r, s, x, h⟩
  | rt d st => exact h
  | exc c fs env st => exact h
  | err => exact h
theorem PostS.ends {r : Os} {D' : Ends} (h : PostS F W r ρ H D) (hn : ∀ σ H, D.nx σ H → D'.nx σ H) (hr : ∀ v H, D.rt v H → D'.rt v H) : PostS F W r ρ H D' := by
  cases r with
  | nx env st => exact fun ρ' H' v e' s q => hn _ _ (h ρ' H' v e' s q)
  | rt d st => exact fun ρ' H' v e' s q => hr _ _ (h ρ' H' v e' s q)
  | exc c fs env st => exact h
  | err => exact h
theorem pSs_cons {s : Stmt} {r : List Stmt} {xs : Sm} {xr : List Sm} (h1 : PS X s (tO F W (evM C Wn xs))) (h2 : PSs X r (tO F W (evMs C Wn xr))) : PSs X (s :: r) (tO F W (evMs C Wn (xs :: xr))) :=
  (pss_cons h1 h2).imp fun D σ H ⟨env, st, ρ, he, hs, hp⟩ => ⟨env, st, ρ, he, hs, (PostS.seq (o := evM C Wn xs env st) (k := evMs C Wn xr) hp).ends (fun σ' H' ⟨env', st', ρ', r', s', x, q⟩ => ⟨env', st', ρ', r', s', q.from x⟩) fun _ _ h => h⟩
theorem pS_if {a b : List Stmt} {xs ys : List Sm} (hc : PT X c (tT F W (evT C ya))) (ha : PSs X a (tO F W (evMs C Wn xs))) (hb : PSs X b (tO F W (evMs C Wn ys))) : PS X (.If c a b pos) (tO F W (evM C Wn (.iff ya xs ys))) :=
  (ps_if hc ha hb).imp fun D σ H h => tO.step h fun env t k st1 ρ0 ρ1 H1 x he hs r q => by
    have e : t = k := r
    subst e
    cases t with
    | true => exact ⟨env, st1, ρ1, he, hs, q⟩
    | false => exact ⟨env, st1, ρ1, he, hs, q⟩
theorem pS_whl {b : List Stmt} {ys : List Sm} (hp : PassesOwn (model X.prog X.w) X.A X.env X.xe) (hc : PT X c (tT F W (evT C ya))) (hb : PSs X b (tO F W (evMs C Wn ys))) : PS X (.While c b [] pos) (tO F W (evM C Wn (.whl ya ys))) :=
  (ps_while hp hc hb).imp fun D σ H ⟨env, st, ρ, he, hs, hp⟩ => by
    refine ⟨fun m σ H => ∃ env st ρ, RE F.K ρ H env σ ∧ SR F.τ F.K ρ H st ∧ PostS F W (whlN (evT C ya) (evMs C Wn ys) m env st) ρ H D, ⟨Wn, env, st, ρ, he, hs, hp⟩, ?_⟩
    rintro m σ H ⟨env, st, ρ, he, hs, hp⟩
    cases m with
    | zero => exact False.elim hp
    | succ m =>
      refine tO.step (m := evT C ya) (k := fun env t st1 => if t then (match evMs C Wn ys env st1 with | .nx env' st' => whlN (evT C ya) (evMs C Wn ys) m env' st' | o => o) else .nx env st1) ⟨env, st, ρ, he, hs, hp⟩ fun env t k st1 ρ0 ρ1 H1 x he hs r q => ?_
      have e : t = k := r
      subst e
      cases t with
      | false => exact PostS.nx (show PostS F W (.nx env st1) ρ1 H1 D from q) hs he
      | true =>
        refine (if_pos rfl : _ = _) ▸ ⟨fun σ' H' => ∃ env st ρ, RE F.K ρ H' env σ' ∧ SR F.τ F.K ρ H' st ∧ PostS F W (whlN (evT C ya) (evMs C Wn ys) m env st) ρ H' D, fun σ' H' w => ⟨m, Nat.lt_succ_self m, w⟩, ?_⟩
        exact ⟨env, st1, ρ1, he, hs, (PostS.seq (o := evMs C Wn ys env st1) (k := whlN (evT C ya) (evMs C Wn ys) m) q).ends (fun σ' H' ⟨env', st', ρ', r', s', x, q⟩ => ⟨env', st', ρ', r', s', q.from x⟩) fun _ _ h => h⟩
theorem pS_for {tgE iter : Expr} {b : List Stmt} {tg : Tg} {it : Sq} {ys : List Sm} (g : Gx F X) (hp : PassesOwn (model X.prog X.w) X.A X.env X.xe) (hi : PI X tgE iter (tQ F W (evQ C it))) (hg : PG X tgE (gT X.K tg)) (hb : PSs X b (tO F W (evMs C Wn ys))) (hs : notSet iter = true) :
    PS X (.For tgE iter b [] pos) (tO F W (evM C Wn (.for tg it ys))) :=
  (ps_for hp g.calm hi hg hb (folded_eq hs X.env)).imp fun D σ H h => tO.step h fun env h J st1 ρ0 ρ1 H1 x0 he hs hj q => by
    cases hl : h.len st1 with
    | none => rw [hl] at q; exact False.elim q
    | some n =>
      rw [hl] at q
      have q : PostS F W (forN (fun st i => h.get st i) (fun d env st => Os.ofM env (bindTg tg d env st) fun env' st' => evMs C Wn ys env' st') n 0 env st1) ρ1 H1 D := q
      generalize hbd : (fun d env st => Os.ofM env (bindTg tg d env st) fun env' st' => evMs C Wn ys env' st') = bd at q
      refine ⟨fun i m σ H => ∃ env st ρ, Ext ρ1 H1 ρ H ∧ RE F.K ρ H env σ ∧ SR F.τ F.K ρ H st ∧ PostS F W (forN (fun st i => h.get st i) bd m i env st) ρ H D, ⟨n, env, st1, ρ1, Ext.refl _ _, he, hs, q⟩, ?_⟩
      rintro i m σ H ⟨env, st, ρ, x, he, hs, q⟩
      have hjt := hj ρ H st i x hs
      cases m with
      | zero =>
        unfold forN at q
        cases hg : h.get st i with
        | none => rw [hg] at q; exact False.elim q
        | some o =>
          cases o with
          | some d => rw [hg] at q; exact False.elim q
          | none => rw [hg] at q hjt; exact .inl ⟨hjt, PostS.nx (show PostS F W (.nx env st) ρ H D from q) hs he⟩
      | succ m =>
        unfold forN at q
        cases hg : h.get st i with
        | none => rw [hg] at q; exact False.elim q
        | some o =>
          cases o with
          | none => rw [hg] at q hjt; exact .inl ⟨hjt, PostS.nx (show PostS F W (.nx env st) ρ H D from q) hs he⟩
          | some d =>
            rw [hg] at q hjt
            obtain ⟨go, yl⟩ := hjt
            refine .inr ⟨go, fun σ' H' => ∃ env st ρ, Ext ρ1 H1 ρ H' ∧ RE F.K ρ H' env σ' ∧ SR F.τ F.K ρ H' st ∧ PostS F W (forN (fun st i => h.get st i) bd m (i + 1) env st) ρ H' D, fun σ' H' w => ⟨m, Nat.lt_succ_self m, w⟩, fun v H' y => ?_⟩
            obtain ⟨x2, s2, rd⟩ := yl v H' y
            have q2 := PostS.seq (o := bd d env st) (k := forN (fun st i => h.get st i) bd m (i + 1)) (PostS.from q x2)
            subst hbd
            cases hbt : bindTg tg d env st with
            | exc c fs st' =>
              exfalso
              cases tg with
              | nm i => cases hbt
              | tp is =>
                cases d with
                | tup xs =>
                  have e : (if xs.length = is.length then M.ret ((is.zip xs).foldl (fun e p => e.set p.1 (some p.2)) env) else M.err : M Env) st = .exc c fs st' := hbt
                  split at e <;> cases e
                | _ => cases hbt
              | tn i is =>
                simp only [bindTg] at hbt
                split at hbt
                · split at hbt <;> cases hbt
                · cases hbt
            | err => simp only [hbt] at q2; exact False.elim q2
            | ok env2 st2 =>
              simp only [hbt] at q2
              obtain ⟨est, σ2, ht, he2⟩ := bindTg_ok (he.mono x2) rd hbt
              subst est
              refine ⟨σ2, by rw [g.K]; exact ht, env2, st2, ρ, he2, s2, ?_⟩
              exact PostS.ends (show PostS F W (evMs C Wn ys env2 st2) ρ H' _ from q2) (fun σ' H'' ⟨env', st', ρ', r', s', x', q'⟩ => ⟨env', st', ρ', (x.trans x2).trans x', r', s', q'.from x'⟩) fun _ _ h => h
variable {tE' : Expr} {t : TgS} {x : Str} {py : Pos}
def asgTs' (C : Cl) : List TgS → List Cr.D → Env → Store → Os := asgTs C
/-- a target's reading -/
def gS (F : Cf) (W : VW) (C : Cl) (t : TgS) : TG := fun v σ H Q => ∃ env d st ρ, RE F.K ρ H env σ ∧ SR F.τ F.K ρ H st ∧ Rl F.K ρ H d v ∧ PostS F W (asgT C t d env st) ρ H { nx := Q, rt := fun _ _ => False }
def gSs (F : Cf) (W : VW) (C : Cl) (ts : List TgS) : TGs := fun vs σ H Q => ∃ env ds st ρ, RE F.K ρ H env σ ∧ SR F.τ F.K ρ H st ∧ RlL F.K ρ H ds vs ∧ PostS F W (asgTs C ts ds env st) ρ H { nx := Q, rt := fun _ _ => False }
theorem _root_.L2.PG.imp {X : Cx} {e : Expr} {t t' : TG} (h : PG X e t) (k : ∀ v σ H Q, t' v σ H Q → t v σ H Q) : PG X e t' := ⟨fun pins s σ H v u Q I r q => h.run pins s σ H v u Q I r (k v σ H Q q)⟩
theorem _root_.L2.PGs.imp {X : Cx} {e : List Expr} {t t' : TGs} (h : PGs X e t) (k : ∀ v σ H Q, t' v σ H Q → t v σ H Q) : PGs X e t' := ⟨fun pins s σ H v u Q I r q => h.run pins s σ H v u Q I r (k v σ H Q q)⟩
theorem pG_nm {i : Nat} (hN : X.N.Nodup) (hi : X.N[i]? = some x) (hx : Loc X.env.scope x) (hf : X.fn x = true ∨ X.env.scope.names.lookup x = some .local) : PG X (.Name x pos) (gS F W C (.nm i)) :=
  (pg_name hN hi hx hf).imp fun v σ H Q ⟨env, d, st, ρ, he, hs, r, hp⟩ => PostS.nx (D := { nx := Q, rt := fun _ _ => False }) hp hs (he.set r)
theorem pG_sub {o i : Expr} {xo xi : Ex} (g : Gx F X) (hsl : notSlice i = true) (ho : PE X o (tE F W (evE C xo))) (hi : PE X i (tE F W (evE C xi))) : PG X (.Subscript o i pos) (gS F W C (.sub xo xi)) :=
  (pg_sub ho hi (set_D (W := W) g) (by intro v; cases i <;> first | rfl | cases hsl)).imp fun v σ H Q ⟨env, d, st, ρ, he, hs, r, hp⟩ =>
    ⟨env, st, ρ, he, hs, (PostS.ofM hp).imp fun vo H1 ⟨a, st1, ρ1, x1, s1, r1, q⟩ => ⟨env, st1, ρ1, he.mono x1, s1, (PostS.ofM q).imp fun vi H2 ⟨b, st2, ρ2, x2, s2, r2, q2⟩ =>
      ⟨a, b, d, st2, ρ2, s2, Rl.mono x2 _ _ r1, r2, Rl.mono (x1.trans x2) _ _ r, (PostS.ofM (R := fun _ _ _ (_ : Unit) => True) q2).imp fun _ H3 ⟨_, st3, ρ3, x3, s3, _, q3⟩ =>
        PostS.nx (D := { nx := Q, rt := fun _ _ => False }) q3 s3 (((he.mono x1).mono x2).mono x3)⟩⟩⟩
theorem pGs_nil : PGs X [] (gSs F W C []) := pgs_nil.imp fun vs σ H Q ⟨env, ds, st, ρ, he, hs, r, hp⟩ => by
  cases ds with
  | nil => exact ⟨r.nil_inv, PostS.nx (D := { nx := Q, rt := fun _ _ => False }) hp hs he⟩
  | cons d ds => exact False.elim hp
theorem assignEach_cons {e : Expr} (h : notStar e = true) (es : List Expr) (env : PySem.Env) : assignEach (e :: es) env = (false, assign e env) :: assignEach es env := by
  cases e <;> first | rfl | cases h
theorem pGs_cons {e : Expr} {es : List Expr} {ts : List TgS} (hn : notStar e = true) (h1 : PG X e (gS F W C t)) (h2 : PGs X es (gSs F W C ts)) : PGs X (e :: es) (gSs F W C (t :: ts)) :=
  (pgs_cons h1 h2 (by rw [assignEach_cons hn]; rfl)).imp fun vs σ H Q ⟨env, ds, st, ρ, he, hs, r, hp⟩ => by
    cases ds with
    | nil => exact False.elim hp
    | cons d ds =>
      obtain ⟨v, vr, rfl, r1, r2⟩ := r.cons_inv
      refine ⟨v, vr, rfl, env, d, st, ρ, he, hs, r1, ?_⟩
      have q := PostS.seq (o := asgT C t d env st) (k := asgTs C ts ds) hp
      refine q.ends (fun σ' H' ⟨env', st', ρ', r', s', x, q'⟩ => ⟨env', ds, st', ρ', r', s', RlL.mono x _ _ r2, q'.from x⟩) fun _ _ h => h
theorem assign_none : ∀ {es : List Expr}, es.all notStar = true → ∀ env : PySem.Env, (assignEach es env).length = es.length ∧ (assignEach es env).findIdx? (·.1) = none
  | [], _, _ => ⟨rfl, rfl⟩
  | e :: es, h, env => by
    simp only [List.all_cons, Bool.and_eq_true] at h
    obtain ⟨h1, h2⟩ := assign_none h.2 env
    rw [assignEach_cons h.1]
    refine ⟨by simp [h1], ?_⟩
    rw [List.findIdx?_cons]
    simp [h2]
theorem pG_tp {es : List Expr} {ts : List TgS} {k : Nat} (g : Gx F X) (hl : es.length = ts.length) (hn : es.all notStar = true) (h : PGs X es (gSs F W C ts)) : PG X (.Tuple es k pos) (gS F W C (.tp ts)) :=
  (pg_tup (n := ts.length) g.calm h (by rw [(assign_none hn X.env).1, hl]) (assign_none hn X.env).2).imp fun v σ H Q ⟨env, d, st, ρ, he, hs, r, hp⟩ => by
    cases d with
    | tup xs =>
      obtain ⟨a, vs, rfl, h1, h2⟩ := r.tup
      have hp : PostS F W (if xs.length = ts.length then asgTs C ts xs env st else .err) ρ H { nx := Q, rt := fun _ _ => False } := hp
      split at hp
      · rename_i hl
        exact ⟨a, vs, rfl, by rw [g.K]; exact h1.t, by rw [← h2.len, hl], env, xs, st, ρ, he, hs, h2, hp⟩
      · exact False.elim hp
    | _ => exact False.elim hp
theorem ofM_ne {α : Type} {r : Rs α} {env : Env} {k : α → Store → Os} {c : Cr.D} {st' : Store} (h : ∀ a st, k a st ≠ .rt c st') : Os.ofM env r k ≠ .rt c st' := by
  cases r with
  | ok a st => exact h a st
  | exc c fs st => intro e; cases e
  | err => intro e; cases e
mutual
/-- a target ends where it is stored -/
theorem asg_noRt : ∀ (t : TgS) (d : Cr.D) (env : Env) (st : Store) (c : Cr.D) (st' : Store), asgT C t d env st ≠ .rt c st'
  | .nm i, d, env, st, c, st' => fun h => by cases h
  | .sub o i, d, env, st, c, st' => ofM_ne fun _ _ => ofM_ne fun _ _ => ofM_ne fun _ _ h => by cases h
  | .tp ts, d, env, st, c, st' => fun h => by
    cases d with
    | tup xs =>
      have h : (if xs.length = ts.length then asgTs C ts xs env st else .err) = .rt c st' := h
      split at h
      · exact asgs_noRt ts xs env st c st' h
      · cases h
    | _ => cases h
theorem asgs_noRt : ∀ (ts : List TgS) (ds : List Cr.D) (env : Env) (st : Store) (c : Cr.D) (st' : Store), asgTs C ts ds env st ≠ .rt c st'
  | [], ds, env, st, c, st' => fun h => by cases ds <;> cases h
  | t :: ts, [], env, st, c, st' => fun h => by cases h
  | t :: ts, d :: ds, env, st, c, st' => fun h => by
    have h : (match asgT C t d env st with | .nx env' st' => asgTs C ts ds env' st' | o => o) = .rt c st' := h
    have h1 := asg_noRt t d env st c st'
    generalize asgT C t d env st = r at h h1
    cases r with
    | nx env' st2 => exact asgs_noRt ts ds env' st2 c st' h
    | rt d st => exact h1 h
    | exc c fs env st => cases h
    | err => cases h
end
theorem asg_ends {d : Cr.D} {env : Env} {st : Store} (q : PostS F W (asgT C t d env st) ρ H D) : PostS F W (asgT C t d env st) ρ H { nx := D.nx, rt := fun _ _ => False } := by
  have hn := asg_noRt (C := C) t d env st
  generalize asgT C t d env st = r at q hn
  cases r with
  | nx env st => exact q
  | rt d st => exact absurd rfl (hn _ _)
  | exc c fs env st => exact q
  | err => exact q
theorem pS_asg (he : PE X e (tE F W (evE C xa))) (hg : PG X tE' (gS F W C t)) (hs : swapsWithSole [tE'] e pos.line X.env = pure false) (hw : swappedStores [tE'] e X.env = pure none) (hn : notStar tE' = true) : PS X (.Assign [tE'] e pos) (tO F W (evM C Wn (.asg t xa))) :=
  (ps_asg he hg hs hw (by rw [assignEach_cons hn]; rfl)).imp fun D σ H h => tO.step h fun env d v st1 ρ0 ρ1 H1 x he hs r q => ⟨env, d, st1, ρ1, he, hs, r, asg_ends q⟩
theorem pS_set {i : Nat} (hN : X.N.Nodup) (hi : X.N[i]? = some x) (hx : Loc X.env.scope x) (hf : X.fn x = true ∨ X.env.scope.names.lookup x = some .local) (he : PE X e (tE F W (evE C xa))) (hs : swapsWith e (some (.Name x py)) pos.line X.env = pure false) : PS X (.Assign [.Name x py] e pos) (tO F W (evM C Wn (.asg (.nm i) xa))) :=
  (ps_set hN hi hx he hs hf).imp fun D σ H h => tO.step h fun env d v st1 ρ0 ρ1 H1 x he hs r q => PostS.nx (show PostS F W (.nx _ st1) ρ1 H1 D from q) hs (he.set r)
end
end Cr

set_option maxRecDepth 100000
set_option maxHeartbeats 1000000
namespace Cr
open PySem PySem.Spec PyProof.Rows PySem.Calls L2
section
variable {F : Cf} {X : Cx} {W : VW} {C : Cl} {i : Nat} {y : Str} {py pos spos : Pos} {elt iter tgE : Expr} {xe : Ex} {tg : Tg} {it : Sq} {ifs : Option Te} {ifsE : List Expr} {scope : Scope} {own : List (Str × Nat)} {Wn : Nat}
theorem asg_read {xa : Ex} {D : Ends} {σ : L2.St} {H : Hp} (h : tO F W (evM C Wn (.asg (.nm i) xa)) D σ H) : tE F W (evE C xa) σ H (fun v H1 => D.nx (σ.set i (some v)) H1) :=
  tO.step h fun env d v st1 ρ0 ρ1 H1 x he hs r q => PostS.nx (show PostS F W (.nx _ st1) ρ1 H1 D from q) hs (he.set r)
theorem tL.newE {n : Ne} {σ : L2.St} {H : Hp} {Q : VK} (h : tE F W (evE C (.new n)) σ H Q) : tL F W (evN C n) σ H Q := tL.new h
theorem pS_setLc (g : Gx F X) (nd : X.N.Nodup) (hy : X.N[i]? = some y) (hyl : X.env.scope.names.lookup y = some .local) (hsw : swapsWith (.ListComp elt [⟨tgE, iter, ifsE, 0⟩] scope pos) (some (.Name y py)) spos.line X.env = pure true)
    (hi : PI X tgE iter (tQ F W (evQ C it))) (ok : BlkOk X.N X.env.scope scope own) (hg : ∀ s H A cl fp, PG (Blk X scope s H A cl fp) tgE (gT X.K tg)) (ht : ∀ s H A cl fp, PTs (Blk X scope s H A cl fp) ifsE (tT F noW (evI C ifs)))
    (he : ∀ s H A cl fp, PE (Blk X scope s H A cl fp) elt (tE F noW (evE C xe))) (hs : notSet iter = true) (hix : ∀ i ∈ tgIx tg, i ∈ own.map (·.2)) :
    PS X (.Assign [.Name y py] (.ListComp elt [⟨tgE, iter, ifsE, 0⟩] scope pos) spos) (tO F W (evM C Wn (.asg (.nm i) (.new (.lc xe tg it ifs (own.map (·.2))))))) :=
  (ps_setLc g.calm nd hy hyl hsw hi ok hg ht he (folded_eq hs X.env)).imp fun D σ H h => lc_read g hix (tL.newE (asg_read h))
theorem pS_setLc2 {tgE1 iter1 : Expr} {ifsE1 : List Expr} {tg1 : Tg} {it1 : Sq} {ifs1 : Option Te} {own1 : List Nat} (g : Gx F X) (nd : X.N.Nodup) (hy : X.N[i]? = some y) (hyl : X.env.scope.names.lookup y = some .local) (hsw : swapsWith (.ListComp elt [⟨tgE, iter, ifsE, 0⟩, ⟨tgE1, iter1, ifsE1, 0⟩] scope pos) (some (.Name y py)) spos.line X.env = pure true)
    (hi : PI X tgE iter (tQ F W (evQ C it))) (ok : BlkOk X.N X.env.scope scope own) (hv : ∀ i ∈ own1, i ∈ own.map (·.2)) (hg : ∀ s H A cl fp, PG (Blk X scope s H A cl fp) tgE (gT X.K tg)) (ht : ∀ s H A cl fp, PTs (Blk X scope s H A cl fp) ifsE (tT F noW (evI C ifs)))
    (hi1 : ∀ s H A cl fp, PI (Blk X scope s H A cl fp) tgE1 iter1 (tQM F noW (evQ C it1))) (hg1 : ∀ s H A cl fp, PG (Blk X scope s H A cl fp) tgE1 (gT X.K tg1)) (ht1 : ∀ s H A cl fp, PTs (Blk X scope s H A cl fp) ifsE1 (tT F noW (evI C ifs1)))
    (he : ∀ s H A cl fp, PE (Blk X scope s H A cl fp) elt (tE F noW (evE C xe))) (hs : notSet iter = true) (hs1 : notSet iter1 = true) (hix : ∀ i ∈ tgIx tg, i ∈ own.map (·.2)) (hix1 : ∀ i ∈ tgIx tg1, i ∈ own1) :
    PS X (.Assign [.Name y py] (.ListComp elt [⟨tgE, iter, ifsE, 0⟩, ⟨tgE1, iter1, ifsE1, 0⟩] scope pos) spos) (tO F W (evM C Wn (.asg (.nm i) (.new (.lc2 xe tg it ifs tg1 it1 ifs1 (own.map (·.2)) own1))))) :=
  (ps_setLc2 g.calm nd hy hyl hsw hi ok hv hg ht hi1 hg1 ht1 he (folded_eq hs X.env) (folded_eq hs1)).imp fun D σ H h => lc2_read g hix hix1 (tL.newE (asg_read h))
theorem ps_setDc {kx vx : Expr} {wi : TI} {g : TG} {tt : TT} {tk tv : TE} (hc : X.calm = true) (hN : X.N.Nodup) (hy : X.N[i]? = some y) (hyl : X.env.scope.names.lookup y = some .local)
    (hsw : swapsWith (.DictComp kx vx [⟨tgE, iter, ifsE, 0⟩] scope pos) (some (.Name y py)) spos.line X.env = pure true) (hi : PI X tgE iter wi) (ok : BlkOk X.N X.env.scope scope own)
    (hg : ∀ s H A cl fp, PG (Blk X scope s H A cl fp) tgE g) (ht : ∀ s H A cl fp, PTs (Blk X scope s H A cl fp) ifsE tt) (hk : ∀ s H A cl fp, PE (Blk X scope s H A cl fp) kx tk) (he : ∀ s H A cl fp, PE (Blk X scope s H A cl fp) vx tv) (hs : ∀ x, foldedSetIterable iter X.env x = pure x) :
    PS X (.Assign [.Name y py] (.DictComp kx vx [⟨tgE, iter, ifsE, 0⟩] scope pos) spos) (tAsg (tDc wi g tt tk tv (own.map (·.2))) (gName i)) := by
  refine ⟨fun pins s σ H D I h => ?_⟩
  rw [exec_Assign_Name_used _ _ _ _ hsw]
  refine wpAny_bind (wpAny_standAt (wpAny_bind ?_))
  show wpAny _ X.A (do let _ ← comprehension (.DictComp kx vx [⟨tgE, iter, ifsE, 0⟩] scope pos) scope X.env (firstIterPos [⟨tgE, iter, ifsE, 0⟩] pos) newDict false (eval iter X.env) (some (assign (.Name y py) X.env))) _ _ s
  have h : tDc wi g tt tk tv (own.map (·.2)) σ H (fun x H1 => gName i x σ H1 D.nx) := h
  refine wpAny_bind (thn (dc_core (Qf := fun _ s' => SP X pins D .next s') hc hN I hi ok hg ht hk he hs h fun L C s' m H' I' q hn f => ?_) fun _ s' hq => wpAny_pure (wpAny_pure hq))
  show wpAny _ _ (assign (.Name y py) X.env (.ref L)) _ _ _
  refine wpAny_assign_Name (store_ok2 (v := V.ref L) I' hN hy (.inl hyl) rfl (fun s2 I2 ⟨a, sb, ha⟩ => ?_) (.inr hyl))
  obtain ⟨f0, f1, f2, f3, f4, f5⟩ := f
  have haC : C ≠ a := by
    rcases ha with z | z
    · rw [z]; exact f1
    · exact fun e => f4 y a z e.symm
  refine ⟨m, hn.sameBut sb haC, fun h3 sb3 => ?_⟩
  exact ⟨_, H', I2.turned (t' := s2.toks) (fun b o hb e => (sb3.2 b hb).trans e) f0 f1 f3 f4 f5, q⟩
theorem pS_setDc {kx vx : Expr} {xk xv : Ex} (g : Gx F X) (nd : X.N.Nodup) (hy : X.N[i]? = some y) (hyl : X.env.scope.names.lookup y = some .local) (hsw : swapsWith (.DictComp kx vx [⟨tgE, iter, [], 0⟩] scope pos) (some (.Name y py)) spos.line X.env = pure true)
    (hi : PI X tgE iter (tQ F W (evQ C it))) (ok : BlkOk X.N X.env.scope scope own) (hg : ∀ s H A cl fp, PG (Blk X scope s H A cl fp) tgE (gT X.K tg))
    (hk : ∀ s H A cl fp, PE (Blk X scope s H A cl fp) kx (tE F noW (evE C xk))) (hv : ∀ s H A cl fp, PE (Blk X scope s H A cl fp) vx (tE F noW (evE C xv))) (hs : notSet iter = true) (hix : ∀ i ∈ tgIx tg, i ∈ own.map (·.2)) :
    PS X (.Assign [.Name y py] (.DictComp kx vx [⟨tgE, iter, [], 0⟩] scope pos) spos) (tO F W (evM C Wn (.asg (.nm i) (.dc xk xv tg it (own.map (·.2)))))) :=
  (ps_setDc g.calm nd hy hyl hsw hi ok hg (fun _ _ _ _ _ => pts_nil) hk hv (folded_eq hs X.env)).imp fun D σ H h => dc_read g hix (asg_read h)
def noComp : Expr → Bool
  | .ListComp _ _ _ _ => false
  | .SetComp _ _ _ _ => false
  | .DictComp _ _ _ _ _ => false
  | _ => true
theorem swaps_no {e : Expr} (h : noComp e = true) (t : Option Expr) (l : Nat) (env : PySem.Env) : swapsWith e t l env = pure false := by
  cases e <;> first | rfl | cases h
theorem sole_no {e t : Expr} (h : noComp e = true) (l : Nat) (env : PySem.Env) : swapsWithSole [t] e l env = pure false := swaps_no h _ _ _
/-- a comprehension's own names do not stand under the target -/
def swapOk (sc scope : Scope) (y : Str) (py pos : Pos) : Bool := (match sc.kind with | .function => true | _ => false) && decide (sc.names.lookup y = some .local) && (py.line == pos.line) && !(scope.names.any fun (n, k) => n == y && (k == .local || k == .cell))
theorem swapOk_lc {sc : Scope} {gs : List Comprehension} {l : Nat} {env : PySem.Env} (he : env.scope = sc) (h : swapOk sc scope y py pos = true) : swapsWith (.ListComp elt gs scope pos) (some (.Name y py)) l env = pure true := by
  subst he
  simp only [swapOk, Bool.and_eq_true, decide_eq_true_eq, Bool.not_eq_true'] at h
  obtain ⟨⟨⟨h1, h2⟩, h3⟩, h4⟩ := h
  have hk : env.scope.kind = .function := by
    split at h1
    · assumption
    · cases h1
  exact sw_true hk h2 h3 h4
theorem swapOk_dc {kx vx : Expr} {sc : Scope} {gs : List Comprehension} {l : Nat} {env : PySem.Env} (he : env.scope = sc) (h : swapOk sc scope y py pos = true) : swapsWith (.DictComp kx vx gs scope pos) (some (.Name y py)) l env = pure true := by
  subst he
  simp only [swapOk, Bool.and_eq_true, decide_eq_true_eq, Bool.not_eq_true'] at h
  obtain ⟨⟨⟨h1, h2⟩, h3⟩, h4⟩ := h
  have hk : env.scope.kind = .function := by
    split at h1
    · assumption
    · cases h1
  have ky : env.kindOf y = some .local := h2
  have hb : env.blockKind = .function := by unfold Env.blockKind; rw [hk]; rfl
  unfold swapsWith
  simp only [hb, ky, h4, Expr.pos, h3]
  rfl
/-- no display on the right, or targets that are not all names -/
def noDisp : Expr → Bool
  | .Tuple _ _ _ => false
  | _ => true
theorem stores_no {e t : Expr} (h : noDisp e = true) (env : PySem.Env) : swappedStores [t] e env = pure none := by
  unfold swappedStores
  split
  · rename_i hm
    split at hm
    · cases h
    · cases h
    · cases hm
  · rfl
/-- a, b = x, y -/
def parOk (sc : Scope) (x y : Str) (px py : Pos) (a b : Expr) : Bool :=
  (match sc.kind with | .function => true | _ => false) && decide (sc.names.lookup x = some .local) && decide (sc.names.lookup y = some .local) && (py.line == px.line) && !decide (x = y) && notStar a && notStar b && !([a, b].all (foldedForSure 8)) && !([a, b].all (constantsAlone 8))
theorem stores_par {x y : Str} {px py pt pt2 : Pos} {kt k2 : Nat} {a b : Expr} {env : PySem.Env} {sc : Scope} (he : env.scope = sc) (h : parOk sc x y px py a b = true) :
    swappedStores [.Tuple [.Name x px, .Name y py] kt pt] (.Tuple [a, b] k2 pt2) env = pure (some [x, y]) := by
  subst he
  simp only [parOk, Bool.and_eq_true, decide_eq_true_eq, Bool.not_eq_true', decide_eq_false_iff_not] at h
  obtain ⟨⟨⟨⟨⟨⟨⟨⟨h1, h2⟩, h3⟩, h4⟩, h5⟩, h6⟩, h7⟩, h8⟩, h9⟩ := h
  have hk : env.scope.kind = .function := by
    split at h1
    · assumption
    · cases h1
  have kx : env.kindOf x = some .local := h2
  have ky : env.kindOf y = some .local := h3
  have hb : env.blockKind = .function := by unfold Env.blockKind; rw [hk]; rfl
  have hst : ∀ e : Expr, notStar e = true → (match e with | .Starred _ _ => true | _ => false) = false := fun e h => by
    cases e <;> first | rfl | cases h
  have ha := hst a h6
  have hb' := hst b h7
  have hl : (py.line == px.line) = true := h4
  unfold swappedStores
  have hany : ([a, b].any fun | .Starred .. => true | _ => false) = false := by
    simp only [List.any_cons, List.any_nil]
    rw [ha, hb']; rfl
  have kx' : (env.kindOf x == some NameKind.local) = true := by rw [kx]; decide
  have ky' : (env.kindOf y == some NameKind.local) = true := by rw [ky]; decide
  have l1 : (([Expr.Name x px, Expr.Name y py].head?.map (·.pos.line)).getD 0) = px.line := rfl
  have hed : [x, y].eraseDups = [x, y] := by
    have hyx : (y == x) = false := beq_eq_false_iff_ne.mpr (Ne.symm h5)
    simp [List.eraseDups, List.eraseDupsBy, List.eraseDupsBy.loop, hyx]
  simp only [hb]
  refine (if_neg (by simp)).trans ?_
  refine (if_neg (fun h => by have := hany.symm.trans h; cases this)).trans ?_
  simp only [l1, List.filterMap_cons, List.filterMap_nil, kx', ky', hl, beq_self_eq_true, Bool.and_self, if_true, hed, h8, h9]
  rfl
end
end Cr

set_option maxRecDepth 100000
set_option maxHeartbeats 1000000
namespace Cr
open PySem PySem.Spec PyProof.Rows PySem.Calls L2
structure FnG (P : Program) (w : World) (K : Frag) (mg : Str → Option Value) (base : Heap) (k : Nat) (f : Addr) (fd : FuncData) (ps : List Str) (sp : Sp) : Prop where
  len : ∀ vs H Q E, sp vs H Q E → vs.length = ps.length
  run : ∀ (A : Around) (outer : List PySem.Env) (s : Shared) (H : Hp) (args : Args) (us : List Value) (vs : List V) (Q : VK) (E : XK), Room k A → A.guards = some [] → Env0 P w K mg base A outer s H → BindsTo s fd args (ps.zip us) → Vals vs us → sp vs H Q E →
    codeAny (model P w) A (.call (.ref f) args) (CR (L2.CX P w) outer P w H s Q E) s
theorem fnG_of {P : Program} {w : World} {K : Frag} {mg : Str → Option Value} {base : Heap} {k : Nat} {f : Addr} {name qual : Str} {params : Arguments} {body : List Stmt} {scope : Scope} {dV kV doc pm cdv ct oc : Value} {an od : Option Addr}
    {osl : Array (Option Value)} {N ps : List Str} {sp : Sp} (lk : K.lookup f = some ⟨oc, od, .func (PySem.W.fnOf name qual params body scope dV kV doc pm an cdv ct), osl⟩) (hcd : PySem.W.codeIn K cdv qual = true) (S : FnScope N ps scope)
    (len : ∀ vs H Q E, sp vs H Q E → vs.length = ps.length)
    (hbody : ∀ (A : Around) (outer : List PySem.Env) (s : Shared) (H : Hp) (vs : List V) (Q : VK) (E : XK), Room k (A.deeper (envOfC qual scope s.heap.objs.size f cdv)) → (A.deeper (envOfC qual scope s.heap.objs.size f cdv)).guards = some [] → sp vs H Q E →
      ∃ t, PSs (cxOf (L2.CX P w) P w K mg base N qual scope f cdv A outer s H E) body t ∧ t { nx := fun _ H' => Q .non H', rt := Q } (start N vs) H) :
    FnG P w K mg base (k + 1) f (PySem.W.fnOf name qual params body scope dV kV doc pm an cdv ct) ps sp := by
  refine ⟨len, fun A outer s H args us vs Q E hr hgd e0 hb r hsp => ?_⟩
  have hl := len _ _ _ _ hsp
  have KX : K.In s.heap := e0.mod.kin.keeps fun b o e => (e0.bs b o e).1
  have lim : s.heap.NoLimit := e0.mod.nolimit.keeps fun b o e => (e0.bs b o e).1
  have hkind : ∀ y ∈ ps.zip us, scope.names.lookup y.1 = some .local ∨ (scope.names.lookup y.1 = some .cell ∧ ((cellsFrom (s.heap.objs.size + 1) scope.names []).lookup y.1).isSome = true) := fun ⟨n, v⟩ hy => by
    rcases S.par n (List.of_mem_zip hy).1 with q | q
    · exact .inl q
    · exact .inr ⟨q, PySem.W.cellsFrom_some _ _ _ (.inl q)⟩
  refine codeAny_call_function hr.depth (KX _ _ lk) rfl S.co S.gen rfl (PySem.W.codeRec_of KX hcd) (hb _ _ _ _ ?_)
  refine wpAny_newFunctionEnv_cells S.kind hkind fun env he s1 x => ?_
  subst he
  refine ⟨lim.keeps x.toInCall.keep, codeAny_func ?_⟩
  obtain ⟨t, ht, hq⟩ := hbody A outer s H vs Q E (hr.deeper _) hgd hsp
  have I : L2.Inv (cxOf (L2.CX P w) P w K mg base N qual scope f cdv A outer s H E) [] (start N vs) H s1 := inv_start S hr.hd e0 hl r x
  refine wpAny_mono (ht.run [] s1 (start N vs) H _ I hq) (fun fl s' hs => ?_) fun e s' hs => hs
  have fin : ∀ {σ' : L2.St} {H' : Hp} {v : V} {u : Value}, L2.Inv (cxOf (L2.CX P w) P w K mg base N qual scope f cdv A outer s H E) [] σ' H' s' → RelV v u → Q v H' → CE outer P w H s Q u s' :=
    fun {σ' H' v u} J rv q => ⟨v, H', J.os, J.bare, J.base, J.hok, rv, q⟩
  cases fl with
  | ret u =>
    obtain ⟨v, σ', H', J, rv, q⟩ := hs
    exact fin J rv q
  | next =>
    obtain ⟨σ', H', J, q⟩ := hs
    exact fin (v := V.non) (u := Value.none) J rfl q
  | brk =>
    obtain ⟨_, _, _, q⟩ := hs
    exact False.elim q
  | cont =>
    obtain ⟨_, _, _, q⟩ := hs
    exact False.elim q
theorem run_fnG {X : Cx} {pins : List (Addr × Obj)} {σ : L2.St} {H : Hp} {s : Shared} {Q : VK} {E : XK} {k : Nat} {f : Addr} {fd : FuncData} {ps : List Str} {sp : Sp} {us us' : List Value} {kw : List (Str × Value)} {vs : List V}
    (F : FnG X.prog X.w X.K X.mg X.base k f fd ps sp) (hr : Room k X.A) (hg : X.A.guards = some []) (hb : BindsTo s fd ⟨us, kw⟩ (ps.zip us')) (hx : Passes (L2.CX X.prog X.w) X E)
    (I : L2.Inv X pins σ H s) (r : Vals vs us') (h : sp vs H Q E) : wpAny (model X.prog X.w) X.A (call (.ref f) us kw) (EP X pins σ Q) X.xe s := by
  refine wpAny_call (codeAny_mono (F.run X.A X.stack s H ⟨us, kw⟩ us' vs Q E hr hg I.env0 hb r h) fun r s' hq => ?_)
  cases r with
  | error e => exact hx pins σ H s e s' I hq
  | ok fl =>
    cases fl with
    | ret u => exact I.after hq
    | next => exact False.elim hq
    | brk => exact False.elim hq
    | cont => exact False.elim hq
def spF (F : Cf) (call : List D → M D) (n : Nat) : Sp := fun vs H Q E => vs.length = n ∧ ∃ ds st ρ, RlL F.K ρ H ds vs ∧ SR F.τ F.K ρ H st ∧ Post F (Rl F.K) E (call ds st) ρ H Q
/-- the text's context: names, scope; the known defs, the ways their keywords stand -/
structure CC where
  N : List Str
  sc : Scope
  fns : List (Str × Nat × List (List Str))
  im : List (Str × String) := []
  st : Bool := false
  fw : Bool := false
  clo : Option (Str × Nat) := none
/-- a known def -/
structure FnK (F : Cf) (P : Program) (w : World) (base : Heap) (k : Nat) (C : Cl) (f : Str) (n : Nat) (kws : List (List Str)) : Prop where
  ex : ∃ (a : Addr) (fd : FuncData) (ps : List Str), F.mg f = some (.ref a) ∧ PySem.W.keepIn F.K (.ref a) = true ∧ ps.length = n ∧ FnG P w F.K F.mg base k a fd ps (spF F (fun ds => C.call f ds []) n) ∧
    (∀ (s : Shared) (us : List Value), us.length = n → BindsTo s fd ⟨us, []⟩ (ps.zip us)) ∧
    (∀ ks ∈ kws, ks.length = n ∧ ∀ (s : Shared) (ws us : List Value), ws.length = n → ordL ps ks ws = some us → BindsTo s fd ⟨[], ks.zip ws⟩ (ps.zip us)) ∧
    (∀ ks ∈ kws, ∀ ds st, C.call f ds ks st = .err ∨ ∃ es, ds.length = n ∧ ordL ps ks ds = some es ∧ C.call f ds ks st = C.call f es [] st) ∧ (∀ ds st, ds.length ≠ n → C.call f ds [] st = .err)
def bnames : List Str := ["abs", "int", "len", "repr", "set", "tuple", "all", "any", "sum", "max", "min", "list", "sorted", "divmod", "range", "isinstance", "bool", "str", "enumerate", "zip"]
/-- the def first_wrong, as it stands in the module -/
structure FwD (F : Cf) (g : Addr) (bg : List Stmt) (sg : Scope) (cdv : Value) : Prop where
  mg : F.mg "first_wrong" = some (.ref g)
  keep : PySem.W.keepIn F.K (.ref g) = true
  lk : ∃ (oc : Value) (od : Option Addr) (osl : Array (Option Value)) (pg : Arguments) (dV kV doc pm : Value) (an : Option Addr) (ct : Value), F.K.lookup g = some ⟨oc, od, .func (PySem.W.fnOf "first_wrong" "first_wrong" pg bg sg dV kV doc pm an cdv ct), osl⟩ ∧
    ∀ us : List Value, us.length = 2 → bindArgs (PySem.W.fnOf "first_wrong" "first_wrong" pg bg sg dV kV doc pm an cdv ct) ⟨us, []⟩ = pure ((["value", "is_right"] : List Str).zip us)
  cd : PySem.W.codeIn F.K cdv "first_wrong" = true
  S : FnScope ["value", "is_right", "index", "each"] ["value", "is_right"] sg
/-- .. in the small language -/
def fwProg : List Sm := [.for (.tp [2, 3]) (.enm (.val (.var 0))) [.iff (.not (.val (.cloc 1 [.var 3, .slc (.var 0) none (some (.var 2))]))) [.ret (.var 2)] []], .ret (.cst .non)]
def fwC (c : CC) (sg : Scope) : CC := { N := ["value", "is_right", "index", "each"], sc := sg, fns := [], im := c.im, st := true, clo := some ("is_right", 1) }
/-- what holds where code runs -/
structure Sd0 (F : Cf) (X : Cx) (C : Cl) (c : CC) (W : VW) : Prop where
  g : Gx F X
  N : X.N = c.N
  nd : c.N.Nodup
  sc : X.env.scope = c.sc
  bare : ∀ x ∈ bnames, F.mg x = none
  gc : ∀ x d, C.gc x = some d → ∃ v u, F.mg x = some u ∧ RelV v u ∧ ∀ ρ H, Rl F.K ρ H d v
  fn : ∀ f n kws, (f, n, kws) ∈ c.fns → ∃ k, Room k X.A ∧ FnK F X.prog X.w X.base k C f n kws
  tk : Takes X (fun cls d _ H => W cls d H)
  im : ∀ x T, (x, T) ∈ c.im → F.mg x = some (.type T)
  st : c.st = true → ∀ x, X.fn x = true
  clo : ∀ nm i, c.clo = some (nm, i) → ∀ (es : List Expr) (xs : List Ex) (p1 p2 : Pos), es ≠ [] → es.all notStar = true → PA X es (tA F W (evEs C xs)) → PE X (.Call (.Name nm p1) es [] p2) (tE F W (evE C (.cloc i xs)))
/-- where a lambda may be handed to first_wrong -/
def FwX (F : Cf) (X : Cx) (C : Cl) (c : CC) : Prop := F.τ.anc = none ∧ ∃ (k : Nat) (g : Addr) (bg : List Stmt) (sg : Scope) (cdv : Value) (c0 P : Addr) (Wn : Nat), Room (k + 2) X.A ∧ (∀ f n kws, (f, n, kws) ∈ c.fns → FnK F X.prog X.w X.base k C f n kws) ∧ FwD F g bg sg cdv ∧
  X.env.code = .ref c0 ∧ LamX.TabB X.base X.mg c0 P ∧ (P, X.env.qual ++ "<lambda>") ∈ F.τ.tabs ∧ (∀ p ∈ F.τ.tabs, p.1 = P → p.2 = X.env.qual ++ "<lambda>") ∧
  ∀ (F' : Cf) (Z : Cx) (C' : Cl) (E : VW), F'.K = F.K → F'.mg = F.mg → PassesOwn (model Z.prog Z.w) Z.A Z.env Z.xe → Sd0 F' Z C' (fwC c sg) E → PSs Z bg (tO F' E (evMs C' Wn fwProg))
structure Sd (F : Cf) (X : Cx) (C : Cl) (c : CC) (W : VW) : Prop extends Sd0 F X C c W where
  fw : c.fw = true → FwX F X C c
section
variable {F : Cf} {X : Cx} {W : VW} {C : Cl} {c : CC}
theorem Sd.blk (S : Sd F X C c W) (scope : Scope) (s : Shared) (H : Hp) (A : Addr) (cl : List (Str × Addr)) (fp : List Addr) : Sd F (Blk X scope s H A cl fp) C { c with sc := relS scope c.sc, st := false, fw := false, clo := none } noW where
  g := ⟨S.g.K, S.g.mg, S.g.calm, S.g.un, S.g.guards⟩
  N := S.N
  nd := S.nd
  sc := by show relS scope X.env.scope = relS scope c.sc; rw [S.sc]
  bare := S.bare
  gc := S.gc
  fn := S.fn
  tk := fun u s' ⟨_, _, _, _, _, _, _, _, _, _, _, _, _, _, _, _, w⟩ => w.elim
  im := S.im
  clo := fun nm i h => by cases h
  fw := fun h => by cases h
  st := fun h => absurd h Bool.false_ne_true
theorem Sd.bn (S : Sd F X C c W) {x : Str} (hx : x ∈ bnames) (h : decide (c.sc.names.lookup x = some .globalImplicit) = true) : Bn X x :=
  ⟨by show X.env.scope.names.lookup x = _; rw [S.sc]; exact of_decide_eq_true h, by rw [S.g.mg]; exact S.bare x hx⟩
theorem mapM_rel {α β γ : Type} {R : β → γ → Prop} {f : α → Option β} {g : α → Option γ} : ∀ {l : List α} {ys : List β}, (∀ a b, f a = some b → ∃ c, g a = some c ∧ R b c) → l.mapM f = some ys → ∃ zs, l.mapM g = some zs ∧ Paired R ys zs
  | [], ys, _, h => by
    simp at h; subst h
    exact ⟨[], by simp, .nil⟩
  | a :: l, ys, k, h => by
    rw [List.mapM_cons] at h
    cases e : f a with
    | none => rw [e] at h; cases h
    | some b =>
      rw [e] at h
      cases e2 : l.mapM f with
      | none => rw [e2] at h; cases h
      | some bs =>
        rw [e2] at h
        cases h
        obtain ⟨c, h1, h2⟩ := k a b e
        obtain ⟨zs, h3, h4⟩ := mapM_rel k e2
        exact ⟨c :: zs, by rw [List.mapM_cons, h1, h3]; rfl, .cons h2 h4⟩
theorem lookup_rel {β γ : Type} {R : β → γ → Prop} {p : Str} {b : β} : ∀ {ks : List Str} {xs : List β} {ys : List γ}, Paired R xs ys → (ks.zip xs).lookup p = some b → ∃ c, (ks.zip ys).lookup p = some c ∧ R b c
  | [], _, _, _, h => by simp at h
  | _ :: _, _, _, .nil, h => by simp at h
  | k :: ks, _, _, .cons (a := x) (b := y) r t, h => by
    simp only [List.zip_cons_cons, List.lookup_cons] at h ⊢
    cases e : (p == k) with
    | true => rw [e] at h; cases h; exact ⟨y, rfl, r⟩
    | false => rw [e] at h; exact lookup_rel t h
theorem ord_rel {β γ : Type} {R : β → γ → Prop} {ps ks : List Str} {xs zs : List β} {ys : List γ} (r : Paired R xs ys) (h : ordL ps ks xs = some zs) : ∃ ws, ordL ps ks ys = some ws ∧ Paired R zs ws :=
  mapM_rel (fun p b e => lookup_rel r e) h
theorem RlL.paired {K : Frag} {ρ : Rho} {H : Hp} : ∀ {ds : List D} {vs : List V}, RlL K ρ H ds vs → Paired (Rl K ρ H) ds vs
  | [], _, h => by rw [h.nil_inv]; exact .nil
  | d :: ds, _, h => by obtain ⟨v, r, rfl, h1, h2⟩ := h.cons_inv; exact .cons h1 h2.paired
theorem RlL.unpaired {K : Frag} {ρ : Rho} {H : Hp} {ds : List D} {vs : List V} (h : Paired (Rl K ρ H) ds vs) : RlL K ρ H ds vs := by
  induction h with
  | nil => exact RlL.nil
  | cons r _ ih => exact RlL.cons r ih
end
end Cr

set_option maxRecDepth 100000
set_option maxHeartbeats 1000000
namespace Cr
open PySem PySem.Spec PyProof.Rows PySem.Calls L2
section
variable {F : Cf} {X : Cx} {W : VW} {C : Cl} {c : CC} {f : Str} {n : Nat} {kws : List (List Str)} {p pos : Pos} {es : List Expr} {xs : List Ex} {kw : List Keyword} {ks : List Str}
theorem pE_call (S : Sd F X C c W) (hf : (f, n, kws) ∈ c.fns) (hg : decide (c.sc.names.lookup f = some .globalImplicit) = true) (hdb : (f == ("__debug__" : Str)) = false) (hn : es.all notStar = true) (h0 : es = [] → xs = []) (ha : PA X es (tA F W (evEs C xs))) :
    PE X (.Call (.Name f p) es [] pos) (tE F W (evE C (.call f xs []))) := by
  refine ⟨fun pins s σ H Q I h => ?_⟩
  obtain ⟨k, hr, a, fd, ps, hm, hk, hps, FG, hb, _, _, hlen⟩ := S.fn f n kws hf
  have hg' : Gl X f := by show X.env.scope.names.lookup f = _; rw [S.sc]; exact of_decide_eq_true hg
  refine wpAny_Call_Name_kw (ld_glob I hg' (by rw [S.g.mg]; exact hm) ?_ hdb)
  have fin : ∀ (us : List Value) (s1 : Shared) (vs : List V) (H1 : Hp), L2.Inv X pins σ H1 s1 → Vals vs us → (∃ ds st ρ, SR F.τ F.K ρ H1 st ∧ RlL F.K ρ H1 ds vs ∧ Post F (Rl F.K) W (C.call f ds [] st) ρ H1 Q) → wpAny (model X.prog X.w) X.A (call (.ref a) us) (EP X pins σ Q) X.xe s1 := by
    intro us s1 vs H1 I1 rv ⟨ds, st, ρ, hs, rd, q⟩
    have hl : ds.length = n := by
      by_cases e : ds.length = n
      · exact e
      · rw [hlen ds st e] at q; exact q.elim
    have hvl : vs.length = n := by rw [← rd.len, hl]
    have FG' : FnG X.prog X.w X.K X.mg X.base k a fd ps (spF F (fun ds => C.call f ds []) n) := by rw [S.g.K, S.g.mg]; exact FG
    exact run_fnG FG' hr S.g.guards (hb s1 us (by rw [← rv.length, hvl])) (passes_call S.tk fun cls d _ H h => h) I1 rv ⟨hvl, ds, st, ρ, rd, hs, q⟩
  have hA : tA F W (evEs C xs) σ H (fun vs H1 => ∃ ds st ρ, SR F.τ F.K ρ H1 st ∧ RlL F.K ρ H1 ds vs ∧ Post F (Rl F.K) W (C.call f ds [] st) ρ H1 Q) :=
    tM.step h fun env ds vs st1 ρ1 H1 he hs r q => ⟨ds, st1, ρ1, hs, r, q⟩
  have hkX : PySem.W.keepIn X.K (.ref a) = true := by rw [S.g.K]; exact hk
  cases es with
  | nil =>
    refine PySem.W.callWith_K0 I.kIn hkX ?_
    have e := h0 rfl
    subst e
    obtain ⟨env, st, ρ, he, hs, hp⟩ := hA
    exact fin [] s [] H I .nil (Post.ret hp hs RlL.nil)
  | cons e es =>
    simp only [List.all_cons, Bool.and_eq_true] at hn
    refine PySem.W.callWith_K (h₀ := X.base) I.ok.mod.kin hkX (thn (ha.run pos pins s σ H _ I hA) fun us s1 ⟨vs, H1, I1, r, q⟩ => ⟨I1.kIn, ?_⟩) (star_cons hn.1 X.env) (star_any hn.2 pos X.env)
    exact fin us s1 vs H1 I1 r q
def kwIs : List Str → List Keyword → Bool
  | [], [] => true
  | k :: ks, ⟨some x, _, _⟩ :: r => decide (x = k) && kwIs ks r
  | _, _ => false
theorem kw_facts : ∀ {ks : List Str} {kw : List Keyword}, kwIs ks kw = true → ∀ (pos : Pos) (env : PySem.Env),
    (backToKw pos (keywordEach kw env)).all (·.1.isSome) = true ∧ (backToKw pos (keywordEach kw env)).filterMap (·.1) = ks ∧ (backToKw pos (keywordEach kw env)).any (·.1.isNone) = false
  | [], [], _, _, _ => ⟨rfl, rfl, rfl⟩
  | k :: ks, ⟨some x, e, p⟩ :: r, h, pos, env => by
    simp only [kwIs, Bool.and_eq_true, decide_eq_true_eq] at h
    obtain ⟨rfl, h⟩ := h
    obtain ⟨h1, h2, h3⟩ := kw_facts h pos env
    show ((some x).isSome && (backToKw pos (keywordEach r env)).all (·.1.isSome)) = true ∧ (x :: (backToKw pos (keywordEach r env)).filterMap (·.1)) = x :: ks ∧ ((some x).isNone || (backToKw pos (keywordEach r env)).any (·.1.isNone)) = false
    rw [h1, h2, h3]
    exact ⟨rfl, rfl, rfl⟩
  | [], _ :: _, h, _, _ => by cases h
  | _ :: _, [], h, _, _ => by cases h
  | _ :: _, ⟨none, _, _⟩ :: _, h, _, _ => by cases h
theorem pK_nil : PK X [] (tA F W (evEs C [])) := ⟨fun pos pins s σ H Q I ⟨env, st, ρ, he, hs, hp⟩ => pk_nil.run pos pins s σ H Q I (hp.ret hs RlL.nil)⟩
theorem pK_cons {e : Expr} {xa : Ex} {nm : Option Str} {kpos : Pos} (ha : PE X e (tE F W (evE C xa))) (hr : PK X kw (tA F W (evEs C xs))) : PK X (⟨nm, e, kpos⟩ :: kw) (tA F W (evEs C (xa :: xs))) :=
  ⟨fun pos pins s σ H Q I h => (pk_cons ha hr).run pos pins s σ H Q I (tM.step h fun env x v st1 ρ1 H1 he hs r q => ⟨env, st1, ρ1, he, hs, q.bnd.imp fun ys H2 ⟨ds, st2, ρ2, x2, s2, r2, q2⟩ => q2.ret s2 (RlL.cons (Rl.mono x2 _ _ r) r2)⟩)⟩
theorem pE_callK (S : Sd F X C c W) (hf : (f, n, kws) ∈ c.fns) (hks : ks ∈ kws) (hne : ks ≠ []) (hg : decide (c.sc.names.lookup f = some .globalImplicit) = true) (hdb : (f == ("__debug__" : Str)) = false) (hkw : kwIs ks kw = true) (ha : PK X kw (tA F W (evEs C xs))) :
    PE X (.Call (.Name f p) [] kw pos) (tE F W (evE C (.call f xs ks))) := by
  refine ⟨fun pins s σ H Q I h => ?_⟩
  obtain ⟨k, hr, a, fd, ps, hm, hk, hps, FG, _, hbk, hck, hlen⟩ := S.fn f n kws hf
  have hg' : Gl X f := by show X.env.scope.names.lookup f = _; rw [S.sc]; exact of_decide_eq_true hg
  obtain ⟨k1, k2, k3⟩ := kw_facts hkw pos X.env
  refine wpAny_Call_Name_kw (ld_glob I hg' (by rw [S.g.mg]; exact hm) ?_ hdb)
  have hkX : PySem.W.keepIn X.K (.ref a) = true := by rw [S.g.K]; exact hk
  refine PySem.W.callWith_KW0 (h₀ := X.base) I.ok.mod.kin hkX k1 ?_ (by show (false || (backToKw pos (keywordEach kw X.env)).any (·.1.isNone)) = false; rw [k3]; rfl)
  have hA : tA F W (evEs C xs) σ H (fun vs H1 => ∃ ds st ρ, SR F.τ F.K ρ H1 st ∧ RlL F.K ρ H1 ds vs ∧ Post F (Rl F.K) W (C.call f ds ks st) ρ H1 Q) :=
    tM.step h fun env ds vs st1 ρ1 H1 he hs r q => ⟨ds, st1, ρ1, hs, r, q⟩
  refine thn (ha.run pos pins s σ H _ I hA) fun us s1 ⟨vs, H1, I1, rv, ds, st, ρ, hs, rd, q⟩ => ⟨I1.kIn, ?_⟩
  rw [k2]
  rcases hck ks hks ds st with e | ⟨es, e0, e1, e2⟩
  · rw [e] at q; exact q.elim
  · rw [e2] at q
    have hl : es.length = n := by
      by_cases e : es.length = n
      · exact e
      · rw [hlen es st e] at q; exact q.elim
    obtain ⟨ws, w1, w2⟩ := ord_rel rd.paired e1
    obtain ⟨us', u1, u2⟩ := ord_rel rv w1
    have re := RlL.unpaired w2
    have hwl : ws.length = n := by rw [← re.len, hl]
    obtain ⟨hkl, hbk⟩ := hbk ks hks
    have hul : us.length = n := by
      rw [← rv.length, ← rd.len, e0]
    have FG' : FnG X.prog X.w X.K X.mg X.base k a fd ps (spF F (fun ds => C.call f ds []) n) := by rw [S.g.K, S.g.mg]; exact FG
    exact run_fnG FG' hr S.g.guards (hbk s1 us us' hul u1) (passes_call S.tk fun cls d _ H h => h) I1 u2 ⟨hwl, es, st, ρ, re, hs, q⟩
end
end Cr

set_option maxRecDepth 100000
set_option maxHeartbeats 1000000
namespace Cr
open PySem PySem.Spec PyProof.Rows PySem.Calls L2
/-- a list (false), a tuple (true) -/
def SqX (b : Bool) (K : Frag) (H : Hp) (a : Addr) (xs : List V) : Prop := if b = true then SqT K H a xs else SqL K H a xs
def ItX (b : Bool) (h : Heap) (it a : Addr) (i : Nat) : Prop := if b = true then h.IsTupleIter it a i else h.IsListIter it a i
def PlX (b : Bool) (h : Heap) (a : Addr) (items : Array Value) : Prop := if b = true then h.IsTuple a items else h.IsList a items
theorem ItX.at {b : Bool} {h h' : Heap} {it a : Addr} {i : Nat} (x : ItX b h it a i) (k : ∀ o, h.get? it = some o → h'.get? it = some o) : ItX b h' it a i := by
  cases b with
  | false => exact Heap.IsListIter.at (show h.IsListIter it a i from x) k
  | true => exact Heap.IsTupleIter.at (show h.IsTupleIter it a i from x) k
theorem ItX.ob {b : Bool} {h : Heap} {it a : Addr} {i : Nat} (x : ItX b h it a i) : ∃ o, h.get? it = some o ∧ ∀ v, o.data ≠ .cell v := by
  cases b with
  | false => obtain ⟨o, e, c, d⟩ := (show h.IsListIter it a i from x); exact ⟨o, e, fun v z => by rw [d] at z; cases z⟩
  | true => obtain ⟨o, e, c, d⟩ := (show h.IsTupleIter it a i from x); exact ⟨o, e, fun v z => by rw [d] at z; cases z⟩
theorem draws_seq {prog : Program} {w : World} {A : Around} (b : Bool) (hh : A.handled = none) (it a : Addr) (hne : a ≠ it) (items : Array Value) :
    Draws prog w A it [it, a] items.size (fun i v => items[i]? = some v) (fun i h => ItX b h it a i ∧ PlX b h a items) := by
  cases b with
  | false => exact Draws.list hh it a hne items
  | true => exact Draws.tuple hh it a hne items
/-- behind the end nothing is drawn -/
theorem draws_end {prog : Program} {w : World} {A : Around} (b : Bool) (hh : A.handled = none) (it a : Addr) (hne : a ≠ it) (items : Array Value) (i : Nat) (hi : items.size ≤ i) :
    Draws prog w A it [it, a] i (fun i v => items[i]? = some v) (fun j h => j = i ∧ ItX b h it a i ∧ PlX b h a items) where
  live := fun _ _ st => let ⟨o, e, _⟩ := st.2.1.ob; ⟨o, e⟩
  frame := fun j h h' st hk => ⟨st.1, st.2.1.at fun o e => hk it (by simp) o e, by
    cases b with
    | false => exact Heap.IsList.at (show h.IsList a items from st.2.2) fun o e => hk a (by simp) o e
    | true => exact Heap.IsTuple.at (show h.IsTuple a items from st.2.2) fun o e => hk a (by simp) o e⟩
  item := fun j s Q E hj st hQ => absurd st.1 (Nat.ne_of_lt hj)
  done := fun s Q E st hE => by
    cases b with
    | false => exact wpAny_nextOf_list_end hh (show s.heap.IsListIter it a i from st.2.1) (show s.heap.IsList a items from st.2.2) (Array.getElem?_eq_none hi) hE
    | true => exact wpAny_nextOf_tuple_end hh (show s.heap.IsTupleIter it a i from st.2.1) (show s.heap.IsTuple a items from st.2.2) (Array.getElem?_eq_none hi) hE
section
variable {F : Cf} {X : Cx} {W : VW} {C : Cl} {K : Frag} {ρ : Rho} {H : Hp} {pins : List (Addr × Obj)} {σ : L2.St} {s : Shared}
theorem Inv.seqX (I : L2.Inv X pins σ H s) {b : Bool} {a : Addr} {xs : List V} (h : SqX b X.K H a xs) : ∃ its : List Value, Vals xs its ∧ PlX b s.heap a its.toArray ∧ xs.length ≤ sizeLine ∧ ∃ o, s.heap.get? a = some o ∧ (o.cls = .type "list" ∨ o.cls = .type "tuple") := by
  cases b with
  | false =>
    obtain ⟨its, r, p, z⟩ := I.list (show SqL X.K H a xs from h)
    obtain ⟨o, e, c, _⟩ := p.isList
    exact ⟨its, r, p.isList, z, o, e, .inl c⟩
  | true =>
    obtain ⟨its, r, p, z⟩ := I.tuple (show SqT X.K H a xs from h)
    obtain ⟨o, e, c, n, d⟩ := p
    exact ⟨its, r, ⟨o, e, c, n, d⟩, z, o, e, .inr c⟩
theorem Inv.seqX_inj (I : L2.Inv X pins σ H s) {b : Bool} {a : Addr} {xs ys : List V} (h : SqX b X.K H a xs) (h' : SqX b X.K H a ys) : xs = ys := by
  cases b with
  | false => exact I.list_inj h h'
  | true => exact I.tuple_inj h h'
/-- each item with its place, in a new pair -/
def ItE (b : Bool) (K : Frag) (a : Addr) : It :=
  ⟨fun i H => ∃ (xs : List V) (x : V), SqX b K H a xs ∧ xs[i]? = some x, fun i H v H' => ∃ T x its, v = .ref T ∧ H T = none ∧ H' = upd H T (fz its [.int (i : Nat), x]) ∧ ∀ xs, SqX b K H a xs → xs[i]? = some x, fun i H => ∃ xs : List V, SqX b K H a xs ∧ xs.length ≤ i⟩
theorem turn_enumX {P : Program} {w : World} {elts : List Expr} {kk : Nat} {tpos : Pos} (b : Bool) (a e it : Addr) :
    Turn P w K (.Tuple elts kk tpos) (ItE b K a) [e, it] e (fun i h => (∃ old, IsEnum h e it ((i : Nat) : Int) old) ∧ ItX b h it a i ∧ e ≠ it) where
  mem := by simp
  obj := fun i h st c hb => by
    obtain ⟨⟨old, he⟩, hi, _⟩ := st
    have e' : c = e ∨ c = it := by simpa using hb
    rcases e' with z | z
    · rw [z]; exact ⟨_, he, fun v q => nomatch q⟩
    · rw [z]; exact hi.ob
  keep := fun i h h' st k => let ⟨⟨old, he⟩, hi, hne⟩ := st; ⟨⟨old, k e (by simp) _ he⟩, hi.at fun o q => k it (by simp) o q, hne⟩
  item := by
    intro X hP hw hK hc i pins s σ H E I hf st hg
    subst hP hw hK
    obtain ⟨⟨old, he⟩, hit, hne⟩ := st
    obtain ⟨xs, x, hq, hx⟩ := hg
    obtain ⟨its, rv, p, hz, oa, ea, ca⟩ := Inv.seqX I hq
    obtain ⟨u, hu, ru⟩ := rv.get hx
    have hel : e < s.heap.objs.size := Heap.lt_size he
    obtain ⟨oi, ei, _⟩ := hit.ob
    have hil : it < s.heap.objs.size := Heap.lt_size ei
    have hae : e ≠ a := by
      rintro rfl
      have he' : s.heap.get? e = some { cls := .type "enumerate", dict := none, data := .fields #[.none, .bool false, .ref it, rawInt i, .none, old], slots := #[] } := he
      rw [ea] at he'; cases he'
      rcases ca with c | c <;> exact absurd (Value.type.inj c) (by decide)
    have hai : a ≠ it := by
      rintro rfl
      cases b with
      | false => obtain ⟨o, q1, q2, _⟩ := (show s.heap.IsListIter a a i from hit); rw [ea] at q1; cases q1; rw [q2] at ca; rcases ca with c | c <;> exact absurd (Value.type.inj c) (by decide)
      | true => obtain ⟨o, q1, q2, _⟩ := (show s.heap.IsTupleIter a a i from hit); rw [ea] at q1; cases q1; rw [q2] at ca; rcases ca with c | c <;> exact absurd (Value.type.inj c) (by decide)
    have hlt : i < its.toArray.size := by
      obtain ⟨hlt, _⟩ := List.getElem?_eq_some_iff.mp hu
      simpa using hlt
    refine wpAny_pyNext_enum_itemD (draws_seq b (A := X.A.in1) (I.ok.hd hc) it a hai its.toArray) he ⟨hit, p⟩ hlt hne (by simp; exact ⟨hne, hae⟩) fun u2 h' tk hP ho hst' hT hsz hk => ?_
    have eu : u2 = u := by
      have h1 : its.toArray[i]? = some u2 := hP
      have h2 : its.toArray[i]? = some u := by simpa using hu
      rw [h1] at h2; exact Option.some.inj h2
    subst eu
    refine ⟨_, rfl, wpAny_letOwnedTupleGo_enum (s := { s with heap := h', toks := tk + 1 }) ho fun h'' he' sb => ?_⟩
    have hT2 : h''.get? s.heap.objs.size = some (tupO [.int i tk, u2]) := (sb.2 _ (Nat.ne_of_gt hel)).trans hT
    have new : ObjOk X.prog X.w (upd H s.heap.objs.size (fz [.int i tk, u2] [.int (i : Nat), x])) h'' s.heap.objs.size (fz [.int i tk, u2] [.int (i : Nat), x]) :=
      ⟨hT2, by show 2 ≤ sizeLine; decide, [.int i tk, u2], .cons ⟨_, rfl⟩ (.cons ru .nil), ⟨_, hT2, rfl, _, rfl⟩⟩
    have I1 : L2.Inv X pins σ (upd H s.heap.objs.size (fz [.int i tk, u2] [.int (i : Nat), x])) { s with heap := h'', toks := tk + 1 } :=
      I.turnedNew (ch := [e, it]) (fun b ob hb q => (sb.2 b (fun z => hb (by simp [z]))).trans (hk b ob (fun z => hb (by simp [z])) (fun z => hb (by simp [z])) q)) hf (Nat.le_refl _) new
    refine ⟨.ref s.heap.objs.size, _, I1, rfl, ⟨_, x, _, rfl, I.hok.fresh (Nat.le_refl _), rfl, fun ys hy => by rw [Inv.seqX_inj I hy hq]; exact hx⟩, ⟨⟨u2, ?_⟩, hst'.1.at fun o q => (sb.2 it (Ne.symm hne)).trans q, hne⟩, fun b hb => ?_⟩
    · have e1 : ((i + 1 : Nat) : Int) = (i : Int) + 1 := by omega
      rw [e1]; exact he'
    · have hb' : b < s.heap.objs.size := by
        have e' : b = e ∨ b = it := by simpa using hb
        rcases e' with z | z
        · rw [z]; exact hel
        · rw [z]; exact hil
      rw [upd_ne (Nat.ne_of_lt hb')]
      exact (hf b hb).1
  done := by
    intro X hP hw hK hc i pins s σ H E I hf st hg
    subst hP hw hK
    obtain ⟨⟨old, he⟩, hit, hne⟩ := st
    obtain ⟨xs, hq, hx⟩ := hg
    obtain ⟨its, rv, p, hz, oa, ea, ca⟩ := Inv.seqX I hq
    obtain ⟨f0, f1, f2, f3, f4, f5⟩ := hf it (by simp)
    have hl := rv.length
    have hai : a ≠ it := by
      rintro rfl
      cases b with
      | false => obtain ⟨o, q1, q2, _⟩ := (show s.heap.IsListIter a a i from hit); rw [ea] at q1; cases q1; rw [q2] at ca; rcases ca with c | c <;> exact absurd (Value.type.inj c) (by decide)
      | true => obtain ⟨o, q1, q2, _⟩ := (show s.heap.IsTupleIter a a i from hit); rw [ea] at q1; cases q1; rw [q2] at ca; rcases ca with c | c <;> exact absurd (Value.type.inj c) (by decide)
    have hi : its.toArray.size ≤ i := by rw [List.size_toArray]; omega
    exact wpAny_pyNext_enum_endD (draws_end b (A := X.A.in1) (I.ok.hd hc) it a hai its.toArray i hi) he ⟨rfl, hit, p⟩ fun h' eb => ⟨rfl, I.turned (t' := s.toks) (fun b o hb q => eb b o hb q) f0 f1 f3 f4 f5⟩
  self := fun A i s Q E st h => let ⟨⟨_, he⟩, _⟩ := st; wpAny_pyIter_enum he h
theorem meets_enumerate_newT (l : Addr) (items : Array Value) (n : Nat) (dct : Option Addr) (sl : Array (Option Value)) :
    Meets (Builtin.«enumerate.__new__» ⟨[.type "enumerate", .ref l], []⟩) (fun _ R s => s.heap.get? l = some { cls := .type "tuple", dict := dct, data := .seq items n, slots := sl } ∧
      R (.ok (.ret (.ref (s.heap.push { cls := .type "tuple_iterator", data := .fields #[.ref l, .int 0 0] }).objs.size)))
        { s with heap := (s.heap.push { cls := .type "tuple_iterator", data := .fields #[.ref l, .int 0 0] }).push { cls := .type "enumerate", data := .fields #[.none, .bool false, .ref s.heap.objs.size, rawInt 0, .none, .none] } }) :=
  .of_wp fun prog w A R s h => by
    obtain ⟨hp, g, d, tk, os⟩ := s; obtain ⟨hl, h⟩ := h
    have hsub := sub_enumerate
    have hL : Heap.IsTuple (Shared.heap ⟨hp, g, d, tk, os⟩) l items := ⟨_, hl, rfl, n, rfl⟩
    wp_walk using AutoSeq1.wpAny_loadPart' hl
    refine wpAny_stack_any fun st => wpAny_pure ?_
    split
    · rename_i c _ _ _ _ _
      cases (c == Value.type "enumerate")
      · wp_walk using AutoSeq1.wpAny_loadPart' hl, wpAny_pyIter_tuple hL
        exact ⟨_, rfl, h⟩
      · wp_walk using AutoSeq1.wpAny_loadPart' hl, wpAny_pyIter_tuple hL
        exact ⟨_, rfl, h⟩
    · wp_walk using AutoSeq1.wpAny_loadPart' hl, wpAny_pyIter_tuple hL
      exact ⟨_, rfl, h⟩
theorem call_enumerate_X {prog : Program} {w : World} {A : Around} {E : Value → Shared → Prop} {s : Shared} {b : Bool} {l : Addr} {items : Array Value} {Q : Value → Shared → Prop} (hL : PlX b s.heap l items)
    (h : ∀ h', IsEnum h' (s.heap.objs.size + 1) s.heap.objs.size 0 .none → ItX b h' s.heap.objs.size l 0 → h'.objs.size = s.heap.objs.size + 2 →
      (∀ b o, s.heap.get? b = some o → h'.get? b = some o) → Q (.ref (s.heap.objs.size + 1)) { s with heap := h' }) :
    wpAny (model prog w) A (call (.type "enumerate") [.ref l]) Q E s := by
  cases b with
  | false => exact call_enumerate_list (show s.heap.IsList l items from hL) fun h' he hit hsz hk => h h' he hit hsz hk
  | true =>
    obtain ⟨⟨c, dct, dt, sl⟩, hl, hc, n, hd⟩ := (show s.heap.IsTuple l items from hL)
    replace hc : c = .type "tuple" := hc
    replace hd : dt = .seq items n := hd
    subst hc hd
    refine callType_new PySem.F.called_enumerate (by decide) (PySem.F.typeCall_enumerate_1 _) (PySem.F.newCall_enumerate_1 _) (fun obj => PySem.F.args_object_init_2 obj _) PySem.F.entry_enumerate_new
      (meets_enumerate_newT l items n dct sl) ⟨hl, ?_⟩
    have hz : (s.heap.push { cls := .type "tuple_iterator", data := .fields #[.ref l, .int 0 0] }).objs.size = s.heap.objs.size + 1 := Heap.size_push ..
    show _ ∧ _
    rw [hz]
    have he : IsEnum ((s.heap.push { cls := .type "tuple_iterator", data := .fields #[.ref l, .int 0 0] }).push
        { cls := .type "enumerate", data := .fields #[.none, .bool false, .ref s.heap.objs.size, rawInt 0, .none, .none] }) (s.heap.objs.size + 1) s.heap.objs.size 0 .none := by
      have := Heap.get?_push_size (s.heap.push { cls := .type "tuple_iterator", data := .fields #[.ref l, .int 0 0] })
        (o := { cls := .type "enumerate", data := .fields #[.none, .bool false, .ref s.heap.objs.size, rawInt 0, .none, .none] }) rfl
      rw [hz] at this; exact this
    refine ⟨⟨_, he, rfl⟩, h _ he ⟨_, Heap.get?_push_of_some _ (Heap.get?_push_size _ rfl), rfl, rfl⟩ (by rw [Heap.size_push, hz]) fun b o x => Heap.get?_push_of_some _ (Heap.get?_push_of_some _ x)⟩
theorem pi_enumX {e : Expr} {te : TE} {p pos tpos : Pos} {elts : List Expr} {kk : Nat} (B : Bn X "enumerate") (hn : notStar e = true) (he : PE X e te) :
    PI X (.Tuple elts kk tpos) (.Call (.Name "enumerate" p) [e] [] pos) (fun σ H R => te σ H fun x H1 => ∃ a b xs, [x] = [V.ref a] ∧ SqX b X.K H1 a xs ∧ R (ItE b X.K a) H1) := by
  refine ⟨fun pins s σ H R I h => ?_⟩
  refine Call_ (ld_blt I B.g B.m PyProof.Rows.boot_enumerate (PyProof.Rows.callWith_type1 (thn ((pA_one hn he).run pos pins s σ H (fun vs H1 => ∃ a b xs, vs = [.ref a] ∧ SqX b X.K H1 a xs ∧ R (ItE b X.K a) H1) I h) fun us s1 ⟨vs, H1, I1, r1, q1⟩ => ?_) (by rw [star_cons hn] <;> rfl) rfl))
  obtain ⟨a, b, xs, ex, hq, q⟩ := q1
  subst ex
  cases r1 with
  | cons r rr =>
    cases rr
    cases r
    obtain ⟨its, rv, p', hz, _⟩ := Inv.seqX I1 hq
    refine call_enumerate_X p' fun h' he hit hsz hk => wpAny_pyIter_enum he ?_
    have I2 : L2.Inv X pins σ H1 { s1 with heap := h' } := I1.kept (t' := s1.toks) hk
    refine ⟨s1.heap.objs.size + 1, [s1.heap.objs.size + 1, s1.heap.objs.size], _, _, H1, rfl, I2, turn_enumX b a (s1.heap.objs.size + 1) s1.heap.objs.size, ⟨⟨.none, he⟩, hit, Nat.succ_ne_self _⟩, fun b hb => ?_, q⟩
    have e' : b = s1.heap.objs.size + 1 ∨ b = s1.heap.objs.size := by simpa using hb
    have hle : s1.heap.objs.size ≤ b := by
      rcases e' with z | z
      · rw [z]; exact Nat.le_add_right _ _
      · rw [z]; exact Nat.le_refl _
    exact I1.fpOk hle (I1.hok.fresh hle)
theorem SeqP.x {a : Addr} {J : It} (h : SeqP K H a J) : ∃ b, (∃ xs, SqX b K H a xs) ∧ J = ⟨fun i H => ∃ xs x, SqX b K H a xs ∧ xs[i]? = some x, fun i H x H' => H' = H ∧ ∀ xs, SqX b K H a xs → xs[i]? = some x, fun i H => ∃ xs, SqX b K H a xs ∧ xs.length ≤ i⟩ := by
  rcases h with ⟨h, rfl⟩ | ⟨h, rfl⟩
  · exact ⟨false, h, rfl⟩
  · exact ⟨true, h, rfl⟩
theorem hd_en {a : Addr} {J : It} {h : Hd} {b : Bool} (hj : HdR τ K ρ H h ⟨fun i H => ∃ xs x, SqX b K H a xs ∧ xs[i]? = some x, fun i H x H' => H' = H ∧ ∀ xs, SqX b K H a xs → xs[i]? = some x, fun i H => ∃ xs, SqX b K H a xs ∧ xs.length ≤ i⟩) : HdR τ K ρ H (.en h) (ItE b K a) := fun ρ' H' st i e s => by
  have q := hj ρ' H' st i e s
  show match (match h.get st i with | some (some d) => some (some (D.tup [.int i, d])) | some none => some none | none => none) with | some (some d) => _ | some none => _ | none => _
  cases hg : h.get st i with
  | none => trivial
  | some o =>
    rw [hg] at q
    cases o with
    | none => exact q
    | some d =>
      obtain ⟨go, yl⟩ := q
      refine ⟨go, fun v H2 ⟨T, x, its, ev, hn, eH, hx⟩ => ?_⟩
      subst ev eH
      obtain ⟨_, _, rd⟩ := yl x H' ⟨rfl, hx⟩
      obtain ⟨s', e'⟩ := s.beside (u := fz its [.int (i : Nat), x]) hn
      exact ⟨e', s', rl_tup SqD.new (RlL.cons rl_int (RlL.cons (Rl.mono e' _ _ rd) RlL.nil))⟩
theorem pQ_enm {e : Expr} {l : Ls} {p pos tpos : Pos} {elts : List Expr} {kk : Nat} (g : Gx F X) (B : Bn X "enumerate") (hn : notStar e = true) (he : PE X e (tH F W (evH C l))) :
    PI X (.Tuple elts kk tpos) (.Call (.Name "enumerate" p) [e] [] pos) (tQ F W (evQ C (.enm l))) :=
  (pi_enumX B hn he).imp fun σ H R h => tM.step h fun env hd v st1 ρ1 H1 he hs ⟨a, J, ev, hq, hj⟩ q => by
    obtain ⟨b, ⟨xs, hx⟩, rfl⟩ := hq.x
    refine ⟨a, b, xs, by rw [ev], by rw [g.K]; exact hx, ?_⟩
    rw [g.K]
    exact q.ret hs (hd_en (J := ItE b F.K a) hj)
end
end Cr

set_option maxRecDepth 100000
set_option maxHeartbeats 1000000
namespace Cr
open PySem PySem.Spec PyProof.Rows PySem.Calls L2
section
variable {prog : Program} {w : World} {A : Around} {E : Value → Shared → Prop} {s : Shared}
theorem zsep {z TI TO i1 i2 l1 l2 : Addr} (D : ZipApart z TI TO i1 i2 l1 l2) : ZipSep2 z TI TO i1 i2 [i1, l1] [i2, l2] where
  TIz := D.TIz
  TOz := D.TOz
  TITO := D.TITO
  TIi1 := D.TIi1
  mem1 := by simp
  zf1 := by simp [D.i1z.symm, D.l1z.symm]
  Tf1 := by simp [D.TOi1, D.l1TO.symm]
  TIi2 := D.TIi2
  mem2 := by simp
  zf2 := by simp [D.i2z.symm, D.l2z.symm]
  Tf2 := by simp [D.TOi2, D.l2TO.symm]
  sep1_2 := by simp [D.i12, D.l2i1.symm]
  sep2_1 := by simp [D.i12.symm, D.l1i2.symm]
theorem zipX_item {q q2 : Bool} {z TI TO i1 i2 l1 l2 : Addr} {k : Nat} {xs ys : Array Value} {x y a c : Value} {Q : Option Value → Shared → Prop} (hh : A.handled = none) (D : ZipApart z TI TO i1 i2 l1 l2)
    (hz : IsZip s.heap z TI TO .none) (hI : IsPair s.heap TI (.ref i1) (.ref i2)) (hO : IsPair s.heap TO a c) (h1 : ItX q s.heap i1 l1 k) (h2 : ItX q2 s.heap i2 l2 k) (p1 : PlX q s.heap l1 xs) (p2 : PlX q2 s.heap l2 ys)
    (hx : xs[k]? = some x) (hy : ys[k]? = some y)
    (go : ∀ h' tk, IsZip h' z TI TO (rawInt s.heap.objs.size) → IsPair h' TO x y → ItX q h' i1 l1 (k + 1) → ItX q2 h' i2 l2 (k + 1) → IsPair h' s.heap.objs.size x y →
      (∀ c o, c ≠ z → c ≠ TO → c ≠ i1 → c ≠ i2 → s.heap.get? c = some o → h'.get? c = some o) → Q (some (.ref s.heap.objs.size)) { s with heap := h', toks := tk }) : wpAny (model prog w) A (pyNext (.ref z)) Q E s := by
  have hk1 : k < xs.size := (Array.getElem?_eq_some_iff.mp hx).1
  have hk2 : k < ys.size := (Array.getElem?_eq_some_iff.mp hy).1
  refine wpAny_pyNext_zipD2_item (zsep D) (draws_seq (A := A.in1) q hh i1 l1 D.l1i1 xs) (draws_seq (A := A.in1) q2 hh i2 l2 D.l2i2 ys) hz hI hO ⟨h1, p1⟩ ⟨h2, p2⟩ hk1 hk2 fun x1 x2 h' tk e1 e2 b1 b2 d1 d2 b5 _ b7 => ?_
  have e1 : x1 = x := by have := e1.symm.trans hx; exact Option.some.inj this
  have e2 : x2 = y := by have := e2.symm.trans hy; exact Option.some.inj this
  subst e1 e2
  exact go h' tk b1 b2 d1.1 d2.1 b5 b7
theorem zipX_end {q q2 : Bool} {z TI TO i1 i2 l1 l2 : Addr} {k : Nat} {xs ys : Array Value} {a c : Value} {Q : Option Value → Shared → Prop} (hh : A.handled = none) (D : ZipApart z TI TO i1 i2 l1 l2)
    (hz : IsZip s.heap z TI TO .none) (hI : IsPair s.heap TI (.ref i1) (.ref i2)) (hO : IsPair s.heap TO a c) (h1 : ItX q s.heap i1 l1 k) (h2 : ItX q2 s.heap i2 l2 k) (p1 : PlX q s.heap l1 xs) (p2 : PlX q2 s.heap l2 ys)
    (he : xs[k]? = none ∨ ys[k]? = none) (go : ∀ h' tk, (∀ c o, c ≠ z → c ≠ TO → c ≠ i1 → c ≠ i2 → s.heap.get? c = some o → h'.get? c = some o) → Q none { s with heap := h', toks := tk }) : wpAny (model prog w) A (pyNext (.ref z)) Q E s := by
  have nn : ∀ {zs : Array Value}, zs[k]? = none → zs.size ≤ k := fun h => Array.getElem?_eq_none_iff.mp h
  by_cases c1 : xs.size ≤ k
  · have D1 := draws_end (prog := prog) (w := w) (A := A.in1) q hh i1 l1 D.l1i1 xs k c1
    by_cases c2 : ys.size ≤ k
    · have D2 := draws_end (prog := prog) (w := w) (A := A.in1) q2 hh i2 l2 D.l2i2 ys k c2
      exact wpAny_pyNext_zipD2_end (zsep D) D1 D2 hz hI hO ⟨rfl, h1, p1⟩ ⟨rfl, h2, p2⟩ (Nat.le_refl _) (Nat.le_refl _) (.inl rfl) go
    · exact wpAny_pyNext_zipD2_end (zsep D) D1 (draws_seq (A := A.in1) q2 hh i2 l2 D.l2i2 ys) hz hI hO ⟨rfl, h1, p1⟩ ⟨h2, p2⟩ (Nat.le_refl _) (Nat.le_of_lt (Nat.lt_of_not_le c2)) (.inl rfl) go
  · have c2 : ys.size ≤ k := by
      rcases he with z | z
      · exact absurd (nn z) c1
      · exact nn z
    exact wpAny_pyNext_zipD2_end (zsep D) (draws_seq (A := A.in1) q hh i1 l1 D.l1i1 xs) (draws_end (prog := prog) (w := w) (A := A.in1) q2 hh i2 l2 D.l2i2 ys k c2) hz hI hO ⟨h1, p1⟩ ⟨rfl, h2, p2⟩ (Nat.le_of_lt (Nat.lt_of_not_le c1)) (Nat.le_refl _) (.inr rfl) go
abbrev zTL1 (h : Heap) (l1 : Addr) : Heap := h.push { cls := .type "tuple_iterator", data := .fields #[.ref l1, .int 0 0] }
abbrev zTL2 (h : Heap) (l1 l2 : Addr) : Heap := (zTL1 h l1).push { cls := .type "list_iterator", data := .fields #[.ref l2, .int 0 0] }
abbrev zTL3 (h : Heap) (l1 l2 : Addr) : Heap := (zTL2 h l1 l2).push { cls := .type "tuple", data := .seq #[.ref h.objs.size, .ref (zTL1 h l1).objs.size] }
abbrev zTL4 (h : Heap) (l1 l2 : Addr) : Heap := (zTL3 h l1 l2).push { cls := .type "tuple", data := .seq #[.none, .none] }
abbrev zTL5 (h : Heap) (l1 l2 : Addr) : Heap := (zTL4 h l1 l2).push { cls := .type "zip", data := .fields #[.none, .bool false, .bool false, .ref (zTL2 h l1 l2).objs.size, .ref (zTL3 h l1 l2).objs.size] }
theorem meets_zTL_new (l1 l2 : Addr) (xs ys : Array Value) :
    Meets (Builtin.«zip.__new__» ⟨[.type "zip", .ref l1, .ref l2], []⟩) (fun _ R s => s.heap.IsTuple l1 xs ∧ s.heap.IsList l2 ys ∧
      R (.ok (.ret (.ref (zTL4 s.heap l1 l2).objs.size))) { s with heap := zTL5 s.heap l1 l2 }) :=
  .of_wp fun prog w A R s h => by
    obtain ⟨hp, g, d, tk, os⟩ := s; obtain ⟨hl1, hl2, h⟩ := h
    have hsub := sub_zip
    have hL1 : Heap.IsTuple (Shared.heap ⟨hp, g, d, tk, os⟩) l1 xs := hl1
    have hL2 : Heap.IsList (Shared.heap ⟨hp.push { cls := .type "tuple_iterator", data := .fields #[.ref l1, .int 0 0] }, g, d, tk, os⟩) l2 ys := Heap.IsList.push hl2 _
    wp_walk using wpAny_pyIter_tuple hL1, wpAny_pyIter_list hL2
    exact ⟨_, rfl, h⟩
theorem call_zTL {l1 l2 : Addr} {xs ys : Array Value} {Q : Value → Shared → Prop} (hl1 : s.heap.IsTuple l1 xs) (hl2 : s.heap.IsList l2 ys)
    (h : ∀ h', IsZip h' (s.heap.objs.size + 4) (s.heap.objs.size + 2) (s.heap.objs.size + 3) .none → IsPair h' (s.heap.objs.size + 2) (.ref s.heap.objs.size) (.ref (s.heap.objs.size + 1)) →
      IsPair h' (s.heap.objs.size + 3) .none .none → h'.IsTupleIter s.heap.objs.size l1 0 → h'.IsListIter (s.heap.objs.size + 1) l2 0 →
      (∀ c o, s.heap.get? c = some o → h'.get? c = some o) → Q (.ref (s.heap.objs.size + 4)) { s with heap := h' }) :
    wpAny (model prog w) A (call (.type "zip") [.ref l1, .ref l2]) Q E s := by
  refine callType_new F.called_zip (by decide) (F.typeCall_zip_2 _ _) (F.newCall_zip_2 _ _) (fun obj => F.args_object_init_3 obj _ _) F.entry_zip_new
    (meets_zTL_new l1 l2 xs ys) ⟨hl1, hl2, ?_⟩
  have z1 : (zTL1 s.heap l1).objs.size = s.heap.objs.size + 1 := Heap.size_push ..
  have z2 : (zTL2 s.heap l1 l2).objs.size = s.heap.objs.size + 2 := by rw [Heap.size_push, z1]
  have z3 : (zTL3 s.heap l1 l2).objs.size = s.heap.objs.size + 3 := by rw [Heap.size_push, z2]
  have z4 : (zTL4 s.heap l1 l2).objs.size = s.heap.objs.size + 4 := by rw [Heap.size_push, z3]
  have g5 : (zTL5 s.heap l1 l2).get? (zTL4 s.heap l1 l2).objs.size = some _ := Heap.get?_push_size _ rfl
  have g4 : (zTL5 s.heap l1 l2).get? (zTL3 s.heap l1 l2).objs.size = some _ := Heap.get?_push_of_some _ (Heap.get?_push_size _ rfl)
  have g3 : (zTL5 s.heap l1 l2).get? (zTL2 s.heap l1 l2).objs.size = some _ := Heap.get?_push_of_some _ (Heap.get?_push_of_some _ (Heap.get?_push_size _ rfl))
  have g2 : (zTL5 s.heap l1 l2).get? (zTL1 s.heap l1).objs.size = some _ := Heap.get?_push_of_some _ (Heap.get?_push_of_some _ (Heap.get?_push_of_some _ (Heap.get?_push_size _ rfl)))
  have g1 : (zTL5 s.heap l1 l2).get? s.heap.objs.size = some _ := Heap.get?_push_of_some _ (Heap.get?_push_of_some _ (Heap.get?_push_of_some _ (Heap.get?_push_of_some _ (Heap.get?_push_size _ rfl))))
  show _ ∧ _
  rw [z2, z3, z4] at g5
  rw [z1, z2] at g3
  rw [z3] at g4
  rw [z1] at g2
  rw [z4]
  exact ⟨⟨_, g5, rfl⟩, h _ g5 g3 g4 ⟨_, g1, rfl, rfl⟩ ⟨_, g2, rfl, rfl⟩ fun c o x =>
    Heap.get?_push_of_some _ (Heap.get?_push_of_some _ (Heap.get?_push_of_some _ (Heap.get?_push_of_some _ (Heap.get?_push_of_some _ x))))⟩
end
section
variable {F : Cf} {X : Cx} {W : VW} {C : Cl} {K : Frag} {ρ : Rho} {H : Hp} {pins : List (Addr × Obj)} {σ : L2.St} {s : Shared}
/-- the pairs of two lists, of two tuples -/
def ItZ (q q2 : Bool) (K : Frag) (a b : Addr) : It where
  go := fun i H => ∃ (xs ys : List V) (x y : V), SqX q K H a xs ∧ SqX q2 K H b ys ∧ xs[i]? = some x ∧ ys[i]? = some y
  yld := fun i H v H' => ∃ T x y its, v = .ref T ∧ H T = none ∧ H' = upd H T (fz its [x, y]) ∧ (∀ xs, SqX q K H a xs → xs[i]? = some x) ∧ (∀ ys, SqX q2 K H b ys → ys[i]? = some y)
  stop := fun i H => ∃ xs ys : List V, SqX q K H a xs ∧ SqX q2 K H b ys ∧ (xs.length ≤ i ∨ ys.length ≤ i)
theorem turn_zipX {P : Program} {w : World} {elts : List Expr} {kk : Nat} {tpos : Pos} (q q2 : Bool) {a b z TI TO i1 i2 : Addr} (D : ZipApart z TI TO i1 i2 a b) :
    Turn P w K (.Tuple elts kk tpos) (ItZ q q2 K a b) [z, TI, TO, i1, i2] z (fun i h => IsZip h z TI TO .none ∧ IsPair h TI (.ref i1) (.ref i2) ∧ (∃ x y, IsPair h TO x y) ∧ ItX q h i1 a i ∧ ItX q2 h i2 b i) where
  mem := by simp
  obj := fun i h st c hc => by
    obtain ⟨zz, zi, ⟨x, y, zo⟩, j1, j2⟩ := st
    simp only [List.mem_cons, List.not_mem_nil, or_false] at hc
    rcases hc with rfl | rfl | rfl | rfl | rfl
    · exact ⟨_, zz, fun v k => nomatch k⟩
    · exact ⟨_, zi, fun v k => nomatch k⟩
    · exact ⟨_, zo, fun v k => nomatch k⟩
    · exact j1.ob
    · exact j2.ob
  keep := fun i h h' st k => by
    obtain ⟨zz, zi, ⟨x, y, zo⟩, j1, j2⟩ := st
    exact ⟨k z (by simp) _ zz, k TI (by simp) _ zi, ⟨x, y, k TO (by simp) _ zo⟩, j1.at fun o e => k i1 (by simp) o e, j2.at fun o e => k i2 (by simp) o e⟩
  item := by
    intro X hP hw hK hc i pins s σ H E I hf st hg
    subst hP hw hK
    obtain ⟨zz, zi, ⟨x0, y0, zo⟩, j1, j2⟩ := st
    obtain ⟨xs, ys, x, y, qx, qy, hx, hy⟩ := hg
    obtain ⟨its, rv, p1, _⟩ := Inv.seqX I qx
    obtain ⟨its2, rv2, p2, _⟩ := Inv.seqX I qy
    obtain ⟨u, hu, ru⟩ := rv.get hx
    obtain ⟨u2, hu2, ru2⟩ := rv2.get hy
    have lt : ∀ c ∈ [z, TI, TO, i1, i2], c < s.heap.objs.size := fun c hcm => by
      simp only [List.mem_cons, List.not_mem_nil, or_false] at hcm
      rcases hcm with rfl | rfl | rfl | rfl | rfl
      · exact Heap.lt_size zz
      · exact Heap.lt_size zi
      · exact Heap.lt_size zo
      · obtain ⟨o, e, _⟩ := j1.ob; exact Heap.lt_size e
      · obtain ⟨o, e, _⟩ := j2.ob; exact Heap.lt_size e
    refine zipX_item (I.ok.hd hc) D zz zi zo j1 j2 p1 p2 (x := u) (y := u2) (by simpa using hu) (by simpa using hu2) fun h' tk z' o' j1' j2' hT hk => ?_
    refine ⟨_, rfl, wpAny_letOwnedTupleGo_zip (s := { s with heap := h', toks := tk }) z' fun h'' z'' sb => ?_⟩
    have hT2 : h''.get? s.heap.objs.size = some (tupO [u, u2]) := (sb.2 _ (Nat.ne_of_gt (lt z (by simp)))).trans hT
    have new : ObjOk X.prog X.w (upd H s.heap.objs.size (fz [u, u2] [x, y])) h'' s.heap.objs.size (fz [u, u2] [x, y]) :=
      ⟨hT2, by show 2 ≤ sizeLine; decide, [u, u2], .cons ru (.cons ru2 .nil), ⟨_, hT2, rfl, _, rfl⟩⟩
    have I1 : L2.Inv X pins σ (upd H s.heap.objs.size (fz [u, u2] [x, y])) { s with heap := h'', toks := tk } :=
      I.turnedNew (t' := tk) (ch := [z, TI, TO, i1, i2]) (fun c o hb e => by
        simp only [List.mem_cons, List.not_mem_nil, or_false, not_or] at hb
        obtain ⟨n1, n2, n3, n4, n5⟩ := hb
        exact (sb.2 c n1).trans (hk c o n1 n3 n4 n5 e)) hf (Nat.le_refl _) new
    refine ⟨.ref s.heap.objs.size, _, I1, rfl, ⟨_, x, y, _, rfl, I.hok.fresh (Nat.le_refl _), rfl, fun l hl => by rw [Inv.seqX_inj I hl qx]; exact hx, fun l hl => by rw [Inv.seqX_inj I hl qy]; exact hy⟩, ⟨z'', (sb.2 _ D.TIz).trans (hk _ _ D.TIz D.TITO D.TIi1 D.TIi2 zi), ⟨u, u2, (sb.2 _ D.TOz).trans o'⟩, j1'.at fun o e => (sb.2 _ D.i1z).trans e, j2'.at fun o e => (sb.2 _ D.i2z).trans e⟩, fun c hcm => ?_⟩
    rw [upd_ne (Nat.ne_of_lt (lt c hcm))]
    exact (hf c hcm).1
  done := by
    intro X hP hw hK hc i pins s σ H E I hf st hg
    subst hP hw hK
    obtain ⟨zz, zi, ⟨x0, y0, zo⟩, j1, j2⟩ := st
    obtain ⟨xs, ys, qx, qy, hend⟩ := hg
    obtain ⟨its, rv, p1, _⟩ := Inv.seqX I qx
    obtain ⟨its2, rv2, p2, _⟩ := Inv.seqX I qy
    have e1 := rv.length
    have e2 := rv2.length
    have he : its.toArray[i]? = none ∨ its2.toArray[i]? = none := by
      rcases hend with k | k
      · left; simp; omega
      · right; simp; omega
    refine zipX_end (I.ok.hd hc) D zz zi zo j1 j2 p1 p2 he fun h' tk hk => ⟨rfl, I.turnedL (t' := tk) (ch := [z, TI, TO, i1, i2]) (fun c o hb e => ?_) hf⟩
    simp only [List.mem_cons, List.not_mem_nil, or_false, not_or] at hb
    obtain ⟨n1, n2, n3, n4, n5⟩ := hb
    exact hk c o n1 n3 n4 n5 e
  self := fun A i s Q E st h => wpAny_pyIter_zip st.1 h
theorem call_zipX {prog : Program} {w : World} {A : Around} {E : Value → Shared → Prop} {s : Shared} {q q2 : Bool} {l1 l2 : Addr} {xs ys : Array Value} {Q : Value → Shared → Prop} (hq : q = false → q2 = false) (h1 : PlX q s.heap l1 xs) (h2 : PlX q2 s.heap l2 ys)
    (go : ∀ h', IsZip h' (s.heap.objs.size + 4) (s.heap.objs.size + 2) (s.heap.objs.size + 3) .none → IsPair h' (s.heap.objs.size + 2) (.ref s.heap.objs.size) (.ref (s.heap.objs.size + 1)) → IsPair h' (s.heap.objs.size + 3) .none .none →
      ItX q h' s.heap.objs.size l1 0 → ItX q2 h' (s.heap.objs.size + 1) l2 0 → (∀ c o, s.heap.get? c = some o → h'.get? c = some o) → Q (.ref (s.heap.objs.size + 4)) { s with heap := h' }) : wpAny (model prog w) A (call (.type "zip") [.ref l1, .ref l2]) Q E s := by
  cases q with
  | false =>
    obtain rfl := hq rfl
    exact call_zip_2 (show s.heap.IsList l1 xs from h1) (show s.heap.IsList l2 ys from h2) fun h' a1 a2 a3 a4 a5 _ a7 => go h' a1 a2 a3 a4 a5 a7
  | true =>
    cases q2 with
    | true => exact RZ.call_zipT (show s.heap.IsTuple l1 xs from h1) (show s.heap.IsTuple l2 ys from h2) fun h' a1 a2 a3 a4 a5 _ a7 => go h' a1 a2 a3 a4 a5 a7
    | false => exact call_zTL (show s.heap.IsTuple l1 xs from h1) (show s.heap.IsList l2 ys from h2) fun h' a1 a2 a3 a4 a5 a7 => go h' a1 a2 a3 a4 a5 a7
theorem pi_zipX {e e2 : Expr} {te te2 : TE} {p pos tpos : Pos} {elts : List Expr} {kk : Nat} (B : Bn X "zip") (n1 : notStar e = true) (n2 : notStar e2 = true) (he : PE X e te) (he2 : PE X e2 te2) :
    PI X (.Tuple elts kk tpos) (.Call (.Name "zip" p) [e, e2] [] pos) (fun σ H R => te σ H fun x H1 => te2 σ H1 fun y H2 => ∃ q q2 a b xs ys, (q = false → q2 = false) ∧ [x, y] = [V.ref a, V.ref b] ∧ SqX q X.K H2 a xs ∧ SqX q2 X.K H2 b ys ∧ R (ItZ q q2 X.K a b) H2) := by
  refine ⟨fun pins s σ H R I h => ?_⟩
  refine Call_ (ld_blt I B.g B.m PyProof.Rows.boot_zip (PyProof.Rows.callWith_type1 (thn ((pA_two n1 n2 he he2).run pos pins s σ H (fun vs H2 => ∃ q q2 a b xs ys, (q = false → q2 = false) ∧ vs = [V.ref a, V.ref b] ∧ SqX q X.K H2 a xs ∧ SqX q2 X.K H2 b ys ∧ R (ItZ q q2 X.K a b) H2) I h) fun us s1 ⟨vs, H1, I1, r1, q1⟩ => ?_) (star_cons n1 X.env) (by rw [star_cons n2]; rfl)))
  obtain ⟨q, q2, a, b, xs, ys, hqq, ex, qx, qy, g⟩ := q1
  subst ex
  obtain ⟨u1, u2, rfl, r1, r2⟩ := r1.two
  obtain rfl : u1 = Value.ref a := r1
  obtain rfl : u2 = Value.ref b := r2
  obtain ⟨its, rv, p1, _, o1, ho1, _⟩ := Inv.seqX I1 qx
  obtain ⟨its2, rv2, p2, _, o2, ho2, _⟩ := Inv.seqX I1 qy
  refine call_zipX hqq p1 p2 fun h' hz hI hO j1 j2 hk => wpAny_pyIter_zip hz ?_
  have I2 : L2.Inv X pins σ H1 { s1 with heap := h' } := I1.kept (t' := s1.toks) hk
  refine ⟨s1.heap.objs.size + 4, [s1.heap.objs.size + 4, s1.heap.objs.size + 2, s1.heap.objs.size + 3, s1.heap.objs.size, s1.heap.objs.size + 1], _, _, H1, rfl, I2, turn_zipX q q2 (PySem.W.ktu_apart s1.heap.objs.size a b (Heap.lt_size ho1) (Heap.lt_size ho2)), ⟨hz, hI, ⟨_, _, hO⟩, j1, j2⟩, fun c hcm => ?_, g⟩
  have hle : s1.heap.objs.size ≤ c := by
    simp only [List.mem_cons, List.not_mem_nil, or_false] at hcm
    rcases hcm with rfl | rfl | rfl | rfl | rfl
    all_goals first | exact Nat.le_refl _ | exact Nat.le_add_right _ _
  exact I1.fpOk hle (I1.hok.fresh hle)
theorem hd_zp {a b : Addr} {h g : Hd} {q q2 : Bool} (hj : HdR τ K ρ H h ⟨fun i H => ∃ xs x, SqX q K H a xs ∧ xs[i]? = some x, fun i H x H' => H' = H ∧ ∀ xs, SqX q K H a xs → xs[i]? = some x, fun i H => ∃ xs, SqX q K H a xs ∧ xs.length ≤ i⟩)
    (hg : HdR τ K ρ H g ⟨fun i H => ∃ xs x, SqX q2 K H b xs ∧ xs[i]? = some x, fun i H x H' => H' = H ∧ ∀ xs, SqX q2 K H b xs → xs[i]? = some x, fun i H => ∃ xs, SqX q2 K H b xs ∧ xs.length ≤ i⟩) : HdR τ K ρ H (.zp h g) (ItZ q q2 K a b) := fun ρ' H' st i e s => by
  have q1 := hj ρ' H' st i e s
  have q2 := hg ρ' H' st i e s
  show match (match h.get st i, g.get st i with
    | some (some d), some (some e) => some (some (D.tup [d, e]))
    | some _, some _ => some none
    | _, _ => none) with | some (some d) => _ | some none => _ | none => _
  cases h1 : h.get st i with
  | none => trivial
  | some o =>
    rw [h1] at q1
    cases h2 : g.get st i with
    | none => cases o <;> trivial
    | some o2 =>
      rw [h2] at q2
      cases o with
      | none =>
        obtain ⟨xs, z1, z2⟩ := q1
        cases o2 with
        | none =>
          obtain ⟨ys, y1, y2⟩ := q2
          exact ⟨xs, ys, z1, y1, .inl z2⟩
        | some d2 =>
          obtain ⟨⟨ys, y, y1, y2⟩, _⟩ := q2
          exact ⟨xs, ys, z1, y1, .inl z2⟩
      | some d =>
        obtain ⟨⟨xs, x, go1, go2⟩, yl⟩ := q1
        cases o2 with
        | none =>
          obtain ⟨ys, y1, y2⟩ := q2
          exact ⟨xs, ys, go1, y1, .inr y2⟩
        | some d2 =>
          obtain ⟨⟨ys, y, gy1, gy2⟩, yl2⟩ := q2
          refine ⟨⟨xs, ys, x, y, go1, gy1, go2, gy2⟩, fun v H2 ⟨T, x', y', its, ev, hn, eH, hx, hy⟩ => ?_⟩
          subst ev eH
          obtain ⟨_, _, rd⟩ := yl x' H' ⟨rfl, hx⟩
          obtain ⟨_, _, rd2⟩ := yl2 y' H' ⟨rfl, hy⟩
          obtain ⟨s', e'⟩ := s.beside (u := fz its [x', y']) hn
          exact ⟨e', s', rl_tup SqD.new (RlL.cons (Rl.mono e' _ _ rd) (RlL.cons (Rl.mono e' _ _ rd2) RlL.nil))⟩
theorem zipB_rl {x y : D} {v u : V} {st st' : Store} {h : Hd} (s : SR τ K ρ H st) (r1 : Rl K ρ H x v) (r2 : Rl K ρ H y u) (e : zipB x y st = .ok h st') :
    st' = st ∧ ∃ q q2 a b xs ys, (q = false → q2 = false) ∧ v = .ref a ∧ u = .ref b ∧ SqX q K H a xs ∧ SqX q2 K H b ys ∧ HdR τ K ρ H h (ItZ q q2 K a b) := by
  cases x with
  | loc l =>
    cases y with
    | loc m =>
      simp only [zipB] at e
      split at e
      · rename_i xs ys h1 h2
        cases e
        obtain ⟨a, ha, rfl⟩ := r1.loc
        obtain ⟨b, hb, rfl⟩ := r2.loc
        obtain ⟨vs, z1, _⟩ := s.getL h1 ha
        obtain ⟨us, z2, _⟩ := s.getL h2 hb
        exact ⟨rfl, false, false, a, b, vs, us, fun _ => rfl, rfl, rfl, z1, z2, hd_zp (q := false) (q2 := false) (hd_loc ha) (hd_loc hb)⟩
      · cases e
    | _ => cases e
  | tup xs =>
    cases y with
    | tup ys =>
      cases e
      obtain ⟨a, vs, rfl, h1, h2⟩ := r1.tup
      obtain ⟨b, us, rfl, h3, h4⟩ := r2.tup
      exact ⟨rfl, true, true, a, b, vs, us, fun z => absurd z (by decide), rfl, rfl, h1.t, h3.t, hd_zp (q := true) (q2 := true) (hd_tupOf h1 h2) (hd_tupOf h3 h4)⟩
    | loc m =>
      simp only [zipB] at e
      split at e
      · rename_i ys hm
        cases e
        obtain ⟨a, vs, rfl, h1, h2⟩ := r1.tup
        obtain ⟨b, hb, rfl⟩ := r2.loc
        obtain ⟨us, z2, _⟩ := s.getL hm hb
        exact ⟨rfl, true, false, a, b, vs, us, fun z => absurd z (by decide), rfl, rfl, h1.t, z2, hd_zp (q := true) (q2 := false) (hd_tupOf h1 h2) (hd_loc hb)⟩
      · cases e
    | _ => cases e
  | _ => cases e
theorem pQ_zip {e e2 : Expr} {xa xb : Ex} {p pos tpos : Pos} {elts : List Expr} {kk : Nat} (g : Gx F X) (B : Bn X "zip") (n1 : notStar e = true) (n2 : notStar e2 = true) (ha : PE X e (tE F W (evE C xa))) (hb : PE X e2 (tE F W (evE C xb))) :
    PI X (.Tuple elts kk tpos) (.Call (.Name "zip" p) [e, e2] [] pos) (tQ F W (evQ C (.zip xa xb))) :=
  (pi_zipX B n1 n2 ha hb).imp fun σ H R h => tM.step h fun env x v st1 ρ1 H1 he hs r q => ⟨env, st1, ρ1, he, hs, q.bnd.imp fun u H2 ⟨y, st2, ρ2, x2, s2, r2, q2⟩ => by
    have r := Rl.mono x2 _ _ r
    cases e : zipB x y st2 with
    | ok hd st3 =>
      obtain ⟨rfl, q, qb, a, b, xs, ys, hqq, rfl, rfl, z1, z2, hr⟩ := zipB_rl s2 r r2 e
      rw [e] at q2
      exact ⟨q, qb, a, b, xs, ys, hqq, rfl, by rw [g.K]; exact z1, by rw [g.K]; exact z2, by rw [g.K]; exact q2.ok s2 hr⟩
    | exc c fs st3 =>
      exfalso
      unfold zipB at e
      split at e
      · split at e <;> cases e
      · cases e
      · split at e <;> cases e
      · cases e
    | err => rw [e] at q2; exact False.elim q2⟩
end
end Cr

set_option maxRecDepth 100000
set_option maxHeartbeats 1000000
namespace Cr
open PySem PySem.Spec PyProof.Rows PySem.Calls L2
section
variable {F : Cf} {X : Cx} {W : VW} {C : Cl} {ρ : Rho} {H : Hp} {st : Store} {a : Expr} {xa : Ex} {p pos : Pos}
theorem mapM_encD : ∀ {xs : List D} {ps : List PyData}, xs.mapM (pd [] 30) = some ps → ps = xs.map encD
  | [], ps, h => by simp at h; subst h; rfl
  | x :: xs, ps, h => by
    rw [mapM_cons] at h
    cases e1 : pd [] 30 x with
    | none => rw [e1] at h; cases h
    | some q =>
      rw [e1] at h
      cases e2 : xs.mapM (pd [] 30) with
      | none => rw [e2] at h; cases h
      | some q2 =>
        rw [e2] at h
        cases h
        rw [List.map_cons, ← mapM_encD e2]
        unfold encD
        rw [e1]; rfl
theorem depth_mem : ∀ {ps : List PyData} {q : PyData}, q ∈ ps → q.depth ≤ PyData.depthAll ps
  | p :: ps, q, h => by
    unfold PyData.depthAll
    rcases List.mem_cons.mp h with e | h
    · rw [e]; exact Nat.le_max_left _ _
    · exact Nat.le_trans (depth_mem h) (Nat.le_max_right _ _)
def RD (K : Frag) (ρ : Rho) (H : Hp) (u : Value) (d : D) : Prop := ∃ v, RelV v u ∧ Rl K ρ H d v
theorem each_RD {K : Frag} : ∀ {xs : List D} {vs : List V} {its : List Value}, RlL K ρ H xs vs → Vals vs its → PySem.W.EachIs (RD K ρ H) its xs
  | [], vs, its, h, r => by
    have := h.nil_inv
    subst this
    cases r
    exact .nil
  | x :: xs, vs, its, h, r => by
    unfold RlL at h
    obtain ⟨v, t, rfl, h1, h2⟩ := h
    cases r with
    | cons r0 r1 => exact .cons ⟨v, r0, h1⟩ (each_RD h2 r1)
theorem RD_each {K : Frag} : ∀ {xs : List D} {its : List Value}, PySem.W.EachIs (RD K ρ H) its xs → ∃ vs, Vals vs its ∧ RlL K ρ H xs vs
  | _, _, .nil => ⟨[], .nil, RlL.nil⟩
  | _, _, .cons ⟨v, h1, h2⟩ t => by
    obtain ⟨vs, r1, r2⟩ := RD_each t
    exact ⟨v :: vs, .cons h1 r1, RlL.cons h2 r2⟩
def rSrt (F : Cf) : List V → Hp → VK → Prop := fun vs H Q => ∃ (l : Addr) (ws : List V) (xs ys : List D) (st : Store) (ρ : Rho), vs = [V.ref l] ∧ SR F.τ F.K ρ H st ∧ SqL F.K H l ws ∧ RlL F.K ρ H xs ws ∧ sortDat xs = some ys ∧
  ∀ p us, H p = none → RlL F.K ρ H ys us → Q (.ref p) (upd H p (.lst us))
theorem crs_srt (g : Gx F X) : CallR X (.builtin "sorted") (rSrt F) := by
  intro pins s σ H vs us Q I r ⟨l, ws, xs, ys, st, ρ, e, hs, hl, hx, hf, q⟩
  subst e
  obtain ⟨u, rfl, rx⟩ := vals1 r
  cases rx
  obtain ⟨its, rv, pl, hz⟩ := I.list (by rw [g.K]; exact hl)
  unfold sortDat at hf
  split at hf
  · rename_i ps hps
    split at hf
    · rename_i hc
      simp only [Bool.and_eq_true, Bool.or_eq_true, decide_eq_true_eq, List.all_eq_true] at hc
      obtain ⟨⟨⟨c1, c2⟩, c3⟩, c4⟩ := hc
      cases hf
      have dps : DpAll F.K H ws ps := pdL_dp (fun d p v e r => pd_dp hs 30 d p v (pd_nil st 30 d p e) r) _ _ _ hps hx
      rw [← g.K] at dps
      obtain ⟨as, ra⟩ := Dp.readsAll I ps ws its dps rv
      have ep := mapM_encD hps
      have hal : PySem.W.AllAlike (xs.map encD) := by
        rw [← ep]
        unfold alikeB at c1
        simp only [Bool.and_eq_true, List.all_eq_true] at c1
        exact fun d hd d' hd' => c1.1 d hd d' hd'
      have hk : PySem.W.Sortable (xs.map encD) := by
        rw [← ep]
        rcases c2 with c2 | c2
        · refine .inl fun d hd => ?_
          have := c2 d hd
          unfold tupNE at this
          split at this
          · exact ⟨_, _, rfl⟩
          · cases this
        · refine .inr fun d hd => ?_
          have := c2 d hd
          refine ⟨(fun z => by rw [z] at this; cases this), (fun xs z => by rw [z] at this; cases this)⟩
      have hlen : xs.length = ps.length := by rw [ep, List.length_map]
      have hu := g.un
      have er : PySem.W.EachIs (fun v b => ∃ as, Reads s.heap v (encD b) as) its xs := PySem.W.readsAll_each encD (by rw [← ep]; exact ra)
      refine PySem.W.sorted_data pl.isList (each_RD hx rv) er hal hk (by rw [hlen, sizeLine_eq]; omega) (fun b hb => ?_) fun out o1 o2 => ?_
      · have hm : encD b ∈ ps := by rw [ep]; exact List.mem_map.mpr ⟨b, hb, rfl⟩
        have := depth_mem hm
        omega
      · obtain ⟨vs', r1, r2⟩ := RD_each o2
        obtain ⟨epo, he'⟩ := PyProof.Rows.sortedAll_at s.heap its out.toArray
        have hl2 : vs'.length ≤ sizeLine := by rw [r1.length, o1, hlen, sizeLine_eq]; omega
        exact ⟨.ref _, upd H (s.heap.objs.size + 1) (.lst vs'), I.laid (t' := s.toks) (fun _ _ => PyProof.Rows.sortedAll_old) (Nat.le_succ _) ⟨hl2, out, epo, r1, by simpa using he'⟩, rfl, q _ _ (I.hok.fresh (Nat.le_succ _)) r2⟩
    · cases hf
  · cases hf
theorem pL_srtD (g : Gx F X) (B1 : Bn X "sorted") (hn : notStar a = true) (ha : PE X a (tE F W (evE C xa))) :
    PE X (.Call (.Name "sorted" p) [a] [] pos) (tL F W (evN C (.srtD xa))) :=
  (pE_b1 B1 (crs_srt g) PyProof.Rows.boot_sorted hn ha (by decide +kernel) (by decide +kernel)).imp fun σ H Q h => by
    have h : tM F (LsR F.K H) W (fun env => (evE C xa env).bnd fun x => (kindIs .list x).bnd fun _ => (itemsOf x).bnd fun xs => M.opt (sortDat xs)) σ H Q := by
      obtain ⟨env, st, ρ, q1, q2, q3⟩ := h
      refine ⟨env, st, ρ, q1, q2, ?_⟩
      simp only [evN] at q3
      exact q3
    refine tM.stepX h fun env d v st1 ρ0 ρ1 H1 x1 he hs r q => ?_
    cases d with
    | loc l =>
      obtain ⟨b, hb, rfl⟩ := r.loc
      replace q : Post F (LsR F.K H) W (((kindIs .list (.loc l)).bnd fun _ => (itemsOf (.loc l)).bnd fun xs => M.opt (sortDat xs)) st1) ρ1 H1 Q := q
      unfold M.bnd at q
      cases hl : st1[l]? with
      | none =>
        have e : kindIs .list (.loc l) st1 = .err := by simp only [kindIs, hl]
        rw [e] at q
        exact False.elim q
      | some o =>
        cases o with
        | lst xs =>
          have e : kindIs .list (.loc l) st1 = .ok () st1 := by simp only [kindIs, hl]
          rw [e] at q
          have hg : getL st1 l = some xs := by unfold getL; rw [hl]
          have e2 : itemsOf (.loc l) st1 = .ok xs st1 := by simp only [itemsOf, hg]
          have q3 : Post F (LsR F.K H) W (M.opt (sortDat xs) st1) ρ1 H1 Q := by
            dsimp only at q
            rw [e2] at q
            exact q
          obtain ⟨ys, hf, q4⟩ := q3.opt
          obtain ⟨vs, z1, z2⟩ := hs.obj l _ b hl hb
          exact ⟨b, vs, xs, ys, st1, ρ1, rfl, hs, SqL.of z1, z2, hf, fun p us hpn r2 => q4.fresh hs (fun c hc => x1.dom c hc) r2 hpn⟩
        | dict _ =>
          have e : kindIs .list (.loc l) st1 = .err := by simp only [kindIs, hl]
          rw [e] at q
          exact False.elim q
        | ins _ _ =>
          have e : kindIs .list (.loc l) st1 = .err := by simp only [kindIs, hl]
          rw [e] at q
          exact False.elim q
    | _ => exact False.elim q
theorem min_back (g : Gx F X) {pins : List (Addr × Obj)} {σ : L2.St} {s : Shared} {xs : List D} {ps : List PyData} {vs : List V} {its : List Value} {d : D} {m : PyData} {Q : VK} (I : Inv X pins σ H s) (hs : SR F.τ F.K ρ H st) (hps : xs.mapM (pd [] 30) = some ps) (hl : RlL F.K ρ H xs vs) (rv : Vals vs its)
    (hd : pd [] 30 d = some m) (hp : Post F (Rl F.K) W (.ok d st) ρ H Q) {i : Nat} {v : Value} {h' : Heap} {tk : Tok} {bs : List Addr} (hv : its[i]? = some v) (hr : Reads h' v m bs) (k : ∀ b o, s.heap.get? b = some o → h'.get? b = some o) : EP X pins σ Q v { s with heap := h', toks := tk } := by
  have hiv : i < vs.length := by
    have := (List.getElem?_eq_some_iff.mp hv).1
    rw [rv.length]; exact this
  obtain ⟨w, hw, rw'⟩ := rv.get (i := i) (x := vs[i]) (by simp [hiv])
  rw [hv] at hw
  cases hw
  have I1 := I.kept (t' := tk) k
  have hil : i < xs.length := by rw [hl.len]; exact hiv
  obtain ⟨w2, hw2, rd⟩ := hl.get (i := i) (d := xs[i]) (by simp [hil])
  have ew : w2 = vs[i] := by
    rw [List.getElem?_eq_getElem hiv] at hw2
    exact (Option.some.inj hw2).symm
  rw [ew] at rd
  obtain ⟨q, hq1, hq2⟩ := mapM_at hps (i := i) (x := xs[i]) (by simp [hil])
  have dq : Dp F.K H vs[i] q := pd_dp hs 30 _ q _ (pd_nil st 30 _ q hq1) rd
  rw [← g.K] at dq
  obtain ⟨as2, rq⟩ := Dp.reads I1 q vs[i] v dq rw'
  have eq := (Reads.unique rq _ _ hr).1
  have ed : xs[i] = d := pd_inj 30 _ _ _ hq1 (by rw [eq]; exact hd)
  refine ⟨vs[i], H, I1, rw', hp.ok hs ?_⟩
  rw [← ed]; exact rd
def rMinD (F : Cf) (W : VW) : List V → List V → Hp → VK → Prop := fun ws zs H Q => zs = [V.non] ∧ rS F W minNB ws H Q
theorem crs_minD (g : Gx F X) : CallRK X (.builtin "min") [Str.ofString "default"] (rMinD F W) := by
  intro pins s σ H ws zs us zu Q I r rz ⟨ez, x, xs, st, ρ, e, hs, ⟨a, vs, ea, h, hl⟩, hp⟩
  subst ez e ea
  obtain ⟨u, rfl, rx⟩ := vals1 r
  obtain ⟨u2, rfl, rx2⟩ := vals1 rz
  cases rx
  obtain rfl : u2 = Value.none := rx2
  have hu := g.un
  show wpAny _ _ (call (.builtin "min") [.ref a] [(Str.ofString "default", .none)]) _ _ _
  cases xs with
  | nil =>
    have ev := hl.nil_inv
    subst ev
    have hp : Post F (Rl F.K) W (.ok .non st) ρ H Q := hp
    have fin : ∀ h' tk, (∀ b o, s.heap.get? b = some o → h'.get? b = some o) → EP X pins σ Q .none { s with heap := h', toks := tk } := fun h' tk k => ⟨.non, H, I.kept k, rfl, hp.ok hs (by unfold Rl; rfl)⟩
    rcases h with h | h
    · obtain ⟨its, rv, pl, hz⟩ := I.list (by rw [g.K]; exact h)
      cases rv
      exact PySem.W.min_list_default (xs := []) (as := []) (I.ok.hd g.calm) pl.isList .nil (alikeB_ok rfl) (by show X.A.units + 1 + 0 < cLine; omega) (fun _ => fin) (fun y ys i v h' tk bs e => by cases e)
    · obtain ⟨its, rv, pl, hz⟩ := I.tuple (by rw [g.K]; exact h.t)
      cases rv
      exact PySem.W.min_tuple_default (xs := []) (as := []) (I.ok.hd g.calm) pl .nil (alikeB_ok rfl) (by show X.A.units + 1 + 0 < cLine; omega) (fun _ => fin) (fun y ys i v h' tk bs e => by cases e)
  | cons x0 xr =>
    have hp : Post F (Rl F.K) W ((match dataMin (x0 :: xr) with | some d => .ok d st | none => .err : Rs D)) ρ H Q := hp
    cases hdm : dataMin (x0 :: xr) with
    | none => rw [hdm] at hp; exact hp.elim
    | some d =>
      rw [hdm] at hp
      obtain ⟨x1, r1, p, ps, e1, hps, hal, hdep, hd⟩ := dataMin_ok hdm
      rw [← e1] at hps
      have dps : DpAll F.K H vs (p :: ps) := pdL_dp (fun d p v e r => pd_dp hs 30 d p v (pd_nil st 30 d p e) r) _ _ _ hps hl
      rw [← g.K] at dps
      rcases h with h | h
      · obtain ⟨its, rv, pl, hz⟩ := I.list (by rw [g.K]; exact h)
        obtain ⟨as, ra⟩ := Dp.readsAll I (p :: ps) vs its dps rv
        refine PySem.W.min_list_default (xs := p :: ps) (I.ok.hd g.calm) pl.isList (by simpa using ra) hal (by omega) (fun z => by cases z) fun y ys i v h' tk bs e hv hr k => ?_
        cases e
        exact min_back g I hs hps hl rv hd hp (by simpa using hv) hr k
      · obtain ⟨its, rv, pl, hz⟩ := I.tuple (by rw [g.K]; exact h.t)
        obtain ⟨as, ra⟩ := Dp.readsAll I (p :: ps) vs its dps rv
        refine PySem.W.min_tuple_default (xs := p :: ps) (I.ok.hd g.calm) pl (by simpa using ra) hal (by omega) (fun z => by cases z) fun y ys i v h' tk bs e hv hr k => ?_
        cases e
        exact min_back g I hs hps hl rv hd hp (by simpa using hv) hr k
theorem pE_minN (g : Gx F X) (B : Bn X "min") {la : Ls} {k : Nat} {p1 p2 : Pos} (hn : notStar a = true) (ha : PE X a (tS F W (evS C la))) :
    PE X (.Call (.Name "min" p) [a] [⟨some (Str.ofString "default"), .Constant .none k p1, p2⟩] pos) (tE F W (evE C (.minN la))) :=
  (pe_callBK (crs_minD (W := W) g) B.g B.m PyProof.Rows.boot_min (pA_one hn ha) (pk_cons pe_non pk_nil) (by decide +kernel) (by decide +kernel) (by rw [star_cons hn]; rfl) (star_any (es := [a]) (by simp [hn]) pos X.env)).imp fun σ H Q h =>
    tM.step (m := evS C la) (k := fun _ xs => minNB xs) (show tM F (Rl F.K) W (fun env => (evS C la env).bnd fun xs => minNB xs) σ H Q from h) fun env d v st1 ρ1 H1 he hs r q => ⟨rfl, v, d, st1, ρ1, rfl, hs, r, q⟩
end
end Cr

set_option maxRecDepth 100000
set_option maxHeartbeats 2000000
namespace Cr
open PySem PySem.Spec PyProof.Rows PySem.Calls L2
/-- two parameters, captured names, globals -/
structure LamP (sc scope : Scope) (n1 n2 : Str) : Prop where
  kind : scope.kind = .function
  co : scope.isCoroutine = false
  gen : scope.isGenerator = false
  own : ∀ y ∈ scope.names, (y.2 = .local → y.1 = n1 ∨ y.1 = n2) ∧ y.2 ≠ .cell
  free : ∀ y ∈ scope.names, y.2 = .free → sc.names.lookup y.1 = some .cell ∨ sc.names.lookup y.1 = some .free
  p1 : scope.names.lookup n1 = some .local
  p2 : scope.names.lookup n2 = some .local
  ne : n1 ≠ n2
def lamPB (sc scope : Scope) (n1 n2 : Str) : Bool :=
  (match scope.kind with | .function => true | _ => false) && !scope.isCoroutine && !scope.isGenerator && (scope.names.all fun y => (!decide (y.2 = .local) || decide (y.1 = n1) || decide (y.1 = n2)) && !decide (y.2 = .cell) && (!decide (y.2 = .free) || decide (sc.names.lookup y.1 = some .cell) || decide (sc.names.lookup y.1 = some .free))) &&
    decide (scope.names.lookup n1 = some .local) && decide (scope.names.lookup n2 = some .local) && !decide (n1 = n2)
theorem lamP_by {sc scope : Scope} {n1 n2 : Str} (h : lamPB sc scope n1 n2 = true) : LamP sc scope n1 n2 := by
  unfold lamPB at h
  simp only [Bool.and_eq_true, Bool.or_eq_true, Bool.not_eq_true', decide_eq_true_eq, decide_eq_false_iff_not, List.all_eq_true] at h
  obtain ⟨⟨⟨⟨⟨⟨h1, h2⟩, h3⟩, h4⟩, h5⟩, h6⟩, h7⟩ := h
  refine ⟨?_, h2, h3, fun y hy => ⟨fun e => ?_, (h4 y hy).1.2⟩, fun y hy e => ?_, h5, h6, h7⟩
  · split at h1
    · assumption
    · cases h1
  · rcases (h4 y hy).1.1 with (z | z) | z
    · exact absurd e z
    · exact .inl z
    · exact .inr z
  · rcases (h4 y hy).2 with (z | z) | z
    · exact absurd e z
    · exact .inl z
    · exact .inr z
section
variable {X : Cx} {pins : List (Addr × Obj)} {σ : L2.St} {H HZ : Hp} {s s1 : Shared} {n1 n2 : Str} {u1 u2 : Value} {v1 v2 : V} {i j : Nat} {scope : Scope}
theorem LamP.caught (L : LamP X.env.scope scope n1 n2) (ok : X.Ok) : ∀ y ∈ scope.names, y.2 = .free → ∃ c, X.env.cells.lookup y.1 = some c := by
  intro y hy e
  have q := L.free y hy e
  exact ok.has _ q
/-- the lambda's frame, entered with its two values -/
theorem lam_inv {A : Around} {outer : List PySem.Env} {E : XK} {f c' : Addr} {hp : Heap} {tk : Nat} (I : L2.Inv X pins σ H s) (L : LamP X.env.scope scope n1 n2) (e0 : Env0 X.prog X.w X.K X.mg X.base A outer s1 HZ) (noh : A.handled = none)
    (un : Un (frs X.stack) [] H HZ s.heap s1.heap) (ns : hp.Ns s1.heap.objs.size fun y => ([(n1, u1), (n2, u2)] : List (Str × Value)).reverse.lookup y) (st : ∀ b o, s1.heap.get? b = some o → hp.get? b = some o)
    (hi : X.N[i]? = some n1) (hj : X.N[j]? = some n2) (nd : X.N.Nodup) (r1 : RelV v1 u1) (r2 : RelV v2 u2) :
    L2.Inv (LamX.lamCx X A outer s1 HZ E scope f c') [] ((σ.set i (some v1)).set j (some v2)) HZ { s1 with heap := hp, toks := tk } := by
  have caught := L.caught I.ok
  have hil : i < X.N.length := (List.getElem?_eq_some_iff.mp hi).1
  have hjl : j < X.N.length := (List.getElem?_eq_some_iff.mp hj).1
  have hij : i ≠ j := by
    intro z
    subst z
    rw [hi] at hj
    exact L.ne (Option.some.inj hj)
  have inj : ∀ {k l : Nat} {y : Str}, X.N[k]? = some y → X.N[l]? = some y → k = l := by
    intro k l y a b
    obtain ⟨ka, ea⟩ := List.getElem?_eq_some_iff.mp a
    obtain ⟨kb, eb⟩ := List.getElem?_eq_some_iff.mp b
    exact (List.getElem_inj nd).mp (ea.trans eb.symm)
  have fromX : ∀ {y : Str} {c : Addr}, (cloFrom X.env.cells scope.names []).lookup y = some c → X.env.cells.lookup y = some c := by
    intro y c e
    rcases cloFrom_mem (PySem.mem_of_lookup e) with z | ⟨a, b⟩
    · cases z
    · obtain ⟨d, hd⟩ := caught _ a rfl
      have hd : X.env.cells.lookup y = some d := hd
      have : c = d := by rw [b, hd]; rfl
      rw [this]; exact hd
  have isThere : ∀ {y : Str}, scope.names.lookup y = some .free → ∃ c, (cloFrom X.env.cells scope.names []).lookup y = some c := by
    intro y hl
    exact mem_lookup (cloFrom_has (cells := X.env.cells) (acc := []) (show (y, NameKind.free) ∈ scope.names from PySem.mem_of_lookup hl))
  have cellKept : ∀ {c : Addr} {v : Option Value}, H c = none → s.heap.IsCell c v → hp.IsCell c v := by
    intro c v n ⟨o, ho, hd⟩
    obtain ⟨sl, q⟩ := un.any ho n (by simp)
    exact ⟨_, st _ _ q, hd⟩
  have none_ex : ∀ b : Addr, b ∉ (LamX.lamCx X A outer s1 HZ E scope f c').ex := by
    intro b z
    exact absurd (show b ∈ ([] : List Addr) from z) (by simp)
  refine ⟨⟨e0.mod, L.kind, rfl, rfl, Nat.le_refl _, ?q1, ?q2, ?q3, fun _ => noh, Around.frames_deeper e0.frames, .inr ⟨rfl, rfl⟩, fun b z => absurd z (none_ex b), e0.bs, e0.bsz, fun b _ _ => none_ex b, fun b z => absurd z (none_ex b), e0.funs, e0.frf⟩,
    rfl, e0.bare, Un.kept st, ⟨_, ns, ?q4⟩, ?q5, e0.hok.fresh (Nat.le_refl _), ?q6, ?q7, e0.hok.kept st, ?q8⟩
  case q1 =>
    intro y z c a b
    exact I.ok.inj y z c (fromX a) (fromX b)
  case q2 =>
    intro y hy
    have hy : scope.names.lookup y = some .cell ∨ scope.names.lookup y = some .free := hy
    rcases hy with hy | hy
    · exact absurd rfl (L.own _ (PySem.mem_of_lookup hy)).2
    · exact isThere hy
  case q3 =>
    intro y c z _
    have z : false = true := z
    cases z
  case q4 =>
    intro k y v a b vis
    have vis : Vis scope y := vis
    have a : X.N[k]? = some y := a
    have hlen : σ.length = X.N.length := I.len
    by_cases kj : k = j
    · subst kj
      have ey : y = n2 := by rw [hj] at a; exact (Option.some.inj a).symm
      subst ey
      rw [List.getElem?_set_self (by rw [List.length_set, hlen]; exact hjl)] at b
      cases b
      exact ⟨u2, r2, .inl ⟨L.p2, by simp⟩⟩
    · rw [List.getElem?_set_ne (Ne.symm kj)] at b
      by_cases ki : k = i
      · subst ki
        have ey : y = n1 := by rw [hi] at a; exact (Option.some.inj a).symm
        subst ey
        rw [List.getElem?_set_self (by rw [hlen]; exact hil)] at b
        cases b
        refine ⟨u1, r1, .inl ⟨L.p1, ?_⟩⟩
        have hn : ¬ y = n2 := L.ne
        simp [List.lookup_cons, beq_eq_false_iff_ne.mpr hn]
      · rw [List.getElem?_set_ne (Ne.symm ki)] at b
        rcases vis with q | q | q
        · rcases (L.own _ (PySem.mem_of_lookup q)).1 rfl with z | z
          · exact absurd (inj a (by rw [show y = n1 from z]; exact hi)) ki
          · exact absurd (inj a (by rw [show y = n2 from z]; exact hj)) kj
        · exact absurd rfl (L.own _ (PySem.mem_of_lookup q)).2
        · obtain ⟨m, _, hl⟩ := I.loc
          have visX : Vis X.env.scope y := (L.free _ (PySem.mem_of_lookup q) rfl).elim (fun z => .inr (.inl z)) (fun z => .inr (.inr z))
          obtain ⟨w', r, look⟩ := hl k y v a b visX
          obtain ⟨d, hd⟩ := isThere q
          refine ⟨w', r, .inr ⟨.inr q, d, hd, ?_⟩⟩
          have cx := fromX hd
          rcases look with ⟨z, _⟩ | ⟨_, d2, e2, z⟩
          · have z : X.env.scope.names.lookup y = some .local := z
            rcases L.free _ (PySem.mem_of_lookup q) rfl with z2 | z2
            · rw [show X.env.scope.names.lookup y = _ from z2] at z; cases z
            · rw [show X.env.scope.names.lookup y = _ from z2] at z; cases z
          · rw [cx] at e2
            cases e2
            exact cellKept (I.freeC y _ cx) z
  case q5 =>
    intro y c e
    obtain ⟨w', z⟩ := I.cell y c (fromX e)
    exact ⟨w', cellKept (I.freeC y c (fromX e)) z⟩
  case q6 =>
    intro y c e
    obtain ⟨v, o, ho, hd⟩ := I.cell y c (fromX e)
    exact un.free c o ho (I.freeC y c (fromX e)) (by simp)
  case q7 =>
    intro q hq
    exact absurd (show q ∈ ([] : List (Addr × Obj)) ++ [] from hq) (by simp)
  case q8 =>
    rw [List.length_set, List.length_set]
    exact I.len
end
section
variable {X : Cx} {pins : List (Addr × Obj)} {σ : L2.St} {H : Hp} {s : Shared}
/-- the abstract heap behind the making of a lambda: as it was, or with the table grown by a new code object -/
def Grew (H : Hp) (P : Addr) (ps : Array Value) (q : Str) (c' : Addr) (H' : Hp) : Prop := H' = H ∨ ∃ more, H' = upd (upd H P (.tbl (ps ++ more))) c' (LamX.CodeO c' q) ∧ H c' = none ∧ P ≠ c'
theorem lam_laid {c P : Addr} {params : Arguments} {body : Expr} {scope : Scope} {pos : Pos} {ps : Array Value} {E Q : Value → Shared → Prop} (I : L2.Inv X pins σ H s) (TB : LamX.TabB X.base X.mg c P) (cd : X.env.code = .ref c) (tabP : H P = some (.tbl ps)) (ok3 : TriplesOk ps.toList)
    (known : ∀ (p : Pos) (v : Value), codeAmong p ps.toList = some v → ∃ d, v = .ref d ∧ H d = some (LamX.CodeO d (X.env.qual ++ "<lambda>"))) (noDf : defaultsOf params X.env = ([], [])) (caught : ∀ y ∈ scope.names, y.2 = .free → ∃ c, X.env.cells.lookup y.1 = some c)
    (go : ∀ (f c' : Addr) (pm ctv : Value) (H1 : Hp) (s' : Shared), L2.Inv X pins σ H1 s' → Grew H P ps (X.env.qual ++ "<lambda>") c' H1 → TriplesOk (match H1 P with | some (.tbl q) => q.toList | _ => []) → (∀ (p : Pos) (v : Value), codeAmong p (match H1 P with | some (.tbl q) => q.toList | _ => []) = some v → ∃ d, v = .ref d ∧ H1 d = some (LamX.CodeO d (X.env.qual ++ "<lambda>"))) →
      s'.heap.get? f = some (PySem.W.kla_obj "<lambda>" (X.env.qual ++ "<lambda>") params body scope (cloFrom X.env.cells scope.names []) pm c' ctv) → H1 f = none → f ∉ frs X.stack → H1 c' = some (LamX.CodeO c' (X.env.qual ++ "<lambda>")) → Q (.ref f) s') :
    wpAny (model X.prog X.w) X.A (eval (.Lambda params body scope pos) X.env) Q E s := by
  have blt : s.heap.BuiltinsAt X.mg P := TB.bm.keeps I.bk
  have heapP : s.heap.get? P = some { cls := .none, data := .fields ps } := I.hok P _ tabP
  have noFrame : ∀ a, s.heap.objs.size ≤ a → a ∉ frs X.stack := by
    intro a ha z
    rcases List.mem_cons.mp (I.stkSub _ z) with e | e
    · have below := I.lt
      rw [← e] at below
      exact Nat.lt_irrefl _ (Nat.lt_of_lt_of_le below ha)
    · exact absurd e (I.nofs ha)
  refine PySem.W.kla_eval noDf ?_
  cases found : codeAmong pos ps.toList with
  | some v =>
    obtain ⟨d, rfl, hd⟩ := known pos v found
    refine PySem.W.kla_makeFunctionHit (mg := X.mg) (c := c) (P := P) (closure_ok caught) I.ok.glob (I.mod.glob.keeps I.bk) cd (TB.code.keeps I.bk) heapP ok3 found blt ?_
    intro ctv hp tk stay size
    have I' := I.kept (t' := tk) (h' := hp.push (PySem.W.kla_obj "<lambda>" (X.env.qual ++ "<lambda>") params body scope (cloFrom X.env.cells scope.names []) ((X.mg "__name__").getD .none) d ctv)) fun b o e => Heap.get?_push_of_some _ (stay b o e)
    exact go hp.objs.size d _ ctv H _ I' (.inl rfl) (by rw [tabP]; exact ok3) (by rw [tabP]; exact known) (Heap.get?_push_size _ rfl) (I.hok.fresh size) (noFrame _ size) hd
  | none =>
    refine PySem.W.kla_makeFunction (mg := X.mg) (c := c) (P := P) (closure_ok caught) I.ok.glob (I.mod.glob.keeps I.bk) cd (TB.code.keeps I.bk) heapP ok3 found TB.gP blt ?_
    intro d ctv hp tk stay old new hrec grown
    obtain ⟨d', od, vs, t, ed, ho, hdat, hnm⟩ := hrec
    cases ed
    have size : s.heap.objs.size ≤ hp.objs.size := Nat.le_trans old (Nat.le_of_lt new)
    have noD : H d = none := I.hok.fresh old
    have Pd : P ≠ d := ne_of_none tabP noD
    have I' := LamX.inv_table (q := X.env.qual ++ "<lambda>") (t' := tk) (more := #[rawInt pos.line, rawInt pos.col, .ref d]) (h' := hp.push (PySem.W.kla_obj "<lambda>" (X.env.qual ++ "<lambda>") params body scope (cloFrom X.env.cells scope.names []) ((X.mg "__name__").getD .none) d ctv)) I tabP
      (fun b o nb e => Heap.get?_push_of_some _ (stay b o nb e)) (Heap.get?_push_of_some _ grown) old ⟨od, vs, t, Heap.get?_push_of_some _ ho, hdat, hnm⟩
    have atP : upd (upd H P (.tbl (ps ++ #[rawInt pos.line, rawInt pos.col, .ref d]))) d (LamX.CodeO d (X.env.qual ++ "<lambda>")) P = some (.tbl (ps ++ #[rawInt pos.line, rawInt pos.col, .ref d])) := by rw [upd_ne Pd, upd_same]
    have lst : (ps ++ #[rawInt pos.line, rawInt pos.col, .ref d]).toList = ps.toList ++ [rawInt pos.line, rawInt pos.col, .ref d] := by simp
    refine go hp.objs.size d _ ctv _ _ I' (.inr ⟨_, rfl, noD, Pd⟩) ?_ ?_ (Heap.get?_push_size _ rfl) ?_ (noFrame _ size) upd_same
    · rw [atP]
      show TriplesOk (ps ++ #[rawInt pos.line, rawInt pos.col, .ref d]).toList
      rw [lst]
      exact PySem.TriplesOk_snoc _ _ _ _ ok3
    · rw [atP]
      show ∀ (p : Pos) (v : Value), codeAmong p (ps ++ #[rawInt pos.line, rawInt pos.col, .ref d]).toList = some v → _
      rw [lst]
      intro p v hv
      rcases LamX.among_app _ ok3 hv with z | z
      · obtain ⟨b, rfl, hb⟩ := known p v z
        refine ⟨b, rfl, ?_⟩
        rw [upd_ne (ne_of_none hb noD), upd_ne (fun q => by rw [q, tabP] at hb; unfold LamX.CodeO at hb; cases hb)]
        exact hb
      · exact ⟨d, z, upd_same⟩
    · have n1 : hp.objs.size ≠ d := Nat.ne_of_gt new
      have n2 : hp.objs.size ≠ P := Nat.ne_of_gt (Nat.lt_of_lt_of_le (Heap.lt_size heapP) size)
      rw [upd_ne n1, upd_ne n2]
      exact I.hok.fresh size
end
section
variable {F : Cf} {X : Cx} {W : VW} {C : Cl} {c : CC} {K : Frag} {ρ ρ0 : Rho} {H H0 : Hp} {st : Store}
/-- .. with the state from which all comes -/
def Cf.at (F : Cf) (ρ : Rho) (H : Hp) : Cf := { F with τ := { F.τ with anc := some (ρ, H) } }
theorem SR.drop (hF : F.τ.anc = none) (s : SR (F.at ρ0 H0).τ K ρ H st) : SR F.τ K ρ H st := ⟨s.len, s.obj, s.inj, s.tab, fun x hx => by rw [hF] at hx; cases hx⟩
theorem SR.take (s : SR F.τ K ρ H st) (x : Ext ρ0 H0 ρ H) : SR (F.at ρ0 H0).τ K ρ H st := ⟨s.len, s.obj, s.inj, s.tab, fun y hy => by cases hy; exact x⟩
theorem Post.up {α β : Type} {R : Rho → Hp → α → β → Prop} {r : Rs α} {Q : β → Hp → Prop} (hF : F.τ.anc = none) (h : Post F R W r ρ H Q) : Post (F.at ρ0 H0) R W r ρ H Q := by
  unfold Post at h ⊢
  cases r with
  | ok a st => exact fun ρ' H' v x s => h ρ' H' v x (SR.drop hF s)
  | exc c fs st => exact fun ρ' H' cls dx x s => h ρ' H' cls dx x (SR.drop hF s)
  | err => exact h
theorem Post.down {α β : Type} {R : Rho → Hp → α → β → Prop} {r : Rs α} {Q : β → Hp → Prop} (hx : Ext ρ0 H0 ρ H) (h : Post (F.at ρ0 H0) R W r ρ H Q) : Post F R W r ρ H Q := by
  unfold Post at h ⊢
  cases r with
  | ok a st => exact fun ρ' H' v x s => h ρ' H' v x (s.take (hx.trans x))
  | exc c fs st => exact fun ρ' H' cls dx x s => h ρ' H' cls dx x (s.take (hx.trans x))
  | err => exact h
theorem SR.noExt {τ : Tbs} {a c : Addr} {q0 : Str} (s : SR τ K ρ H st) (h : H a = some (LamX.CodeO c q0)) : a ∉ ρ := by
  intro hm
  obtain ⟨l, hl, e⟩ := List.getElem_of_mem hm
  have hl2 : l < st.length := by rw [← s.len]; exact hl
  have q := s.obj l st[l] a (List.getElem?_eq_getElem hl2) (by rw [List.getElem?_eq_getElem hl, e])
  cases hs : st[l] with
  | lst xs => rw [hs] at q; obtain ⟨vs, z, _⟩ := q; rw [h] at z; unfold LamX.CodeO at z; cases z
  | dict xs => rw [hs] at q; obtain ⟨vs, z, _⟩ := q; rw [h] at z; unfold LamX.CodeO at z; cases z
  | ins _ _ => rw [hs] at q; obtain ⟨L, z, _⟩ := q; rw [h] at z; exact dic_ne_code (Option.some.inj z).symm
/-- the lambda's answer to two values -/
def lamB (C : Cl) (xb : Ex) (env0 : Env) (i j : Nat) : List D → M D
  | [d, w] => evE C xb ((env0.set i (some d)).set j (some w))
  | _ => M.err
def cloC (C : Cl) (f : Addr) (B : List D → M D) : Cl := { C with clo := fun k => if k = f then some B else none }
theorem RE.set2 {σ : L2.St} {env : Env} {d : D} {v : V} (i : Nat) (h : RE K ρ H env σ) (r : Rl K ρ H d v) : RE K ρ H (env.set i (some d)) (σ.set i (some v)) := by
  refine ⟨by rw [List.length_set, List.length_set]; exact h.1, fun k e q => ?_⟩
  by_cases hk : k = i
  · subst hk
    have hl : k < env.length := by
      have := (List.getElem?_eq_some_iff.mp q).1
      rwa [List.length_set] at this
    rw [List.getElem?_set_self hl] at q
    cases q
    exact ⟨v, by rw [List.getElem?_set_self (by rw [← h.1]; exact hl)], r⟩
  · rw [List.getElem?_set_ne (Ne.symm hk)] at q
    obtain ⟨u, a, b⟩ := h.2 k e q
    exact ⟨u, by rw [List.getElem?_set_ne (Ne.symm hk)]; exact a, b⟩
theorem z_clo {pins : List (Addr × Obj)} {σ : L2.St} {s : Shared} {n1 n2 : Str} {i j k i0 : Nat} {scope sg : Scope} {f c' g : Addr} {params : Arguments} {body : Expr} {pm ctv cdg : Value} {Ng : List Str} {E : VW} {env0 : Env} {xb : Ex} {nm : Str}
    (hF : F.τ.anc = none) (hK : X.K = F.K) (I : L2.Inv X pins σ H s) (L : LamP X.env.scope scope n1 n2) (hf : s.heap.get? f = some (PySem.W.kla_obj "<lambda>" (X.env.qual ++ "<lambda>") params body scope (cloFrom X.env.cells scope.names []) pm c' ctv)) (hfn : H f = none) (hfr : f ∉ frs X.stack)
    (hco : H c' = some (LamX.CodeO c' (X.env.qual ++ "<lambda>"))) (hs0 : SR F.τ F.K ρ0 H st) (he0 : RE F.K ρ0 H env0 σ)
    (hbind : ∀ a b : Value, bindArgs (PySem.W.kla_fn "<lambda>" (X.env.qual ++ "<lambda>") params body scope (cloFrom X.env.cells scope.names []) pm (.ref c') ctv) ⟨[a, b], []⟩ = pure [(n1, a), (n2, b)])
    (hi : X.N[i]? = some n1) (hj : X.N[j]? = some n2) (nd : X.N.Nodup) (hr : Room (k + 1) (X.A.deeper (envOfC "first_wrong" sg s.heap.objs.size g cdg)))
    (hbody : ∀ (A : Around) (outer : List PySem.Env) (s1 : Shared) (H1 : Hp), Room k (A.deeper (LamX.lamEnv X scope s1.heap.objs.size f c')) → A.guards = some [] → PE (LamX.lamCx X A outer s1 H1 E scope f c') body (tE F E (evE C xb)))
    (hg : (X.A.deeper (envOfC "first_wrong" sg s.heap.objs.size g cdg)).guards = some [])
    (hN : Ng[i0]? = some nm) (hv : Vis sg nm) (hd1 : (nm == ("__debug__" : Str)) = false) (hd2 : (nm == ("__classdict__" : Str)) = false)
    (es : List Expr) (xs : List Ex) (p1 p2 : Pos) (hes : es ≠ []) (hns : es.all notStar = true)
    (ha : PA (cxOf (L2.CX X.prog X.w) X.prog X.w X.K X.mg X.base Ng "first_wrong" sg g cdg X.A X.stack s H E) es (tA (F.at ρ0 H) E (evEs (cloC C f (lamB C xb env0 i j)) xs))) :
    PE (cxOf (L2.CX X.prog X.w) X.prog X.w X.K X.mg X.base Ng "first_wrong" sg g cdg X.A X.stack s H E) (.Call (.Name nm p1) es [] p2) (tE (F.at ρ0 H) E (evE (cloC C f (lamB C xb env0 i j)) (.cloc i0 xs))) := by
  refine ⟨fun pinsZ sZ σZ HZ Q IZ h => ?_⟩
  obtain ⟨env, stZ, ρZ, hre, hsr, hp⟩ := h
  have hp : Post (F.at ρ0 H) (Rl F.K) E (((M.opt ((cloB ((env[i0]?).bind id)).bind (cloC C f (lamB C xb env0 i j)).clo)).bnd fun g => (evEs (cloC C f (lamB C xb env0 i j)) xs env).bnd fun ys => g ys) stZ) ρZ HZ Q := by
    simp only [evE] at hp
    exact hp
  cases hc0 : (env[i0]?).bind id with
  | none => rw [hc0] at hp; exact False.elim hp
  | some d0 =>
    have hq : env[i0]? = some (some d0) := by
      cases q : env[i0]? with
      | none => rw [q] at hc0; cases hc0
      | some o => rw [q] at hc0; have : o = some d0 := hc0; rw [this]
    cases d0 with
    | clo k0 vs0 =>
      rw [hc0] at hp
      have hkf : k0 = f := by
        by_cases z : k0 = f
        · exact z
        · have e : ((cloB (some (D.clo k0 vs0))).bind (cloC C f (lamB C xb env0 i j)).clo) = none := by
            show (if k0 = f then some (lamB C xb env0 i j) else none) = none
            rw [if_neg z]
          rw [e] at hp
          exact False.elim hp
      subst hkf
      have e : ((cloB (some (D.clo k0 vs0))).bind (cloC C k0 (lamB C xb env0 i j)).clo) = some (lamB C xb env0 i j) := by
        show (if k0 = k0 then some (lamB C xb env0 i j) else none) = _
        rw [if_pos rfl]
      rw [e] at hp
      obtain ⟨v0, hσ, hv0⟩ := hre.2 i0 _ hq
      have hv0 := hv0.clo
      subst hv0
      refine wpAny_Call_Name_kw (thn ((pe_var (pos := p1) (i := i0) hN hv hd1 hd2).run pinsZ sZ σZ HZ (fun v H1 => v = .ref k0 ∧ H1 = HZ) IZ ⟨_, hσ, rfl, rfl⟩) fun u s1 ⟨v, H1, I1, r1, q1⟩ => ?_)
      obtain ⟨ev, eH⟩ := q1
      subst ev
      subst eH
      obtain rfl : u = Value.ref k0 := r1
      have fnAt : ∀ {t : Shared} {σt : L2.St} {Ht : Hp}, L2.Inv (cxOf (L2.CX X.prog X.w) X.prog X.w X.K X.mg X.base Ng "first_wrong" sg g cdg X.A X.stack s H E) pinsZ σt Ht t → t.heap.get? k0 = some (PySem.W.kla_obj "<lambda>" (X.env.qual ++ "<lambda>") params body scope (cloFrom X.env.cells scope.names []) pm c' ctv) := by
        intro t σt Ht It
        exact It.base.keep k0 _ hf hfn hfr (fun z => nomatch (show k0 ∈ ([] : List Addr) from z))
      have hA : tA (F.at ρ0 H) E (evEs (cloC C k0 (lamB C xb env0 i j)) xs) σZ H1 (fun vs H2 => ∃ ds st2 ρ2, SR (F.at ρ0 H).τ F.K ρ2 H2 st2 ∧ RlL F.K ρ2 H2 ds vs ∧ Post (F.at ρ0 H) (Rl F.K) E (lamB C xb env0 i j ds st2) ρ2 H2 Q) :=
        ⟨env, stZ, ρZ, hre, hsr, (show Post (F.at ρ0 H) (Rl F.K) E (((evEs (cloC C k0 (lamB C xb env0 i j)) xs env).bnd fun ys => lamB C xb env0 i j ys) stZ) ρZ H1 Q from hp).bnd.imp fun vs H2 ⟨ds, st2, ρ2, _, s2, r, q⟩ => ⟨ds, st2, ρ2, s2, r, q⟩⟩
      obtain ⟨e0, er, rfl⟩ : ∃ e0 er, es = e0 :: er := by
        cases es with
        | nil => exact absurd rfl hes
        | cons a b => exact ⟨a, b, rfl⟩
      simp only [List.all_cons, Bool.and_eq_true] at hns
      refine PySem.W.callWith_F ⟨_, _, _, _, fnAt I1⟩ (thn (ha.run p2 pinsZ s1 σZ H1 _ I1 hA) fun us s2 ⟨vs, H2, I2, rv, ds, st2, ρ2, hs2, rd, hq2⟩ => ⟨⟨_, _, _, _, fnAt I2⟩, ?_⟩) (star_cons hns.1 _) (star_any hns.2 p2 _)
      obtain ⟨d, w, rfl⟩ : ∃ d w, ds = [d, w] := by
        rcases ds with _ | ⟨d, _ | ⟨w, _ | ⟨_, _⟩⟩⟩
        · exact False.elim hq2
        · exact False.elim hq2
        · exact ⟨d, w, rfl⟩
        · exact False.elim hq2
      have hq2 : Post (F.at ρ0 H) (Rl F.K) E (evE C xb ((env0.set i (some d)).set j (some w)) st2) ρ2 H2 Q := hq2
      unfold RlL at rd
      obtain ⟨v1, vr, rfl, rd1, rd⟩ := rd
      unfold RlL at rd
      obtain ⟨v2, vr, rfl, rd2, rd⟩ := rd
      unfold RlL at rd
      subst rd
      obtain ⟨u1, u2, rfl, a1, a2⟩ : ∃ u1 u2, us = [u1, u2] ∧ RelV v1 u1 ∧ RelV v2 u2 := by
        cases rv with
        | cons a1 rv =>
          cases rv with
          | cons a2 rv =>
            cases rv
            exact ⟨_, _, rfl, a1, a2⟩
      have anc : Ext ρ0 H ρ2 H2 := hs2.anc (ρ0, H) rfl
      have hc2 : H2 c' = some (LamX.CodeO c' (X.env.qual ++ "<lambda>")) := anc.fr c' _ hco (.inl (hs0.noExt hco)) fun ps z => by unfold LamX.CodeO at z; cases z
      obtain ⟨⟨oc, cvs, t, hoc, hdc, hvc⟩, _, _⟩ := I2.hok c' _ hc2
      have un : Un (frs X.stack) [] H H2 s.heap s2.heap := I2.base
      have ht : tE F E (evE C xb) ((σ.set i (some v1)).set j (some v2)) H2 Q := ⟨_, st2, ρ2, ((he0.mono anc).set2 i rd1).set2 j rd2, hs2.drop hF, hq2.down anc⟩
      have rc : codeAny (model X.prog X.w) (X.A.deeper (envOfC "first_wrong" sg s.heap.objs.size g cdg)) (.call (.ref k0) ⟨[u1, u2], []⟩) (CR (L2.CX X.prog X.w) (envOfC "first_wrong" sg s.heap.objs.size g cdg :: X.stack) X.prog X.w H2 s2 Q E) s2 := by
        refine PySem.W.kla_callFunE hr.depth (fnAt I2) rfl L.co L.gen rfl ⟨c', oc, cvs, t, rfl, hoc, hdc, hvc⟩ ?_
        rw [hbind]
        refine wpAny_pure (wpAny_newFunctionEnv (fun y hy => (L.own y hy).2) (fun y hy => ?_) (fun hp ns hsb => ⟨I2.nolimit.fresh _ hsb, ?_⟩) L.kind)
        · simp only [List.mem_cons, List.not_mem_nil, or_false] at hy
          rcases hy with rfl | rfl
          · exact L.p1
          · exact L.p2
        · show codeAny _ _ (.expr body (LamX.lamEnv X scope s2.heap.objs.size k0 c')) _ _
          have stay : ∀ b o, s2.heap.get? b = some o → hp.get? b = some o := fun b o e => hsb.extBut b o (Nat.ne_of_lt (Heap.lt_size e)) (Heap.get?_push_of_some _ e)
          have J := lam_inv (E := E) (f := k0) (c' := c') (tk := s2.toks + ([(n1, u1), (n2, u2)] : List (Str × Value)).length) I L I2.env0 hr.hd un ns stay hi hj nd a1 a2
          refine PySem.W.kla_codeExpr (wpAny_mono ((hbody _ _ s2 H2 (hr.deeper _) hg).run [] _ _ H2 Q J ht) (fun v s' hq => ?_) fun e s' hq => hq)
          obtain ⟨res, Hres, Jr, rel, qr⟩ := hq
          exact ⟨res, Hres, Jr.os, Jr.bare, Jr.base, Jr.hok, rel, qr⟩
      refine wpAny_call (codeAny_mono rc fun r s' hq => ?_)
      cases r with
      | error e => exact passes_call (takes_of (E₁ := fun e' s'' => L2.CX X.prog X.w X.stack H s E e' s'') rfl rfl rfl rfl) (fun cls d _ H h => h) pinsZ σZ H2 s2 e s' I2 hq
      | ok fl =>
        cases fl with
        | ret u => exact I2.after hq
        | next => exact False.elim hq
        | brk => exact False.elim hq
        | cont => exact False.elim hq
    | _ => rw [hc0] at hp; exact False.elim hp
end
end Cr

set_option maxRecDepth 100000
set_option maxHeartbeats 2000000
namespace Cr
open PySem PySem.Spec PyProof.Rows PySem.Calls L2
/-- first_wrong's loop, step by step -/
def fwBody (C : Cl) (Wn : Nat) : D → Env → Store → Os := fun d env st => Os.ofM env (bindTg (.tp [2, 3]) d env st) fun env' st' => evMs C Wn [.iff (.not (.val (.cloc 1 [.var 3, .slc (.var 0) none (some (.var 2))]))) [.ret (.var 2)] []] env' st'
theorem cut_to {α : Type} (a b : List α) : cut (a ++ b) none (some ((a.length : Nat) : Int)) = a := by
  have e : sIx (a ++ b).length (a ++ b).length (some ((a.length : Nat) : Int)) = a.length := by
    show (max 0 (min ((a ++ b).length : Int) (if ((a.length : Nat) : Int) < 0 then ((a.length : Nat) : Int) + ((a ++ b).length : Nat) else ((a.length : Nat) : Int)))).toNat = _
    rw [if_neg (by omega)]
    simp
    omega
  unfold cut
  rw [e]
  show ((a ++ b).drop 0).take (a.length - 0) = a
  simp
theorem fw_step {C : Cl} {f : Nat} {B : List D → M D} {Wn : Nat} {ahead r : List D} {d : D} {x y : Option D} {st : Store} :
    fwBody (cloC C f B) Wn (.tup [.int (ahead.length : Nat), d]) [some (.tup (ahead ++ d :: r)), some (.clo f []), x, y] st =
      match ((B [d, .tup ahead]).bnd truthy) st with
      | .ok true st' => .nx [some (.tup (ahead ++ d :: r)), some (.clo f []), some (.int (ahead.length : Nat)), some d] st'
      | .ok false st' => .rt (.int (ahead.length : Nat)) st'
      | .exc c fs st' => .exc c fs [some (.tup (ahead ++ d :: r)), some (.clo f []), some (.int (ahead.length : Nat)), some d] st'
      | .err => .err := by
  have hc : cut (ahead ++ d :: r) none (some ((ahead.length : Nat) : Int)) = ahead := cut_to _ _
  unfold fwBody
  simp only [bindTg, Os.ofM, M.ret, List.length_cons, List.length_nil, if_true, evMs, evM, evT, evE, evEs, evO, M.bnd, M.opt, List.zip_cons_cons, List.zip_nil_right, List.foldl_cons, List.foldl_nil, List.set_cons_succ, List.set_cons_zero, List.getElem?_cons_succ, List.getElem?_cons_zero, Option.bind_some, id, cloB, cloC, intB, slc, hc]
  cases B [d, .tup ahead] st with
  | ok a st1 =>
    dsimp only
    cases truthy a st1 with
    | ok t st2 =>
      cases t
      · rfl
      · rfl
    | exc c fs st2 => rfl
    | err => rfl
  | exc c fs st1 => rfl
  | err => rfl
theorem fw_loop {C : Cl} {f : Nat} {B : List D → M D} {Wn : Nat} : ∀ (r ahead : List D) (x y : Option D) (st : Store),
    match fwL (fun d w => (B [d, w]).bnd truthy) ahead.length ahead r st with
    | .ok d st' => (d = .non ∧ ∃ e, forN (fun st i => (Hd.en (.its (ahead ++ r))).get st i) (fwBody (cloC C f B) Wn) r.length ahead.length [some (.tup (ahead ++ r)), some (.clo f []), x, y] st = .nx e st') ∨ forN (fun st i => (Hd.en (.its (ahead ++ r))).get st i) (fwBody (cloC C f B) Wn) r.length ahead.length [some (.tup (ahead ++ r)), some (.clo f []), x, y] st = .rt d st'
    | .exc c fs st' => ∃ e, forN (fun st i => (Hd.en (.its (ahead ++ r))).get st i) (fwBody (cloC C f B) Wn) r.length ahead.length [some (.tup (ahead ++ r)), some (.clo f []), x, y] st = .exc c fs e st'
    | .err => True
  | [], ahead, x, y, st => by
    left
    refine ⟨rfl, [some (.tup (ahead ++ [])), some (.clo f []), x, y], ?_⟩
    have e : (Hd.en (.its (ahead ++ []))).get st ahead.length = some none := by
      show (match some (ahead ++ [])[ahead.length]? with | some (some d) => some (some (D.tup [.int ahead.length, d])) | some none => some none | none => none) = _
      rw [List.append_nil, List.getElem?_eq_none (Nat.le_refl _)]
    show (match (Hd.en (.its (ahead ++ []))).get st ahead.length with | some none => Os.nx _ st | _ => .err) = _
    rw [e]
  | d :: r, ahead, x, y, st => by
    have e : (Hd.en (.its (ahead ++ d :: r))).get st ahead.length = some (some (.tup [.int (ahead.length : Nat), d])) := by
      show (match some (ahead ++ d :: r)[ahead.length]? with | some (some d) => some (some (D.tup [.int ahead.length, d])) | some none => some none | none => none) = _
      rw [List.getElem?_append_right (Nat.le_refl _), Nat.sub_self]
      rfl
    have go : forN (fun st i => (Hd.en (.its (ahead ++ d :: r))).get st i) (fwBody (cloC C f B) Wn) (d :: r).length ahead.length [some (.tup (ahead ++ d :: r)), some (.clo f []), x, y] st =
        match fwBody (cloC C f B) Wn (.tup [.int (ahead.length : Nat), d]) [some (.tup (ahead ++ d :: r)), some (.clo f []), x, y] st with
        | .nx env' st' => forN (fun st i => (Hd.en (.its (ahead ++ d :: r))).get st i) (fwBody (cloC C f B) Wn) r.length (ahead.length + 1) env' st'
        | o => o := by
      show (match (Hd.en (.its (ahead ++ d :: r))).get st ahead.length with
        | some none => Os.nx _ st
        | some (some d) => (match fwBody (cloC C f B) Wn d _ st with
          | .nx env' st' => forN _ _ r.length (ahead.length + 1) env' st'
          | o => o)
        | none => .err) = _
      rw [e]
    rw [go, fw_step]
    have un : fwL (fun d w => (B [d, w]).bnd truthy) ahead.length ahead (d :: r) st = ((B [d, .tup ahead]).bnd truthy).bnd (fun t => if t then fwL (fun d w => (B [d, w]).bnd truthy) (ahead.length + 1) (ahead ++ [d]) r else M.ret (.int (ahead.length : Nat))) st := rfl
    rw [un]
    have ih := fw_loop (C := C) (f := f) (B := B) (Wn := Wn) r (ahead ++ [d]) (some (.int (ahead.length : Nat))) (some d)
    have el : (ahead ++ [d]).length = ahead.length + 1 := by simp
    have ea : (ahead ++ [d]) ++ r = ahead ++ d :: r := by simp
    rw [el, ea] at ih
    cases hb : ((B [d, .tup ahead]).bnd truthy) st with
    | ok t st1 =>
      unfold M.bnd
      unfold M.bnd at hb
      cases t
      · rw [hb]
        exact .inr rfl
      · rw [hb]
        exact ih st1
    | exc c fs st1 =>
      unfold M.bnd
      unfold M.bnd at hb
      rw [hb]
      exact ⟨_, rfl⟩
    | err =>
      unfold M.bnd
      unfold M.bnd at hb
      rw [hb]
      trivial
theorem fw_prog {F : Cf} {W : VW} {C : Cl} {f : Nat} {B : List D → M D} {Wn : Nat} {xs : List D} {st : Store} {ρ : Rho} {H : Hp} {Q : VK} (h : Post F (Rl F.K) W (fwL (fun d w => (B [d, w]).bnd truthy) 0 [] xs st) ρ H Q) :
    PostS F W (evMs (cloC C f B) Wn fwProg [some (.tup xs), some (.clo f []), none, none] st) ρ H { nx := fun _ H' => Q .non H', rt := Q } := by
  have lp := fw_loop (C := C) (f := f) (B := B) (Wn := Wn) xs [] none none st
  have e : evMs (cloC C f B) Wn fwProg [some (.tup xs), some (.clo f []), none, none] st =
      match forN (fun st i => (Hd.en (.its xs)).get st i) (fwBody (cloC C f B) Wn) xs.length 0 [some (.tup xs), some (.clo f []), none, none] st with
      | .nx env' st' => Os.rt .non st'
      | o => o := by
    unfold fwProg
    simp only [evMs, evM, evQ, evH, evE, M.bnd, M.opt, M.ret, hdOf, Os.ofM, Hd.len, List.getElem?_cons_zero, Option.bind_some, id]
    rfl
  rw [e]
  have lp : match fwL (fun d w => (B [d, w]).bnd truthy) 0 [] xs st with
    | .ok d st' => (d = .non ∧ ∃ e, forN (fun st i => (Hd.en (.its xs)).get st i) (fwBody (cloC C f B) Wn) xs.length 0 [some (.tup xs), some (.clo f []), none, none] st = .nx e st') ∨ forN (fun st i => (Hd.en (.its xs)).get st i) (fwBody (cloC C f B) Wn) xs.length 0 [some (.tup xs), some (.clo f []), none, none] st = .rt d st'
    | .exc c fs st' => ∃ e, forN (fun st i => (Hd.en (.its xs)).get st i) (fwBody (cloC C f B) Wn) xs.length 0 [some (.tup xs), some (.clo f []), none, none] st = .exc c fs e st'
    | .err => True := lp
  cases hw : fwL (fun d w => (B [d, w]).bnd truthy) 0 [] xs st with
  | ok d st' =>
    rw [hw] at lp h
    rcases lp with ⟨rfl, e1, q⟩ | q
    · rw [q]
      exact fun ρ' H' v x s r => h ρ' H' v x s r
    · rw [q]
      exact fun ρ' H' v x s r => h ρ' H' v x s r
  | exc c fs st' =>
    rw [hw] at lp h
    obtain ⟨e1, q⟩ := lp
    rw [q]
    exact h
  | err =>
    rw [hw] at h
    exact False.elim h
section
variable {F : Cf} {X : Cx} {W : VW} {C : Cl} {c : CC}
theorem re_two {K : Frag} {ρ : Rho} {H : Hp} {d : D} {v : V} {f : Nat} (r : Rl K ρ H d v) : RE K ρ H [some d, some (.clo f []), none, none] (L2.start ["value", "is_right", "index", "each"] [v, .ref f]) := by
  have e : L2.start ["value", "is_right", "index", "each"] [v, V.ref f] = [some v, some (.ref f), none, none] := rfl
  rw [e]
  refine ⟨rfl, fun i d' q => ?_⟩
  match i, q with
  | 0, q => cases q; exact ⟨v, rfl, r⟩
  | 1, q => cases q; exact ⟨.ref f, rfl, by unfold Rl; rfl⟩
  | 2, q => cases q
  | 3, q => cases q
  | i + 4, q => cases q
/-- what stands behind a lambda of two names -/
structure LamOk (X : Cx) (c : CC) (params : Arguments) (scope : Scope) (n1 n2 : Str) (i j : Nat) : Prop where
  L : LamP c.sc scope n1 n2
  hi : c.N[i]? = some n1
  hj : c.N[j]? = some n2
  df : ∀ env, defaultsOf params env = ([], [])
  bind : ∀ (q : Str) (body : Expr) (cl : List (Str × Addr)) (pm cv ctv a b : Value), bindArgs (PySem.W.kla_fn "<lambda>" q params body scope cl pm cv ctv) ⟨[a, b], []⟩ = pure [(n1, a), (n2, b)]
theorem pE_fwr {e body : Expr} {params : Arguments} {scope : Scope} {n1 n2 : Str} {i j : Nat} {xa xb : Ex} {p pos lpos : Pos} (S : Sd F X C c W) (hfw : c.fw = true) (hgl : decide (c.sc.names.lookup ("first_wrong" : Str) = some .globalImplicit) = true) (hn : notStar e = true) (he : PE X e (tE F W (evE C xa))) (LO : LamOk X c params scope n1 n2 i j)
    (hbody : ∀ Y : Cx, Sd F Y C { c with sc := scope, st := false, fw := false, clo := none } W → PE Y body (tE F W (evE C xb))) :
    PE X (.Call (.Name "first_wrong" p) [e, .Lambda params body scope lpos] [] pos) (tE F W (evE C (.fwr xa xb i j))) := by
  obtain ⟨hF, k, g, bg, sg, cdv, c0, P, Wn, hroom, hfn, FD, hcode, TB, hmem, huniq, hprog⟩ := S.fw hfw
  obtain ⟨oc, od, osl, pg, dV, kV, doc, pm, an, ct, lk, hbg⟩ := FD.lk
  have L : LamP X.env.scope scope n1 n2 := by rw [S.sc]; exact LO.L
  have hlt : ∀ Y : Cx, Sd0 F Y C { c with sc := scope, st := false, fw := false, clo := none } W → PE Y body (tE F W (evE C xb)) := fun Y S0 => hbody Y { toSd0 := S0, fw := fun h => by cases h }
  refine ⟨fun pins s σ H Q I h => ?_⟩
  have hg' : Gl X "first_wrong" := by show X.env.scope.names.lookup _ = _; rw [S.sc]; exact of_decide_eq_true hgl
  refine wpAny_Call_Name_kw (ld_glob I hg' (by rw [S.g.mg]; exact FD.mg) ?_ (by decide))
  have hkX : PySem.W.keepIn X.K (.ref g) = true := by rw [S.g.K]; exact FD.keep
  have hev : tM F (Rl F.K) W (fun env => (evE C xa env).bnd fun x => (tupB x).bnd fun xs => fwL (fun d w => (evE C xb ((env.set i (some d)).set j (some w))).bnd fun r => truthy r) 0 [] xs) σ H Q := by
    obtain ⟨env, st, ρ, a, b, q⟩ := h
    refine ⟨env, st, ρ, a, b, ?_⟩
    simp only [evE] at q
    exact q
  have h1 : tE F W (evE C xa) σ H (fun v H1 => ∃ env d st1 ρ1, RE F.K ρ1 H1 env σ ∧ SR F.τ F.K ρ1 H1 st1 ∧ Rl F.K ρ1 H1 d v ∧ Post F (Rl F.K) W (((tupB d).bnd fun xs => fwL (fun d w => (evE C xb ((env.set i (some d)).set j (some w))).bnd fun r => truthy r) 0 [] xs) st1) ρ1 H1 Q) :=
    tM.step hev fun env d v st1 ρ1 H1 a b r q => ⟨env, d, st1, ρ1, a, b, r, q⟩
  refine PySem.W.callWith_K (h₀ := X.base) I.ok.mod.kin hkX ?_ (star_cons hn X.env) rfl
  have hsp : backTo pos (starEach (e :: [.Lambda params body scope lpos]) X.env) = (false, eval e X.env) :: (false, eval (.Lambda params body scope lpos) X.env) :: [] := by
    rw [star_cons hn X.env]
    rfl
  rw [hsp]
  refine spliced_cons (thn (he.run pins s σ H _ I h1) fun u s1 ⟨v, H1, I1, ru, env, d, st1, ρ1, hre, hsr, rd, hpost⟩ => ?_)
  obtain ⟨xs, rfl⟩ : ∃ xs, d = .tup xs := by
    cases d with
    | tup xs => exact ⟨xs, rfl⟩
    | _ => exact False.elim hpost
  have hpost : Post F (Rl F.K) W (fwL (fun d w => (lamB C xb env i j [d, w]).bnd truthy) 0 [] xs st1) ρ1 H1 Q := hpost
  obtain ⟨ps, tabP, ok3, known⟩ := hsr.tab.1 _ hmem
  refine spliced_cons (lam_laid I1 TB hcode tabP ok3 known (LO.df _) (L.caught I1.ok) fun f c' pm' ctv H2 s2 I2 grew ok3' known' hf hfnone hfr hco => ?_)
  refine spliced_nil ⟨I2.kIn, ?_⟩
  have eN : ∀ b o, H1 b = some o → (∀ ps, o ≠ .tbl ps) → H2 b = some o := by
    intro b o hb nt
    rcases grew with rfl | ⟨more, rfl, nc, _⟩
    · exact hb
    · rw [upd_ne (ne_of_none hb nc), upd_ne (fun z => nt ps (Option.some.inj (hb.symm.trans (by rw [z]; exact tabP))))]
      exact hb
  have dom : ∀ a, H2 a = none → H1 a = none := by
    intro a ha
    rcases grew with rfl | ⟨more, rfl, nc, _⟩
    · exact ha
    · exact upd_dom (upd_dom ha)
  have tblBack : ∀ a q, H2 a = some (.tbl q) → a = P ∨ H1 a = some (.tbl q) := by
    intro a q ha
    rcases grew with rfl | ⟨more, rfl, nc, _⟩
    · exact .inr ha
    · by_cases h1 : a = c'
      · rw [h1, upd_same] at ha
        unfold LamX.CodeO at ha
        cases ha
      · rw [upd_ne h1] at ha
        by_cases h2 : a = P
        · exact .inl h2
        · rw [upd_ne h2] at ha
          exact .inr ha
  have atP : ∃ q, H2 P = some (.tbl q) := by
    rcases grew with rfl | ⟨more, rfl, nc, pc⟩
    · exact ⟨_, tabP⟩
    · exact ⟨_, by rw [upd_ne pc, upd_same]⟩
  have offP : ∀ a, a ≠ P → ∀ o, H1 a = some o → H2 a = some o := by
    intro a na o ha
    rcases grew with rfl | ⟨more, rfl, nc, pc⟩
    · exact ha
    · rw [upd_ne (ne_of_none ha nc), upd_ne na]
      exact ha
  have T2 : TabX F.τ H2 := by
    refine ⟨fun r hr => ?_, fun a q ha => ?_⟩
    · by_cases hP : r.1 = P
      · obtain ⟨q, hq⟩ := atP
        rw [hq] at ok3' known'
        rw [hP, huniq r hr hP]
        exact ⟨q, hq, ok3', known'⟩
      · obtain ⟨q, z1, z2, z3⟩ := hsr.tab.1 r hr
        refine ⟨q, offP _ hP _ z1, z2, fun pos cv e => ?_⟩
        obtain ⟨b, y1, y2⟩ := z3 pos cv e
        exact ⟨b, y1, eN _ _ y2 fun _ z => by unfold LamX.CodeO at z; cases z⟩
    · rcases tblBack a q ha with rfl | z
      · exact ⟨_, hmem⟩
      · exact hsr.tab.2 a q z
  have ext : Ext ρ1 H1 ρ1 H2 := ⟨⟨[], by simp⟩, fun a o ha _ nt => eN a o ha nt, fun a x y => absurd x y, dom⟩
  have s2r : SR F.τ F.K ρ1 H2 st1 := ⟨hsr.len, fun l o a x y => RO.mono ext (hsr.obj l o a x y) fun _ w hw => by
      have z0 := hsr.obj l o a x y
      refine eN a w hw fun q z => ?_
      subst z
      cases o with
      | lst _ => obtain ⟨_, z, _⟩ := z0; rw [hw] at z; cases z
      | dict _ => obtain ⟨_, z, _⟩ := z0; rw [hw] at z; cases z
      | ins _ _ => (obtain ⟨_, z, _⟩ := z0; rw [hw] at z; unfold DicO at z; cases z), hsr.inj, T2, fun x hx => by rw [hF] at hx; cases hx⟩
  have he2 : RE F.K ρ1 H2 env σ := hre.mono ext
  have rd2 : Rl F.K ρ1 H2 (.tup xs) v := Rl.mono ext _ _ rd
  have hgd : X.A.guards = some [] := S.g.guards
  have rc : codeAny (model X.prog X.w) X.A (.call (.ref g) ⟨[u, .ref f], []⟩) (CR (L2.CX X.prog X.w) X.stack X.prog X.w H2 s2 Q W) s2 := by
    have lk' : X.K.lookup g = some ⟨oc, od, .func (PySem.W.fnOf "first_wrong" "first_wrong" pg bg sg dV kV doc pm an cdv ct), osl⟩ := by rw [S.g.K]; exact lk
    refine LamX.run_ofS (N := ["value", "is_right", "index", "each"]) (ps := ["value", "is_right"]) (us := [u, .ref f]) (vs := [v, .ref f]) lk' (by rw [S.g.K]; exact FD.cd) FD.S hroom I2.env0 (.of_eq (hbg _ rfl)) (.cons ru (.cons rfl .nil)) rfl fun hr' => ?_
    have SZ : Sd0 (F.at ρ1 H2) (cxOf (L2.CX X.prog X.w) X.prog X.w X.K X.mg X.base ["value", "is_right", "index", "each"] "first_wrong" sg g cdv X.A X.stack s2 H2 W) (cloC C f (lamB C xb env i j)) (fwC c sg) W := {
      g := ⟨S.g.K, S.g.mg, rfl, by have := hr'.un; show (X.A.deeper _).units + 200 < cLine; omega, hgd⟩
      N := rfl
      nd := FD.S.nd
      sc := rfl
      bare := S.bare
      gc := S.gc
      fn := fun f' n' kws' hf' => absurd hf' List.not_mem_nil
      tk := takes_of (E₁ := fun e' s'' => L2.CX X.prog X.w X.stack H2 s2 W e' s'') rfl rfl rfl rfl
      im := S.im
      st := fun _ _ => rfl
      clo := fun nm i0 h0 es ys p1 p2 hes hns ha => by
        have h0 : some (("is_right" : Str), 1) = some (nm, i0) := h0
        cases h0
        refine z_clo (k := k) hF S.g.K I2 L hf hfnone hfr hco s2r he2 (fun a b => LO.bind _ _ _ _ _ _ a b) (by rw [S.N]; exact LO.hi) (by rw [S.N]; exact LO.hj) (by rw [S.N]; exact S.nd) hr' (fun A outer s3 H3 hrA hgA => ?_) hgd rfl ?_ (by decide +kernel) (by decide +kernel) es ys p1 p2 hes hns ha
        · refine hlt _ {
            g := ⟨S.g.K, S.g.mg, rfl, by have := hrA.un; show (A.deeper _).units + 200 < cLine; omega, hgA⟩
            N := S.N
            nd := S.nd
            sc := rfl
            bare := S.bare
            gc := S.gc
            fn := fun f' n' kws' hf' => ⟨k, hrA, hfn f' n' kws' hf'⟩
            tk := takes_of (E₁ := fun e' s'' => L2.CX X.prog X.w outer H3 s3 W e' s'') rfl rfl rfl rfl
            im := S.im
            st := fun h => by cases h
            clo := fun nm i h => by cases h }
        · rcases FD.S.par "is_right" (by simp) with q | q
          · exact .inl q
          · exact .inr (.inl q) }
    refine ⟨_, hprog (F.at ρ1 H2) _ _ W rfl rfl PassesOwn.leaving SZ, _, st1, ρ1, re_two rd2, s2r.take (Ext.refl _ _), ?_⟩
    exact fw_prog (Post.up hF (hpost.from ext))
  refine wpAny_call (codeAny_mono rc fun r s' hq => ?_)
  cases r with
  | error e => exact passes_call S.tk (fun cls d _ H h => h) pins σ H2 s2 e s' I2 hq
  | ok fl =>
    cases fl with
    | ret u => exact I2.after hq
    | next => exact hq.elim
    | brk => exact hq.elim
    | cont => exact hq.elim
end
theorem bind_two {n1 n2 : Str} (hne : n1 ≠ n2) {p1 p2 : Pos} {q : Str} {body : Expr} {scope : Scope} {cl : List (Str × Addr)} {pm cv ctv a b : Value} :
    bindArgs (PySem.W.kla_fn "<lambda>" q ⟨[], [⟨n1, none, p1⟩, ⟨n2, none, p2⟩], none, [], [], none, []⟩ body scope cl pm cv ctv) ⟨[a, b], []⟩ = pure [(n1, a), (n2, b)] := by
  have e0 : seqItems? Value.none = pure none := rfl
  have e1 : (n1 == n1) = true := beq_self_eq_true n1
  have e2 : (n2 == n2) = true := beq_self_eq_true n2
  have e3 : (n2 == n1) = false := beq_eq_false_iff_ne.mpr hne.symm
  unfold bindArgs
  simp [List.lookup_cons, e1, e2, e3, e0]
def lamCk (c : CC) (params : Arguments) (scope : Scope) (i j : Nat) : Bool := match params with
  | ⟨[], [⟨n1, none, _⟩, ⟨n2, none, _⟩], none, [], [], none, []⟩ => lamPB c.sc scope n1 n2 && decide (c.N[i]? = some n1) && decide (c.N[j]? = some n2)
  | _ => false
theorem lamCk_ok {X : Cx} {c : CC} {params : Arguments} {scope : Scope} {i j : Nat} (h : lamCk c params scope i j = true) : ∃ n1 n2, LamOk X c params scope n1 n2 i j := by
  unfold lamCk at h
  split at h
  · rename_i n1 p1 n2 p2
    simp only [Bool.and_eq_true, decide_eq_true_eq] at h
    have L := lamP_by h.1.1
    exact ⟨n1, n2, L, h.1.2, h.2, fun env => rfl, fun q body cl pm cv ctv a b => bind_two L.ne⟩
  · cases h
end Cr

set_option maxRecDepth 100000
set_option maxHeartbeats 1000000
namespace Cr.PF
open PySem PySem.Spec PyProof.Rows PySem.Calls
theorem owner_perm : Manifest.owners.lookup (String.ofList ['s', 'n', 'o', 'i', 't', 'a', 't', 'u', 'm', 'r', 'e', 'p', '.', 's', 'l', 'o', 'o', 't', 'r', 'e', 't', 'i'].reverse) = some Manifest.sig_itertools_permutations := by kernel_rfl
theorem mro_perm : mroOf (.type "itertools.permutations") = pure [.type "itertools.permutations", .type "object"] := by rw [mroOf_type]; kernel_rfl
theorem lookup_perm_new : typeLookup (.type "itertools.permutations") "__new__" = pure (some (.builtin "itertools.permutations.__new__")) := by rw [typeLookup_type, builtinLookup_eq_fast]; kernel_rfl
theorem slot_perm_init : Slot "itertools.permutations" "__init__" "object.__init__" :=
  .of (owner := "object") (n := "__init__") (by rw [typeLookup_type, builtinLookup_eq_fast]; kernel_rfl) (by decide +kernel) (by decide +kernel) (by decide +kernel)
    (by first | exact .inl (by decide +kernel) | exact .inr (by decide +kernel)) (by rw [isSubtype_type]; kernel_rfl)
theorem slot_perm_next : Slot "itertools.permutations" "__next__" "itertools.permutations.__next__" :=
  .of (owner := "itertools.permutations") (n := "__next__") (by rw [typeLookup_type, builtinLookup_eq_fast]; kernel_rfl) (by decide +kernel) (by decide +kernel) (by decide +kernel)
    (by first | exact .inl (by decide +kernel) | exact .inr (by decide +kernel)) (by rw [isSubtype_type]; kernel_rfl)
theorem slot_perm_iter : Slot "itertools.permutations" "__iter__" "itertools.permutations.__iter__" :=
  .of (owner := "itertools.permutations") (n := "__iter__") (by rw [typeLookup_type, builtinLookup_eq_fast]; kernel_rfl) (by decide +kernel) (by decide +kernel) (by decide +kernel)
    (by first | exact .inl (by decide +kernel) | exact .inr (by decide +kernel)) (by rw [isSubtype_type]; kernel_rfl)
theorem args_perm_next (a : Value) : argsOk "itertools.permutations.__next__" ⟨[a], []⟩ := by
  unfold argsOk; rw [signature?_of (id := "itertools.permutations.__next__") (n := ['_', '_', 't', 'x', 'e', 'n', '_', '_']) (o := ['s', 'n', 'o', 'i', 't', 'a', 't', 'u', 'm', 'r', 'e', 'p', '.', 's', 'l', 'o', 'o', 't', 'r', 'e', 't', 'i']) (by kernel_rfl) owner_perm]; kernel_rfl
theorem args_perm_iter (a : Value) : argsOk "itertools.permutations.__iter__" ⟨[a], []⟩ := by
  unfold argsOk; rw [signature?_of (id := "itertools.permutations.__iter__") (n := ['_', '_', 'r', 'e', 't', 'i', '_', '_']) (o := ['s', 'n', 'o', 'i', 't', 'a', 't', 'u', 'm', 'r', 'e', 'p', '.', 's', 'l', 'o', 'o', 't', 'r', 'e', 't', 'i']) (by kernel_rfl) owner_perm]; kernel_rfl
theorem entry_perm_iter : entryFor table "itertools.permutations.__iter__" = some Builtin.«dict_keyiterator.__iter__» :=
  entryFor_alias (id' := "dict_keyiterator.__iter__") (by kernel_rfl) (by first | rfl | decide +kernel | (unfold String.splitOn; simp +decide [String.splitOnAux])) (by decide +kernel) (by kernel_rfl)
theorem called_perm : TypeCalled "itertools.permutations" "itertools.permutations.__new__" "object.__init__" :=
  ⟨by decide +kernel, by decide +kernel, ⟨_, _, mro_perm⟩, madeBy_type mro_perm lookup_perm_new (by decide +kernel), by decide +kernel, by rw [isSubtype_type]; kernel_rfl, slot_perm_init⟩
theorem typeCall_perm_1 (a : Value) : checkTypeCall "itertools.permutations" ⟨[a], []⟩ = pure () := by kernel_rfl
theorem newCall_perm_1 (a : Value) : checkBuiltinCall "itertools.permutations.__new__" ⟨[.type "itertools.permutations", a], []⟩ = pure () := by kernel_rfl
theorem entry_perm_new : entryFor table "itertools.permutations.__new__" = some Builtin.«itertools.permutations.__new__» := entryFor_of_tree (by kernel_rfl)
theorem entry_perm_next : entryFor table "itertools.permutations.__next__" = some Builtin.«itertools.permutations.__next__» := entryFor_of_tree (by kernel_rfl)
end Cr.PF

set_option maxRecDepth 100000
set_option maxHeartbeats 1000000
namespace Cr.PF
open PySem PySem.Spec PyProof.Rows PySem.Calls
section
variable {prog : Program} {w : World} {A : Around} {E : Value → Shared → Prop} {s : Shared}
/-- the object behind i turns: begun (0, 1), the numbers -/
def permO (pool : Addr) (st r : Nat) (last : Value) (numbers : List Nat) : Obj := { cls := .type "itertools.permutations", data := .fields ([.ref pool, rawInt st, rawInt r, last] ++ numbers.map fun (n : Nat) => rawInt n).toArray }
theorem code_perm_new {b : Bool} {l : Addr} {items : Array Value} {Q : Value → Shared → Prop} (hL : PlX b s.heap l items) (hz : items.size ≤ 1000)
    (h : ∀ h' : Heap, (∀ b o, s.heap.get? b = some o → h'.get? b = some o) → Q (.ref (h'.objs.size + 1)) { s with heap := (h'.push (tupO items.toList)).push (permO h'.objs.size 0 items.size .none (List.range items.size ++ (List.range items.size).map fun i => items.size - i)) }) :
    wpAny (model prog w) A (Builtin.«itertools.permutations.__new__» ⟨[.type "itertools.permutations", .ref l], []⟩) (fun f s' => ∃ v, f = .done (.ret v) ∧ Q v s') E s := by
  obtain ⟨o, T, n, hT, ho, hc, hd⟩ : ∃ o T n, (T = "list" ∨ T = "tuple") ∧ s.heap.get? l = some o ∧ o.cls = .type T ∧ o.data = .seq items n := by
    cases b with
    | false => obtain ⟨o, e, c, n, d⟩ := (show s.heap.IsList l items from hL); exact ⟨o, "list", n, .inl rfl, e, c, d⟩
    | true => obtain ⟨o, e, c, n, d⟩ := (show s.heap.IsTuple l items from hL); exact ⟨o, "tuple", n, .inr rfl, e, c, d⟩
  have h1 : Builtin.Itertools.itClassAndRest "permutations" ⟨[.type "itertools.permutations", .ref l], []⟩ = (pure (Value.type "itertools.permutations", [Value.ref l]) : Sem (Value × List Value)) := by
    unfold Builtin.Itertools.itClassAndRest
    have e : ("itertools." ++ "permutations" : String) = "itertools.permutations" := by decide +kernel
    dsimp only
    rw [e]
    have e2 : isType (.type "itertools.permutations") = pure true := rfl
    rw [e2, called_perm.sub]
    rfl
  have h2 : Builtin.Itertools.itBindNamed "permutations" ["iterable", "r"] 1 2 [.ref l] [] = (pure [some (Value.ref l), none] : Sem (List (Option Value))) := by
    kernel_rfl
  have h3 : typeHasDict (.type "itertools.permutations") = false := by kernel_rfl
  unfold Builtin.«itertools.permutations.__new__»
  refine wpAny_bind (wpAny_of_eq h1 ?_)
  refine wpAny_bind (wpAny_of_eq h2 ?_)
  refine wpAny_bind (wpAny_collect_seq l hT ho hc hd (fun h' k => ?_) (by rw [sizeLine_eq]; omega))
  refine wpAny_bind (wpAny_pure ?_)
  have hl : items.toList.length = items.size := Array.length_toList
  dsimp only
  rw [hl, if_neg (by omega), if_neg (by unfold Builtin.Itertools.itTooMany; simp; omega)]
  rw [Int.toNat_natCast]
  refine wpAny_bind (wpAny_newTuple ?_ (by rw [hl, sizeLine_eq]; omega))
  unfold Builtin.Itertools.itNewRecord
  rw [h3]
  rw [if_neg (Nat.lt_irrefl _), if_pos (show (!false) = true from rfl)]
  have ef : ([Value.ref h'.objs.size, rawInt 0, rawInt (items.size : Int), Value.none] ++ List.map (fun (i : Nat) => rawInt (i : Int)) (List.range items.size) ++ List.map (fun (i : Nat) => rawInt ((items.size : Int) - (i : Int))) (List.range items.size))
      = [Value.ref h'.objs.size, rawInt ((0 : Nat) : Int), rawInt (items.size : Int), Value.none] ++ (List.range items.size ++ (List.range items.size).map fun i => items.size - i).map fun (n : Nat) => rawInt n := by
    rw [List.append_assoc, List.map_append, List.map_map]
    congr 2
    refine List.map_congr_left fun i hi => ?_
    have := List.mem_range.mp hi
    show rawInt ((items.size : Int) - (i : Int)) = rawInt (((items.size - i : Nat)) : Int)
    rw [Int.ofNat_sub (by omega)]
  refine wpAny_bind (wpAny_newObj_type ?_ ?_)
  · have q := h h' k
    have hsz : (h'.push { cls := Value.type "tuple", data := Data.seq items.toList.toArray }).objs.size = h'.objs.size + 1 := Heap.size_push ..
    refine wpAny_pure ⟨_, rfl, ?_⟩
    show Q (.ref (h'.push _).objs.size) { s with heap := (h'.push _).push { cls := .type "itertools.permutations", data := .fields (_ : List Value).toArray } }
    rw [hsz]
    have ef' := ef
    show Q (.ref (h'.objs.size + 1)) { s with heap := (h'.push (tupO items.toList)).push { cls := .type "itertools.permutations", data := .fields ([Value.ref h'.objs.size, rawInt 0, rawInt (items.size : Int), Value.none] ++ List.map (fun (i : Nat) => rawInt (i : Int)) (List.range items.size) ++ List.map (fun (i : Nat) => rawInt ((items.size : Int) - (i : Int))) (List.range items.size)).toArray } }
    rw [ef]
    exact q
  · show (_ : List Value).toArray.size ≤ _
    simp
    rw [sizeLine_eq]; omega
/-- the next state of indices and cycles -/
def nextP (n : Nat) : (place : Nat) → (indices cycles : List Nat) → Option (List Nat × List Nat)
  | 0, _, _ => none
  | i + 1, indices, cycles =>
    let c := cycles.getD i 0 - 1
    if c == 0 then nextP n i (indices.take i ++ indices.drop (i + 1) ++ [indices.getD i 0]) (cycles.set i (n - i))
    else some ((indices.set i (indices.getD (n - c) 0)).set (n - c) (indices.getD i 0), cycles.set i c)
theorem nums_of (l : List Nat) : ((l.map fun (n : Nat) => rawInt n).map fun | .int n _ => n.toNat | _ => 0) = l := by
  rw [List.map_map]
  conv => rhs; rw [← List.map_id l]
  refine List.map_congr_left fun n _ => ?_
  show ((n : Int)).toNat = n
  omega
theorem perm_hand {it pool : Addr} {st r : Nat} {last : Value} {nums ix : List Nat} {its : List Value} {Q : Fin → Shared → Prop} (ho : s.heap.get? it = some (permO pool st r last nums)) (hz : ix.length ≤ 1000)
    (h : ∀ h', h'.get? it = some (permO pool st r (.ref s.heap.objs.size) nums) → h'.get? s.heap.objs.size = some (tupO (ix.map fun i => its.toArray.getD i .none)) → (∀ b o, b ≠ it → s.heap.get? b = some o → h'.get? b = some o) → Q (.done (.ret (.ref s.heap.objs.size))) { s with heap := h' }) :
    wpAny (model prog w) A (do
      let t ← newTuple (ix.map fun i => its.toArray.getD i .none)
      let before ← field (.ref it) 3
      setField (.ref it) 3 t
      letGo [before] [t]
      ret t) Q E s := by
  have hlt : it < s.heap.objs.size := Heap.lt_size ho
  refine wpAny_bind (wpAny_newTuple ?_ (by rw [List.length_map, sizeLine_eq]; omega))
  have ho1 : (s.heap.push (tupO (ix.map fun i => its.toArray.getD i .none))).get? it = some (permO pool st r last nums) := Heap.get?_push_of_some _ ho
  refine wpAny_bind (wpAny_field (x := last) ho1 rfl rfl ?_)
  refine wpAny_bind (wpAny_setField_rec ho1 (by simp) fun h' e sb => ?_)
  refine wpAny_bind (wpAny_letGo ?_)
  refine wpAny_pure (h h' ?_ ?_ fun b o hb q => ?_)
  · rw [e]
    congr 1
  · exact (sb.2 _ (Nat.ne_of_gt hlt)).trans (Heap.get?_push_size _ rfl)
  · exact (sb.2 b hb).trans (Heap.get?_push_of_some _ q)
theorem perm_item {it pool : Addr} {st r : Nat} {last : Value} {nums nums' : List Nat} {its : List Value} {Q : Option Value → Shared → Prop} (ho : s.heap.get? it = some (permO pool st r last nums)) (hp : s.heap.get? pool = some (tupO its)) (hne : pool ≠ it)
    (hst : (st = 0 ∧ nums' = nums) ∨ (st = 1 ∧ ∃ ix cy, nextP its.length r (nums.take its.length) (nums.drop its.length) = some (ix, cy) ∧ nums' = ix ++ cy ∧ ix.length = its.length)) (hrn : r ≤ its.length) (hr : r ≤ 1000) (hn : nums'.length ≤ 1000)
    (h : ∀ h', h'.get? it = some (permO pool 1 r (.ref s.heap.objs.size) nums') → h'.get? s.heap.objs.size = some (tupO ((nums'.take r).map fun i => its.toArray.getD i .none)) → (∀ b o, b ≠ it → s.heap.get? b = some o → h'.get? b = some o) → Q (some (.ref s.heap.objs.size)) { s with heap := h' }) :
    wpAny (model prog w) A (pyNext (.ref it)) Q E s := by
  have hT : s.TypeIs (.ref it) "itertools.permutations" := ⟨_, ho, rfl⟩
  unfold pyNext
  refine wpAny_bind (wpAny_attempt (wpAny_callSpecial?_slot (name := Str.ofString "__next__") hT slot_perm_next
    (wpAny_call_entry slot_perm_next hT entry_perm_next ?_ (args_perm_next _))))
  show wpAny _ _ (field (.ref it) 0 >>= _) _ _ s
  refine wpAny_bind (wpAny_field (x := .ref pool) ho rfl rfl ?_)
  unfold Builtin.Itertools.itPoolItems
  refine wpAny_bind (wpAny_bind (wpAny_seqItems (items := its.toArray) hp rfl (wpAny_pure ?_)))
  unfold Builtin.Itertools.itIntField
  refine wpAny_bind (wpAny_bind (wpAny_field (x := rawInt r) ho rfl rfl (wpAny_pure ?_)))
  unfold Builtin.Itertools.itNumbersFrom
  refine wpAny_bind (wpAny_bind (wpAny_load ho (wpAny_pure ?_)))
  generalize hg : List.map _ (List.drop 4 _) = L
  have hL : L = nums := hg.symm.trans (nums_of nums)
  clear hg
  subst hL
  refine wpAny_bind (wpAny_bind (wpAny_field (x := rawInt st) ho rfl rfl (wpAny_pure ?_)))
  have hrr : ((r : Int)).toNat = r := Int.toNat_natCast r
  rw [hrr]
  have hs5 : its.toArray.size = its.length := List.size_toArray
  rcases hst with ⟨rfl, rfl⟩ | ⟨rfl, ix, cy, hnx, rfl, hixl⟩
  · show wpAny _ _ (setField (.ref it) 1 (rawInt 1) >>= fun _ => _) _ _ s
    refine wpAny_bind (wpAny_setField_rec ho (by simp) fun h' e sb => ?_)
    have e' : h'.get? it = some (permO pool 1 r last nums') := e.trans (by congr 1)
    refine perm_hand (s := { s with heap := h' }) e' (by rw [List.length_take]; omega) fun h'' q1 q2 q3 => ⟨_, rfl, wpAny_pure ?_⟩
    have hsz : h'.objs.size = s.heap.objs.size := sb.1
    rw [← hsz] at h
    exact h h'' q1 q2 fun b o hb q => q3 b o hb ((sb.2 b hb).trans q)
  · rw [hs5]
    split
    · rename_i h0; exact absurd h0 (by decide)
    · split
      · rename_i i2 c2 heq
        have heq' : nextP its.length r (List.take its.length L) (List.drop its.length L) = some (i2, c2) := by
          set_option smartUnfolding false in
          exact heq
        rw [hnx] at heq'
        cases heq'
        unfold Builtin.Itertools.itSetNumbersFrom
        refine wpAny_bind (wpAny_updateFields ho rfl ?_ ?_)
        · have eo : Obj.mapFields (fun fs => fs.extract 0 4 ++ ((ix ++ cy).map fun (n : Nat) => rawInt n).toArray) (permO pool 1 r last L) = permO pool 1 r last (ix ++ cy) := by
            show ({ cls := _, data := .fields (_ ++ _) } : Obj) = permO pool 1 r last (ix ++ cy)
            unfold permO
            congr 2
            simp
          have e' : (s.heap.update it (Obj.mapFields fun fs => fs.extract 0 4 ++ ((ix ++ cy).map fun (n : Nat) => rawInt n).toArray)).get? it = some (permO pool 1 r last (ix ++ cy)) := by
            rw [← eo]
            exact Heap.get?_update_self _ ho rfl
          have sb : Heap.SameBut it s.heap (s.heap.update it (Obj.mapFields fun fs => fs.extract 0 4 ++ ((ix ++ cy).map fun (n : Nat) => rawInt n).toArray)) := Heap.SameBut.update ..
          generalize s.heap.update it (Obj.mapFields fun fs => fs.extract 0 4 ++ ((ix ++ cy).map fun (n : Nat) => rawInt n).toArray) = h' at e' sb
          have hixr : ∃ k, ix.take r = (ix ++ cy).take r ∨ k = 0 := ⟨0, .inr rfl⟩
          refine perm_hand (s := { s with heap := h' }) (ix := ix.take r) e' (by rw [List.length_take]; omega) fun h'' q1 q2 q3 => ⟨_, rfl, wpAny_pure ?_⟩
          have hsz : h'.objs.size = s.heap.objs.size := sb.1
          rw [← hsz] at h
          refine h h'' q1 ?_ fun b o hb q => q3 b o hb ((sb.2 b hb).trans q)
          rw [List.take_append_of_le_length (by omega)]
          exact q2
        · show (_ ++ _ : Array Value).size ≤ _
          rw [Array.size_append, Array.size_extract]
          simp only [List.size_toArray, List.length_map, sizeLine_eq]
          omega
      · rename_i heq
        have heq' : nextP its.length r (List.take its.length L) (List.drop its.length L) = none := by
          set_option smartUnfolding false in
          exact heq
        rw [hnx] at heq'
        cases heq'
    · rename_i h0 h1; exact absurd rfl h1
/-- at its end -/
theorem perm_end {it pool : Addr} {r : Nat} {last : Value} {nums : List Nat} {its : List Value} {Q : Option Value → Shared → Prop} (hh : A.handled = none) (ho : s.heap.get? it = some (permO pool 1 r last nums)) (hp : s.heap.get? pool = some (tupO its))
    (hst : nextP its.length r (nums.take its.length) (nums.drop its.length) = none)
    (h : ∀ h', (∀ b o, b ≠ it → s.heap.get? b = some o → h'.get? b = some o) → Q none { s with heap := h' }) :
    wpAny (model prog w) A (pyNext (.ref it)) Q E s := by
  have hT : s.TypeIs (.ref it) "itertools.permutations" := ⟨_, ho, rfl⟩
  unfold pyNext
  refine wpAny_bind (wpAny_attempt (wpAny_callSpecial?_slot (name := Str.ofString "__next__") hT slot_perm_next
    (wpAny_call_entry slot_perm_next hT entry_perm_next ?_ (args_perm_next _))))
  show wpAny _ _ (field (.ref it) 0 >>= _) _ _ s
  refine wpAny_bind (wpAny_field (x := .ref pool) ho rfl rfl ?_)
  unfold Builtin.Itertools.itPoolItems
  refine wpAny_bind (wpAny_bind (wpAny_seqItems (items := its.toArray) hp rfl (wpAny_pure ?_)))
  unfold Builtin.Itertools.itIntField
  refine wpAny_bind (wpAny_bind (wpAny_field (x := rawInt r) ho rfl rfl (wpAny_pure ?_)))
  unfold Builtin.Itertools.itNumbersFrom
  refine wpAny_bind (wpAny_bind (wpAny_load ho (wpAny_pure ?_)))
  generalize hg : List.map _ (List.drop 4 _) = L
  have hL : L = nums := hg.symm.trans (nums_of nums)
  clear hg
  subst hL
  refine wpAny_bind (wpAny_bind (wpAny_field (x := rawInt 1) ho rfl rfl (wpAny_pure ?_)))
  have hrr : ((r : Int)).toNat = r := Int.toNat_natCast r
  rw [hrr]
  have hs5 : its.toArray.size = its.length := List.size_toArray
  rw [hs5]
  split
  · rename_i h0; exact absurd h0 (by decide)
  · split
    · rename_i i2 c2 heq
      have heq' : nextP its.length r (List.take its.length L) (List.drop its.length L) = some (i2, c2) := by
        set_option smartUnfolding false in
        exact heq
      rw [hst] at heq'
      cases heq'
    · refine wpAny_bind (wpAny_setField_rec ho (by simp) fun h' e sb => ?_)
      unfold Builtin.Itertools.itStop
      show wpAny _ _ (newExc (.type "StopIteration") [] >>= _) _ _ _
      refine wpAny_bind ?_
      simp only [newExc, newTuple]
      refine wpAny_bind (wpAny_newObj_type ?_ (by size_fits))
      refine wpAny_bind (m := firstArgMember _ _) (wpAny_of_eq (a := Value.none) (by first | rfl | (simp only [firstArgMember]; rfl)) ?_)
      refine wpAny_newObj_type ?_ (by size_fits)
      simp only [raiseNew]
      refine wpAny_bind (wpAny_handled ?_)
      first | rw [show A.in1.handled = none from hh] | rw [hh]
      refine wpAny_bind (wpAny_pure (wpAny_throw ?_))
      refine wpAny_bind (wpAny_isInstance (T := "StopIteration") (b := true) ⟨_, Heap.get?_push_size _ rfl, rfl⟩ isSubtype_stop ?_)
      refine wpAny_pure (h _ fun b o hb q => ?_)
      exact Heap.get?_push_of_some _ (Heap.get?_push_of_some _ ((sb.2 b hb).trans q))
  · rename_i h0 h1; exact absurd rfl h1
end
/-- the states behind the first one -/
def stsP (n r : Nat) : Nat → List Nat → List Nat → List (List Nat × List Nat)
  | 0, _, _ => []
  | f + 1, ix, cy => match nextP n r ix cy with
    | none => []
    | some (a, b) => (a, b) :: stsP n r f a b
def allP (n r : Nat) : List (List Nat × List Nat) :=
  let ix := List.range n
  let cy := (List.range r).map fun i => n - i
  (ix, cy) :: stsP n r 130 ix cy
/-- each state leads to the next one, the last one to none -/
def chainP (n r : Nat) : List (List Nat × List Nat) → Bool
  | [] => true
  | [(a, b)] => decide (nextP n r a b = none) && decide (a.length = n)
  | (a, b) :: (c, d) :: t => decide (nextP n r a b = some (c, d)) && decide (a.length = n) && chainP n r ((c, d) :: t)
def permIx (n r : Nat) : List (List Nat) := (allP n r).map fun p => p.1.take r
def goodP (n r : Nat) : Bool := chainP n r (allP n r) && decide (permIx n r = perms r (List.range n)) && (allP n r).all fun p => decide (p.1.length = n) && decide (p.2.length = r)
theorem good_5 : ∀ n ≤ 5, ∀ r ≤ n, goodP n r = true := by decide +kernel
theorem picks_mem {α : Type} : ∀ {xs : List α} {p : α × List α}, p ∈ picks xs → p.1 ∈ xs ∧ ∀ y ∈ p.2, y ∈ xs
  | [], _, h => by simp [picks] at h
  | x :: r, p, h => by
    simp only [picks, List.mem_cons, List.mem_map] at h
    rcases h with rfl | ⟨q, hq, rfl⟩
    · exact ⟨List.mem_cons_self, fun y hy => List.mem_cons_of_mem _ hy⟩
    · obtain ⟨h1, h2⟩ := picks_mem hq
      refine ⟨List.mem_cons_of_mem _ h1, fun y hy => ?_⟩
      rcases List.mem_cons.mp hy with rfl | hy
      · exact List.mem_cons_self
      · exact List.mem_cons_of_mem _ (h2 y hy)
theorem perms_mem {α : Type} : ∀ {k : Nat} {xs l : List α}, l ∈ perms k xs → ∀ y ∈ l, y ∈ xs
  | 0, xs, l, h => by
    simp [perms] at h; subst h
    intro y hy; cases hy
  | k + 1, xs, l, h => by
    simp only [perms, List.mem_flatMap, List.mem_map] at h
    obtain ⟨p, hp, m, hm, rfl⟩ := h
    obtain ⟨h1, h2⟩ := picks_mem hp
    intro y hy
    rcases List.mem_cons.mp hy with rfl | hy
    · exact h1
    · exact h2 y (perms_mem hm y hy)
theorem perms_lt {n r : Nat} {l : List Nat} (h : l ∈ perms r (List.range n)) : ∀ j ∈ l, j < n := fun j hj => List.mem_range.mp (perms_mem h j hj)
theorem picks_map {α β : Type} (f : α → β) : ∀ xs : List α, picks (xs.map f) = (picks xs).map fun p => (f p.1, p.2.map f)
  | [] => rfl
  | x :: r => by
    simp only [List.map_cons, picks, picks_map f r, List.map_map]
    rfl
theorem perms_map {α β : Type} (f : α → β) : ∀ (k : Nat) (xs : List α), perms k (xs.map f) = (perms k xs).map (·.map f)
  | 0, _ => rfl
  | k + 1, xs => by
    simp only [perms, picks_map, List.flatMap_map, List.map_flatMap, perms_map f k, List.map_map]
    rfl
theorem chain_get {n r : Nat} : ∀ {l : List (List Nat × List Nat)}, chainP n r l = true → ∀ {j : Nat} {a b : List Nat}, l[j]? = some (a, b) → a.length = n ∧ (∀ c d, l[j + 1]? = some (c, d) → nextP n r a b = some (c, d)) ∧ (l[j + 1]? = none → nextP n r a b = none)
  | [], _, _, _, _, h => by simp at h
  | [(x, y)], hc, 0, a, b, h => by
    simp only [chainP, Bool.and_eq_true, decide_eq_true_eq] at hc
    simp at h
    obtain ⟨rfl, rfl⟩ := h
    exact ⟨hc.2, fun c d e => by simp at e, fun _ => hc.1⟩
  | [(x, y)], _, j + 1, _, _, h => by simp at h
  | (x, y) :: (c, d) :: t, hc, 0, a, b, h => by
    simp only [chainP, Bool.and_eq_true, decide_eq_true_eq] at hc
    simp at h
    obtain ⟨rfl, rfl⟩ := h
    refine ⟨hc.1.2, fun c' d' e => ?_, fun e => by simp at e⟩
    simp at e
    obtain ⟨rfl, rfl⟩ := e
    exact hc.1.1
  | (x, y) :: (c, d) :: t, hc, j + 1, a, b, h => by
    simp only [chainP, Bool.and_eq_true, decide_eq_true_eq] at hc
    have := chain_get (l := (c, d) :: t) hc.2 (j := j) (a := a) (b := b) (by simpa using h)
    simpa using this
open L2
def ItP (rs : List (List Nat)) (vs : List V) : It :=
  ⟨fun i _ => i < rs.length, fun i H v H' => ∃ T its ix, v = .ref T ∧ H T = none ∧ rs[i]? = some ix ∧ H' = upd H T (fz its (ix.map fun j => vs.getD j .non)), fun i _ => rs.length ≤ i⟩
def tnP (it pool : Addr) (r : Nat) (its : List Value) (l : List (List Nat × List Nat)) (i : Nat) (h : Heap) : Prop :=
  i ≤ l.length ∧ pool ≠ it ∧ h.get? pool = some (tupO its) ∧ ∃ st last nums, h.get? it = some (permO pool st r last nums) ∧ ((i = 0 ∧ st = 0 ∧ ∃ a b, l[0]? = some (a, b) ∧ nums = a ++ b) ∨ (st = 1 ∧ ∃ j a b, i = j + 1 ∧ l[j]? = some (a, b) ∧ nums = a ++ b))
theorem vals_getD {vs : List V} {its : List Value} (r : Vals vs its) (ix : List Nat) (h : ∀ i ∈ ix, i < its.length) : Vals (ix.map fun j => vs.getD j .non) (ix.map fun i => its.toArray.getD i .none) := by
  induction ix with
  | nil => exact .nil
  | cons i ix ih =>
    have hi := h i List.mem_cons_self
    refine .cons ?_ (ih fun j hj => h j (List.mem_cons_of_mem _ hj))
    have hv : i < vs.length := by rw [r.length]; exact hi
    obtain ⟨u, hu, ru⟩ := r.get (i := i) (x := vs[i]) (by simp [hv])
    have e1 : vs.getD i .non = vs[i] := by simp [List.getD_eq_getElem?_getD, hv]
    have e2 : its.toArray.getD i .none = u := by
      have : its[i]? = some u := hu
      simp [List.getElem?_eq_some_iff.mp this |>.2, Array.getD, hi]
    show RelV (vs.getD i .non) (its.toArray.getD i .none)
    rw [e1, e2]; exact ru
theorem turn_perm {P : Program} {w : World} {K : Frag} {tg : Expr} {it pool : Addr} {r : Nat} {its : List Value} {vs : List V} (rv : Vals vs its) (hn5 : its.length ≤ 5) (hr : r ≤ its.length) (hg : goodP its.length r = true) :
    Turn P w K tg (ItP (permIx its.length r) vs) [it, pool] it (tnP it pool r its (allP its.length r)) where
  mem := by simp
  obj := fun i h st b hb => by
    obtain ⟨_, _, hp, _, _, _, ho, _⟩ := st
    have e' : b = it ∨ b = pool := by simpa using hb
    rcases e' with z | z
    · rw [z]; exact ⟨_, ho, fun v q => nomatch q⟩
    · rw [z]; exact ⟨_, hp, fun v q => nomatch q⟩
  keep := fun i h h' st k => let ⟨h1, h2, hp, a, b, c, ho, q⟩ := st; ⟨h1, h2, k pool (by simp) _ hp, a, b, c, k it (by simp) _ ho, q⟩
  item := by
    intro X hP hw hK hc i pins s σ H E I hf st hgo
    subst hP hw hK
    simp only [goodP, Bool.and_eq_true, decide_eq_true_eq, List.all_eq_true] at hg
    obtain ⟨⟨hch, hix⟩, hall⟩ := hg
    obtain ⟨hle, hne, hp, st0, last, nums, ho, hst⟩ := st
    have hlen : (permIx its.length r).length = (allP its.length r).length := by unfold permIx; rw [List.length_map]
    have hil : i < (allP its.length r).length := by rw [← hlen]; exact hgo
    rcases hab : (allP its.length r)[i] with ⟨a, b⟩
    have hab' : (allP its.length r)[i]? = some (a, b) := by rw [List.getElem?_eq_getElem hil, hab]
    have hmem : a.length = its.length ∧ b.length = r := hall (a, b) (List.mem_of_getElem? hab')
    have hpi : (permIx its.length r)[i]? = some (a.take r) := by unfold permIx; rw [List.getElem?_map, hab']; rfl
    have hbnd : ∀ j ∈ a.take r, j < its.length := by
      have h1 : a.take r ∈ permIx its.length r := List.mem_of_getElem? hpi
      rw [hix] at h1
      exact perms_lt h1
    have pit : it < s.heap.objs.size := Heap.lt_size ho
    have ppl : pool < s.heap.objs.size := Heap.lt_size hp
    refine perm_item (nums' := a ++ b) ho hp hne ?_ hr (by omega) (by rw [List.length_append, hmem.1, hmem.2]; omega) fun h' q1 q2 q3 => ?_
    · rcases hst with ⟨rfl, rfl, a', b', e1, rfl⟩ | ⟨rfl, j, a', b', rfl, e1, rfl⟩
      · rw [hab'] at e1; cases e1
        exact .inl ⟨rfl, rfl⟩
      · obtain ⟨c1, c2, _⟩ := chain_get hch e1
        refine .inr ⟨rfl, a, b, ?_, rfl, hmem.1⟩
        rw [List.take_left' c1, List.drop_left' c1]
        exact c2 a b hab'
    · rw [List.take_append_of_le_length (by omega)] at q2
      refine ⟨_, rfl, go_of (s := { s with heap := h' }) (n := "itertools.permutations") q1 rfl rfl (by decide) ?_⟩
      have hz : ((a.take r).map fun j => vs.getD j .non).length ≤ sizeLine := by rw [List.length_map, List.length_take, sizeLine_eq]; omega
      have new : ObjOk X.prog X.w (upd H s.heap.objs.size (fz ((a.take r).map fun i => its.toArray.getD i .none) ((a.take r).map fun j => vs.getD j .non))) h' s.heap.objs.size (fz ((a.take r).map fun i => its.toArray.getD i .none) ((a.take r).map fun j => vs.getD j .non)) :=
        ⟨q2, hz, _, vals_getD rv _ hbnd, ⟨_, q2, rfl, _, rfl⟩⟩
      have I1 : L2.Inv X pins σ (upd H s.heap.objs.size (fz ((a.take r).map fun i => its.toArray.getD i .none) ((a.take r).map fun j => vs.getD j .non))) { s with heap := h' } :=
        I.turnedNew (t' := s.toks) (ch := [it, pool]) (fun c o hb q => q3 c o (fun z => hb (by simp [z])) q) hf (Nat.le_refl _) new
      refine ⟨.ref s.heap.objs.size, _, I1, rfl, ⟨_, _, _, rfl, I.hok.fresh (Nat.le_refl _), hpi, rfl⟩, ⟨hil, hne, q3 pool _ hne hp, 1, _, _, q1, .inr ⟨rfl, i, a, b, rfl, hab', rfl⟩⟩, fun c hcm => ?_⟩
      have hcl : c < s.heap.objs.size := by
        have e' : c = it ∨ c = pool := by simpa using hcm
        rcases e' with z | z
        · rw [z]; exact pit
        · rw [z]; exact ppl
      rw [upd_ne (Nat.ne_of_lt hcl)]
      exact (hf c hcm).1
  done := by
    intro X hP hw hK hc i pins s σ H E I hf st hgo
    subst hP hw hK
    simp only [goodP, Bool.and_eq_true, decide_eq_true_eq, List.all_eq_true] at hg
    obtain ⟨⟨hch, hix⟩, hall⟩ := hg
    obtain ⟨hle, hne, hp, st0, last, nums, ho, hst⟩ := st
    have hlen : (permIx its.length r).length = (allP its.length r).length := by unfold permIx; rw [List.length_map]
    have hil : (allP its.length r).length ≤ i := by rw [← hlen]; exact hgo
    have hpos : 0 < (allP its.length r).length := by unfold allP; simp
    rcases hst with ⟨rfl, _, _⟩ | ⟨rfl, j, a', b', rfl, e1, rfl⟩
    · omega
    · obtain ⟨c1, _, c3⟩ := chain_get hch e1
      obtain ⟨f0, f1, f2, f3, f4, f5⟩ := hf it (by simp)
      refine perm_end (I.ok.hd hc) ho hp ?_ fun h' k => ⟨rfl, I.turned (t' := s.toks) (fun b o hb e => k b o hb e) f0 f1 f3 f4 f5⟩
      rw [List.take_left' c1, List.drop_left' c1]
      exact c3 (List.getElem?_eq_none hil)
  self := fun A i s Q E st h => by
    obtain ⟨_, _, _, _, _, _, ho, _⟩ := st
    have hT : s.TypeIs (.ref it) "itertools.permutations" := ⟨_, ho, rfl⟩
    refine wpAny_pyIter_slot hT slot_perm_iter (wpAny_call_entry slot_perm_iter hT entry_perm_iter ?_ (args_perm_iter _))
    show wpAny _ _ (ret (.ref it)) _ _ s
    exact wpAny_pure ⟨_, rfl, "itertools.permutations", _, hT, slot_perm_next.lookup, h⟩
theorem meets_perm_new (l : Addr) : Meets (Builtin.«itertools.permutations.__new__» ⟨[.type "itertools.permutations", .ref l], []⟩) (fun A R s => ∃ b items, PlX b s.heap l items ∧ items.size ≤ 1000 ∧
    ∀ h' : Heap, (∀ b o, s.heap.get? b = some o → h'.get? b = some o) → R (.ok (.ret (.ref (h'.objs.size + 1)))) { s with heap := (h'.push (tupO items.toList)).push (permO h'.objs.size 0 items.size .none (List.range items.size ++ (List.range items.size).map fun i => items.size - i)) }) :=
  .of_wp fun prog w A R s ⟨b, items, hL, hz, h⟩ => code_perm_new hL hz h
theorem call_perm {prog : Program} {w : World} {A : Around} {E : Value → Shared → Prop} {s : Shared} {b : Bool} {l : Addr} {items : Array Value} {Q : Value → Shared → Prop} (hL : PlX b s.heap l items) (hz : items.size ≤ 1000)
    (h : ∀ h' : Heap, (∀ b o, s.heap.get? b = some o → h'.get? b = some o) → Q (.ref (h'.objs.size + 1)) { s with heap := (h'.push (tupO items.toList)).push (permO h'.objs.size 0 items.size .none (List.range items.size ++ (List.range items.size).map fun i => items.size - i)) }) :
    wpAny (model prog w) A (call (.type "itertools.permutations") [.ref l]) Q E s := by
  refine callType_new called_perm (by decide +kernel) (typeCall_perm_1 _) (newCall_perm_1 _) (fun obj => PySem.F.args_object_init_2 obj _) entry_perm_new (meets_perm_new l) ⟨b, items, hL, hz, fun h' k => ?_⟩
  have hsz : (h'.push (tupO items.toList)).objs.size = h'.objs.size + 1 := Heap.size_push ..
  refine ⟨⟨permO h'.objs.size 0 items.size .none (List.range items.size ++ (List.range items.size).map fun i => items.size - i), ?_, rfl⟩, h h' k⟩
  have := Heap.get?_push_size (h'.push (tupO items.toList)) (o := permO h'.objs.size 0 items.size .none (List.range items.size ++ (List.range items.size).map fun i => items.size - i)) rfl
  rw [hsz] at this
  exact this
section
variable {F : Cf} {X : Cx} {W : VW} {C : Cl} {e tg : Expr} {l : Ls} {p pos : Pos}
/-- the name stands for the class -/
structure Pn (X : Cx) (x : Str) (T : String) : Prop where
  g : Gl X x
  m : X.mg x = some (.type T)
theorem pi_perm {te : TE} {x : Str} (B : Pn X x "itertools.permutations") (hdb : (x == ("__debug__" : Str)) = false) (hn : notStar e = true) (he : PE X e te) :
    PI X tg (.Call (.Name x p) [e] [] pos) (fun σ H R => te σ H fun x H1 => ∃ a b xs, [x] = [V.ref a] ∧ SqX b X.K H1 a xs ∧ xs.length ≤ 5 ∧ R (ItP (permIx xs.length xs.length) xs) H1) := by
  refine ⟨fun pins s σ H R I h => ?_⟩
  refine Call_ (ld_glob I B.g B.m (PyProof.Rows.callWith_type1 (thn ((pA_one hn he).run pos pins s σ H (fun vs H1 => ∃ a b xs, vs = [.ref a] ∧ SqX b X.K H1 a xs ∧ xs.length ≤ 5 ∧ R (ItP (permIx xs.length xs.length) xs) H1) I h) fun us s1 ⟨vs, H1, I1, r1, q1⟩ => ?_) (by rw [star_cons hn] <;> rfl) rfl) hdb)
  obtain ⟨a, b, xs, ex, hq, h5, q⟩ := q1
  subst ex
  cases r1 with
  | cons r rr =>
    cases rr
    cases r
    obtain ⟨its, rv, p', hz, _⟩ := Inv.seqX I1 hq
    have hl := rv.length
    refine call_perm p' (by rw [List.size_toArray]; omega) fun h' hk => ?_
    have I2 : L2.Inv X pins σ H1 { s1 with heap := h' } := I1.kept (t' := s1.toks) hk
    have hsa : its.toArray.size = its.length := List.size_toArray
    have htl : its.toArray.toList = its := by simp
    rw [htl, hsa]
    have hsz : (h'.push (tupO its)).objs.size = h'.objs.size + 1 := Heap.size_push ..
    have e1 : ((h'.push (tupO its)).push (permO h'.objs.size 0 its.length .none (List.range its.length ++ (List.range its.length).map fun i => its.length - i))).get? (h'.objs.size + 1) = some (permO h'.objs.size 0 its.length .none (List.range its.length ++ (List.range its.length).map fun i => its.length - i)) := by
      have := Heap.get?_push_size (h'.push (tupO its)) (o := permO h'.objs.size 0 its.length .none (List.range its.length ++ (List.range its.length).map fun i => its.length - i)) rfl
      rw [hsz] at this; exact this
    have e2 : ((h'.push (tupO its)).push (permO h'.objs.size 0 its.length .none (List.range its.length ++ (List.range its.length).map fun i => its.length - i))).get? h'.objs.size = some (tupO its) := Heap.get?_push_of_some _ (Heap.get?_push_size _ rfl)
    have I3 : L2.Inv X pins σ H1 { s1 with heap := (h'.push (tupO its)).push (permO h'.objs.size 0 its.length .none (List.range its.length ++ (List.range its.length).map fun i => its.length - i)) } :=
      I2.kept (t' := s1.toks) fun b o e => Heap.get?_push_of_some _ (Heap.get?_push_of_some _ e)
    have hT : Shared.TypeIs { s1 with heap := (h'.push (tupO its)).push (permO h'.objs.size 0 its.length .none (List.range its.length ++ (List.range its.length).map fun i => its.length - i)) } (.ref (h'.objs.size + 1)) "itertools.permutations" := ⟨_, e1, rfl⟩
    refine wpAny_pyIter_slot hT slot_perm_iter (wpAny_call_entry slot_perm_iter hT entry_perm_iter ?_ (args_perm_iter _))
    show wpAny _ _ (ret (.ref (h'.objs.size + 1))) _ _ _
    refine wpAny_pure ⟨_, rfl, "itertools.permutations", _, hT, slot_perm_next.lookup, ?_⟩
    rw [hl] at q h5
    refine ⟨h'.objs.size + 1, [h'.objs.size + 1, h'.objs.size], _, _, H1, rfl, I3, turn_perm rv h5 (Nat.le_refl _) (good_5 _ h5 _ (Nat.le_refl _)), ?_, fun b hb => ?_, q⟩
    · exact ⟨Nat.zero_le _, Nat.ne_of_lt (Nat.lt_succ_self _), e2, 0, .none, _, e1, .inl ⟨rfl, rfl, _, _, rfl, rfl⟩⟩
    · have e' : b = h'.objs.size + 1 ∨ b = h'.objs.size := by simpa using hb
      have hle : h'.objs.size ≤ b := by
        rcases e' with z | z
        · rw [z]; exact Nat.le_add_right _ _
        · rw [z]; exact Nat.le_refl _
      exact I2.fpOk hle (I2.hok.fresh hle)
theorem pick_rl {K : Frag} {ρ : Rho} {H : Hp} {xs : List D} {vs : List V} (r : RlL K ρ H xs vs) : ∀ ix : List Nat, (∀ j ∈ ix, j < xs.length) → RlL K ρ H (ix.map fun j => xs.getD j .non) (ix.map fun j => vs.getD j .non)
  | [], _ => RlL.nil
  | j :: ix, h => by
    have hj := h j List.mem_cons_self
    obtain ⟨v, h1, h2⟩ := r.get (i := j) (d := xs[j]) (by simp [hj])
    refine RlL.cons (x := xs.getD j .non) (v := vs.getD j .non) ?_ (pick_rl r ix fun i hi => h i (List.mem_cons_of_mem _ hi))
    have e1 : xs.getD j .non = xs[j] := by simp [List.getD_eq_getElem?_getD, hj]
    have e2 : vs.getD j .non = v := by rw [List.getD_eq_getElem?_getD, h1]; rfl
    rw [e1, e2]; exact h2
theorem hd_perm {K : Frag} {ρ : Rho} {H : Hp} {xs : List D} {vs : List V} (hr : RlL K ρ H xs vs) (h5 : xs.length ≤ 5) : HdR τ K ρ H (.its ((perms xs.length xs).map .tup)) (ItP (permIx vs.length vs.length) vs) := fun ρ' H' st i x s => by
  have hl := hr.len
  have r' := RlL.mono x _ _ hr
  have hgood := good_5 vs.length (by omega) vs.length (Nat.le_refl _)
  simp only [goodP, Bool.and_eq_true, decide_eq_true_eq] at hgood
  have hpx := hgood.1.2
  have hxs : xs = (List.range xs.length).map fun j => xs.getD j .non := by
    apply List.ext_getElem
    · simp
    · intro j h1 h2
      simp [List.getD_eq_getElem?_getD, h1]
  have hperm : perms xs.length xs = (permIx vs.length vs.length).map fun ix => ix.map fun j => xs.getD j .non := by
    rw [hpx, ← hl]
    conv => lhs; rw [hxs]
    simp only [List.length_map, List.length_range]
    exact perms_map _ _ _
  show match some ((perms xs.length xs).map D.tup)[i]? with | some (some d) => _ | some none => _ | none => _
  rw [hperm, List.map_map, List.getElem?_map]
  cases hi : (permIx vs.length vs.length)[i]? with
  | none => exact List.getElem?_eq_none_iff.mp hi
  | some ix =>
    obtain ⟨hlt, _⟩ := List.getElem?_eq_some_iff.mp hi
    refine ⟨hlt, fun v H2 ⟨T, its, ix', ev, hn, e1, e2⟩ => ?_⟩
    rw [hi] at e1; cases e1
    subst ev e2
    obtain ⟨s', e'⟩ := s.beside (u := fz its (ix.map fun j => vs.getD j .non)) hn
    have hbnd : ∀ j ∈ ix, j < xs.length := by
      have h1 := List.mem_of_getElem? hi
      rw [hpx] at h1
      rw [hl]
      exact perms_lt h1
    refine ⟨e', s', rl_tup SqD.new ?_⟩
    exact pick_rl (RlL.mono e' _ _ r') ix hbnd
theorem pQ_perm {x : Str} (g : Gx F X) (B : Pn X x "itertools.permutations") (hdb : (x == ("__debug__" : Str)) = false) (hn : notStar e = true) (he : PE X e (tS F W (evS C l))) : PI X tg (.Call (.Name x p) [e] [] pos) (tQ F W (evQ C (.prm l none))) :=
  (pi_perm B hdb hn he).imp fun σ H R h => tM.step h fun env xs v st1 ρ1 H1 he hs ⟨a, vs, ev, hq, hr⟩ q => by
    have q : Post F (fun ρ H h J => HdR F.τ F.K ρ H h J) W ((if xs.length ≤ 5 then M.ret (.its ((perms xs.length xs).map .tup)) else M.err : M Hd) st1) ρ1 H1 R := q
    have hl := hr.len
    by_cases h5 : xs.length ≤ 5
    · rw [if_pos h5] at q
      have fin := q.ret hs (hd_perm hr h5)
      rcases hq with hq | hq
      · exact ⟨a, false, vs, by rw [ev], by rw [g.K]; exact hq, by omega, fin⟩
      · exact ⟨a, true, vs, by rw [ev], by rw [g.K]; exact hq.t, by omega, fin⟩
    · rw [if_neg h5] at q
      exact False.elim q
end
end Cr.PF

set_option maxRecDepth 100000
set_option maxHeartbeats 1000000
namespace Cr.PF
open PySem PySem.Spec PyProof.Rows PySem.Calls
theorem owner_comb : Manifest.owners.lookup (String.ofList ['s', 'n', 'o', 'i', 't', 'a', 'n', 'i', 'b', 'm', 'o', 'c', '.', 's', 'l', 'o', 'o', 't', 'r', 'e', 't', 'i'].reverse) = some Manifest.sig_itertools_combinations := by kernel_rfl
theorem mro_comb : mroOf (.type "itertools.combinations") = pure [.type "itertools.combinations", .type "object"] := by rw [mroOf_type]; kernel_rfl
theorem lookup_comb_new : typeLookup (.type "itertools.combinations") "__new__" = pure (some (.builtin "itertools.combinations.__new__")) := by rw [typeLookup_type, builtinLookup_eq_fast]; kernel_rfl
theorem slot_comb_init : Slot "itertools.combinations" "__init__" "object.__init__" :=
  .of (owner := "object") (n := "__init__") (by rw [typeLookup_type, builtinLookup_eq_fast]; kernel_rfl) (by decide +kernel) (by decide +kernel) (by decide +kernel)
    (by first | exact .inl (by decide +kernel) | exact .inr (by decide +kernel)) (by rw [isSubtype_type]; kernel_rfl)
theorem slot_comb_next : Slot "itertools.combinations" "__next__" "itertools.combinations.__next__" :=
  .of (owner := "itertools.combinations") (n := "__next__") (by rw [typeLookup_type, builtinLookup_eq_fast]; kernel_rfl) (by decide +kernel) (by decide +kernel) (by decide +kernel)
    (by first | exact .inl (by decide +kernel) | exact .inr (by decide +kernel)) (by rw [isSubtype_type]; kernel_rfl)
theorem slot_comb_iter : Slot "itertools.combinations" "__iter__" "itertools.combinations.__iter__" :=
  .of (owner := "itertools.combinations") (n := "__iter__") (by rw [typeLookup_type, builtinLookup_eq_fast]; kernel_rfl) (by decide +kernel) (by decide +kernel) (by decide +kernel)
    (by first | exact .inl (by decide +kernel) | exact .inr (by decide +kernel)) (by rw [isSubtype_type]; kernel_rfl)
theorem args_comb_next (a : Value) : argsOk "itertools.combinations.__next__" ⟨[a], []⟩ := by
  unfold argsOk; rw [signature?_of (id := "itertools.combinations.__next__") (n := ['_', '_', 't', 'x', 'e', 'n', '_', '_']) (o := ['s', 'n', 'o', 'i', 't', 'a', 'n', 'i', 'b', 'm', 'o', 'c', '.', 's', 'l', 'o', 'o', 't', 'r', 'e', 't', 'i']) (by kernel_rfl) owner_comb]; kernel_rfl
theorem args_comb_iter (a : Value) : argsOk "itertools.combinations.__iter__" ⟨[a], []⟩ := by
  unfold argsOk; rw [signature?_of (id := "itertools.combinations.__iter__") (n := ['_', '_', 'r', 'e', 't', 'i', '_', '_']) (o := ['s', 'n', 'o', 'i', 't', 'a', 'n', 'i', 'b', 'm', 'o', 'c', '.', 's', 'l', 'o', 'o', 't', 'r', 'e', 't', 'i']) (by kernel_rfl) owner_comb]; kernel_rfl
theorem entry_comb_iter : entryFor table "itertools.combinations.__iter__" = some Builtin.«dict_keyiterator.__iter__» :=
  entryFor_alias (id' := "dict_keyiterator.__iter__") (by kernel_rfl) (by first | rfl | decide +kernel | (unfold String.splitOn; simp +decide [String.splitOnAux])) (by decide +kernel) (by kernel_rfl)
theorem called_comb : TypeCalled "itertools.combinations" "itertools.combinations.__new__" "object.__init__" :=
  ⟨by decide +kernel, by decide +kernel, ⟨_, _, mro_comb⟩, madeBy_type mro_comb lookup_comb_new (by decide +kernel), by decide +kernel, by rw [isSubtype_type]; kernel_rfl, slot_comb_init⟩
theorem typeCall_comb_2 (a b : Value) : checkTypeCall "itertools.combinations" ⟨[a, b], []⟩ = pure () := by kernel_rfl
theorem newCall_comb_2 (a b : Value) : checkBuiltinCall "itertools.combinations.__new__" ⟨[.type "itertools.combinations", a, b], []⟩ = pure () := by kernel_rfl
theorem entry_comb_new : entryFor table "itertools.combinations.__new__" = some Builtin.«itertools.combinations.__new__» := entryFor_of_tree (by kernel_rfl)
theorem entry_comb_next : entryFor table "itertools.combinations.__next__" = some Builtin.«itertools.combinations.__next__» := entryFor_of_tree (by kernel_rfl)
end Cr.PF

set_option maxRecDepth 100000
set_option maxHeartbeats 1000000
namespace Cr.PF
open PySem PySem.Spec PyProof.Rows PySem.Calls
section
variable {prog : Program} {w : World} {A : Around} {E : Value → Shared → Prop} {s : Shared}
/-- the object behind i turns: new (0), begun (1), ended (2) -/
def combO (pool : Addr) (st : Nat) (last : Value) (numbers : List Nat) : Obj := { cls := .type "itertools.combinations", data := .fields ([.ref pool, rawInt st, last] ++ numbers.map fun (n : Nat) => rawInt n).toArray }
theorem code_comb_new {b : Bool} {l : Addr} {items : Array Value} {r : Nat} {t : Tok} {Q : Value → Shared → Prop} (hL : PlX b s.heap l items) (hz : items.size ≤ 1000) (hr : r ≤ 30)
    (h : ∀ h' : Heap, (∀ b o, s.heap.get? b = some o → h'.get? b = some o) → Q (.ref (h'.objs.size + 1)) { s with heap := (h'.push (tupO items.toList)).push (combO h'.objs.size (if r > items.size then 2 else 0) .none (List.range r)) }) :
    wpAny (model prog w) A (Builtin.«itertools.combinations.__new__» ⟨[.type "itertools.combinations", .ref l, .int r t], []⟩) (fun f s' => ∃ v, f = .done (.ret v) ∧ Q v s') E s := by
  obtain ⟨o, T, n, hT, ho, hc, hd⟩ : ∃ o T n, (T = "list" ∨ T = "tuple") ∧ s.heap.get? l = some o ∧ o.cls = .type T ∧ o.data = .seq items n := by
    cases b with
    | false => obtain ⟨o, e, c, n, d⟩ := (show s.heap.IsList l items from hL); exact ⟨o, "list", n, .inl rfl, e, c, d⟩
    | true => obtain ⟨o, e, c, n, d⟩ := (show s.heap.IsTuple l items from hL); exact ⟨o, "tuple", n, .inr rfl, e, c, d⟩
  have h1 : Builtin.Itertools.itClassAndRest "combinations" ⟨[.type "itertools.combinations", .ref l, .int r t], []⟩ = (pure (Value.type "itertools.combinations", [Value.ref l, Value.int r t]) : Sem (Value × List Value)) := by
    unfold Builtin.Itertools.itClassAndRest
    have e : ("itertools." ++ "combinations" : String) = "itertools.combinations" := by decide +kernel
    dsimp only
    rw [e]
    have e2 : isType (.type "itertools.combinations") = pure true := rfl
    rw [e2, called_comb.sub]
    rfl
  have h2 : Builtin.Itertools.itBindNamed "combinations" ["iterable", "r"] 2 2 [.ref l, .int r t] [] = (pure [some (Value.ref l), some (.int r t)] : Sem (List (Option Value))) := by
    kernel_rfl
  have h3 : typeHasDict (.type "itertools.combinations") = false := by kernel_rfl
  have h4 : Builtin.Itertools.itSsizeArg (.int r t) = (pure (r : Int) : Sem Int) := by
    unfold Builtin.Itertools.itSsizeArg
    show (if ((r : Int) < -(2 ^ 63 : Int) || (r : Int) ≥ 2 ^ 63) = true then _ else _) = _
    rw [if_neg (by simp; omega)]
  unfold Builtin.«itertools.combinations.__new__»
  show wpAny _ _ ((do
    let (cls, rest) ← Builtin.Itertools.itClassAndRest "combinations" ⟨[.type "itertools.combinations", .ref l, .int r t], []⟩
    _ : Sem (Value × Value × Nat × Nat)) >>= _) _ _ s
  refine wpAny_bind (wpAny_bind (wpAny_of_eq h1 ?_))
  refine wpAny_bind (wpAny_of_eq h2 ?_)
  refine wpAny_bind (wpAny_of_eq h4 ?_)
  refine wpAny_bind (wpAny_collect_seq l hT ho hc hd (fun h' k => ?_) (by rw [sizeLine_eq]; omega))
  have hl : items.toList.length = items.size := Array.length_toList
  dsimp only
  rw [if_neg (by omega), if_neg (by unfold Builtin.Itertools.itTooMany; simp; omega)]
  refine wpAny_bind (wpAny_newTuple ?_ (by rw [hl, sizeLine_eq]; omega))
  refine wpAny_pure ?_
  rw [Int.toNat_natCast, hl]
  unfold Builtin.Itertools.itNewRecord
  rw [h3]
  rw [if_pos (show (!false) = true from rfl)]
  refine wpAny_bind (wpAny_newObj_type ?_ ?_)
  · have q := h h' k
    have hsz : (h'.push { cls := Value.type "tuple", data := Data.seq items.toList.toArray }).objs.size = h'.objs.size + 1 := Heap.size_push ..
    refine wpAny_pure ⟨_, rfl, ?_⟩
    show Q (.ref (h'.push _).objs.size) { s with heap := (h'.push _).push { cls := .type "itertools.combinations", data := .fields (_ : List Value).toArray } }
    rw [hsz]
    have e : (if r > items.size then (2 : Int) else 0) = (((if r > items.size then 2 else 0 : Nat)) : Int) := by split <;> rfl
    unfold combO at q
    rw [← e] at q
    exact q
  · show (_ : List Value).toArray.size ≤ _
    simp
    rw [sizeLine_eq]; omega
/-- the next indices -/
def nextC (n : Nat) (ix : List Nat) : Option (List Nat) :=
  let r := ix.length
  match (List.range r).reverse.find? fun i => ix.getD i 0 != i + n - r with
  | none => none
  | some i => some (ix.take i ++ (List.range (r - i)).map (ix.getD i 0 + 1 + ·))
theorem comb_hand {it pool : Addr} {st : Nat} {last : Value} {ix : List Nat} {its : List Value} {Q : Fin → Shared → Prop} (ho : s.heap.get? it = some (combO pool st last ix)) (hp : s.heap.get? pool = some (tupO its)) (hz : ix.length ≤ 1000)
    (h : ∀ h', h'.get? it = some (combO pool st (.ref s.heap.objs.size) ix) → h'.get? s.heap.objs.size = some (tupO (ix.map fun i => its.toArray.getD i .none)) → (∀ b o, b ≠ it → s.heap.get? b = some o → h'.get? b = some o) → Q (.done (.ret (.ref s.heap.objs.size))) { s with heap := h' }) :
    wpAny (model prog w) A (do
      let t ← (do
        let items ← Builtin.Itertools.itPoolItems (.ref pool)
        newTuple (ix.map fun i => items.getD i .none))
      let before ← field (.ref it) 2
      setField (.ref it) 2 t
      letGo [before] [t]
      ret t) Q E s := by
  have hlt : it < s.heap.objs.size := Heap.lt_size ho
  unfold Builtin.Itertools.itPoolItems
  refine wpAny_bind (wpAny_bind (wpAny_bind (wpAny_seqItems (items := its.toArray) hp rfl (wpAny_pure ?_))))
  refine wpAny_newTuple ?_ (by rw [List.length_map, sizeLine_eq]; omega)
  have ho1 : (s.heap.push (tupO (ix.map fun i => its.toArray.getD i .none))).get? it = some (combO pool st last ix) := Heap.get?_push_of_some _ ho
  refine wpAny_bind (wpAny_field (x := last) ho1 rfl rfl ?_)
  refine wpAny_bind (wpAny_setField_rec ho1 (by simp) fun h' e sb => ?_)
  refine wpAny_bind (wpAny_letGo ?_)
  refine wpAny_pure (h h' ?_ ?_ fun b o hb q => ?_)
  · rw [e]
    congr 1
  · exact (sb.2 _ (Nat.ne_of_gt hlt)).trans (Heap.get?_push_size _ rfl)
  · exact (sb.2 b hb).trans (Heap.get?_push_of_some _ q)
theorem nums3_of (l : List Nat) : ((l.map fun (n : Nat) => rawInt n).map fun | .int n _ => n.toNat | _ => 0) = l := nums_of l
theorem comb_item {it pool : Addr} {st : Nat} {last : Value} {ix ix' : List Nat} {its : List Value} {Q : Option Value → Shared → Prop} (ho : s.heap.get? it = some (combO pool st last ix)) (hp : s.heap.get? pool = some (tupO its)) (hne : pool ≠ it)
    (hst : (st = 0 ∧ ix' = ix) ∨ (st = 1 ∧ nextC its.length ix = some ix')) (hn : ix'.length ≤ 1000)
    (h : ∀ h', h'.get? it = some (combO pool 1 (.ref s.heap.objs.size) ix') → h'.get? s.heap.objs.size = some (tupO (ix'.map fun i => its.toArray.getD i .none)) → (∀ b o, b ≠ it → s.heap.get? b = some o → h'.get? b = some o) → Q (some (.ref s.heap.objs.size)) { s with heap := h' }) :
    wpAny (model prog w) A (pyNext (.ref it)) Q E s := by
  have hT : s.TypeIs (.ref it) "itertools.combinations" := ⟨_, ho, rfl⟩
  unfold pyNext
  refine wpAny_bind (wpAny_attempt (wpAny_callSpecial?_slot (name := Str.ofString "__next__") hT slot_comb_next
    (wpAny_call_entry slot_comb_next hT entry_comb_next ?_ (args_comb_next _))))
  show wpAny _ _ (field (.ref it) 0 >>= _) _ _ s
  refine wpAny_bind (wpAny_field (x := .ref pool) ho rfl rfl ?_)
  unfold Builtin.Itertools.itNumbersFrom
  refine wpAny_bind (wpAny_bind (wpAny_load ho (wpAny_pure ?_)))
  generalize hg : List.map _ (List.drop 3 _) = L
  have hL : L = ix := hg.symm.trans (nums_of ix)
  clear hg
  subst hL
  unfold Builtin.Itertools.itIntField
  refine wpAny_bind (wpAny_bind (wpAny_field (x := rawInt st) ho rfl rfl (wpAny_pure ?_)))
  have hs5 : its.toArray.size = its.length := List.size_toArray
  rcases hst with ⟨rfl, rfl⟩ | ⟨rfl, hnx⟩
  · show wpAny _ _ (setField (.ref it) 1 (rawInt 1) >>= fun _ => _) _ _ s
    refine wpAny_bind (wpAny_setField_rec ho (by simp) fun h' e sb => ?_)
    have e' : h'.get? it = some (combO pool 1 last ix') := e.trans (by congr 1)
    have hp' : h'.get? pool = some (tupO its) := (sb.2 pool hne).trans hp
    refine comb_hand (s := { s with heap := h' }) e' hp' hn fun h'' q1 q2 q3 => ⟨_, rfl, wpAny_pure ?_⟩
    have hsz : h'.objs.size = s.heap.objs.size := sb.1
    rw [← hsz] at h
    exact h h'' q1 q2 fun b o hb q => q3 b o hb ((sb.2 b hb).trans q)
  · show wpAny _ _ (Builtin.Itertools.itPoolItems (.ref pool) >>= _) _ _ s
    unfold Builtin.Itertools.itPoolItems
    refine wpAny_bind (wpAny_bind (wpAny_seqItems (items := its.toArray) hp rfl (wpAny_pure ?_)))
    rw [hs5]
    split
    · rename_i i2 heq
      have heq' : nextC its.length L = some i2 := by
        set_option smartUnfolding false in
        exact heq
      rw [hnx] at heq'
      cases heq'
      unfold Builtin.Itertools.itSetNumbersFrom
      refine wpAny_bind (wpAny_updateFields ho rfl ?_ ?_)
      · have eo : Obj.mapFields (fun fs => fs.extract 0 3 ++ (ix'.map fun (n : Nat) => rawInt n).toArray) (combO pool 1 last L) = combO pool 1 last ix' := by
          show ({ cls := _, data := .fields (_ ++ _) } : Obj) = combO pool 1 last ix'
          unfold combO
          congr 2
          simp
        have e' : (s.heap.update it (Obj.mapFields fun fs => fs.extract 0 3 ++ (ix'.map fun (n : Nat) => rawInt n).toArray)).get? it = some (combO pool 1 last ix') := by
          rw [← eo]
          exact Heap.get?_update_self _ ho rfl
        have sb : Heap.SameBut it s.heap (s.heap.update it (Obj.mapFields fun fs => fs.extract 0 3 ++ (ix'.map fun (n : Nat) => rawInt n).toArray)) := Heap.SameBut.update ..
        generalize s.heap.update it (Obj.mapFields fun fs => fs.extract 0 3 ++ (ix'.map fun (n : Nat) => rawInt n).toArray) = h' at e' sb
        have hp' : h'.get? pool = some (tupO its) := (sb.2 pool hne).trans hp
        refine comb_hand (s := { s with heap := h' }) e' hp' hn fun h'' q1 q2 q3 => ⟨_, rfl, wpAny_pure ?_⟩
        have hsz : h'.objs.size = s.heap.objs.size := sb.1
        rw [← hsz] at h
        exact h h'' q1 q2 fun b o hb q => q3 b o hb ((sb.2 b hb).trans q)
      · show (_ ++ _ : Array Value).size ≤ _
        rw [Array.size_append, Array.size_extract]
        simp only [List.size_toArray, List.length_map, sizeLine_eq]
        omega
    · rename_i heq
      have heq' : nextC its.length L = none := by
        set_option smartUnfolding false in
        exact heq
      rw [hnx] at heq'
      cases heq'
/-- at its end -/
theorem comb_end {it pool : Addr} {st : Nat} {last : Value} {ix : List Nat} {its : List Value} {Q : Option Value → Shared → Prop} (hh : A.handled = none) (ho : s.heap.get? it = some (combO pool st last ix)) (hp : s.heap.get? pool = some (tupO its))
    (hst : (st = 1 ∧ nextC its.length ix = none) ∨ st = 2)
    (h : ∀ h', (∀ b o, b ≠ it → s.heap.get? b = some o → h'.get? b = some o) → Q none { s with heap := h' }) :
    wpAny (model prog w) A (pyNext (.ref it)) Q E s := by
  have hT : s.TypeIs (.ref it) "itertools.combinations" := ⟨_, ho, rfl⟩
  unfold pyNext
  refine wpAny_bind (wpAny_attempt (wpAny_callSpecial?_slot (name := Str.ofString "__next__") hT slot_comb_next
    (wpAny_call_entry slot_comb_next hT entry_comb_next ?_ (args_comb_next _))))
  show wpAny _ _ (field (.ref it) 0 >>= _) _ _ s
  refine wpAny_bind (wpAny_field (x := .ref pool) ho rfl rfl ?_)
  unfold Builtin.Itertools.itNumbersFrom
  refine wpAny_bind (wpAny_bind (wpAny_load ho (wpAny_pure ?_)))
  generalize hg : List.map _ (List.drop 3 _) = L
  have hL : L = ix := hg.symm.trans (nums_of ix)
  clear hg
  subst hL
  unfold Builtin.Itertools.itIntField
  refine wpAny_bind (wpAny_bind (wpAny_field (x := rawInt st) ho rfl rfl (wpAny_pure ?_)))
  have hs5 : its.toArray.size = its.length := List.size_toArray
  rcases hst with ⟨rfl, hnx⟩ | rfl
  · show wpAny _ _ (Builtin.Itertools.itPoolItems (.ref pool) >>= _) _ _ s
    unfold Builtin.Itertools.itPoolItems
    refine wpAny_bind (wpAny_bind (wpAny_seqItems (items := its.toArray) hp rfl (wpAny_pure ?_)))
    rw [hs5]
    split
    · rename_i i2 heq
      have heq' : nextC its.length L = some i2 := by
        set_option smartUnfolding false in
        exact heq
      rw [hnx] at heq'
      cases heq'
    · refine wpAny_bind (wpAny_setField_rec ho (by simp) fun h' e sb => ?_)
      unfold Builtin.Itertools.itStop
      show wpAny _ _ (newExc (.type "StopIteration") [] >>= _) _ _ _
      refine wpAny_bind ?_
      simp only [newExc, newTuple]
      refine wpAny_bind (wpAny_newObj_type ?_ (by size_fits))
      refine wpAny_bind (m := firstArgMember _ _) (wpAny_of_eq (a := Value.none) (by first | rfl | (simp only [firstArgMember]; rfl)) ?_)
      refine wpAny_newObj_type ?_ (by size_fits)
      simp only [raiseNew]
      refine wpAny_bind (wpAny_handled ?_)
      first | rw [show A.in1.handled = none from hh] | rw [hh]
      refine wpAny_bind (wpAny_pure (wpAny_throw ?_))
      refine wpAny_bind (wpAny_isInstance (T := "StopIteration") (b := true) ⟨_, Heap.get?_push_size _ rfl, rfl⟩ isSubtype_stop ?_)
      refine wpAny_pure (h _ fun b o hb q => ?_)
      exact Heap.get?_push_of_some _ (Heap.get?_push_of_some _ ((sb.2 b hb).trans q))
  · show wpAny _ _ (rule _ >>= fun _ => (Builtin.Itertools.itStop : Sem Fin)) _ _ s
    · refine wpAny_bind (wpAny_rule ?_)
      unfold Builtin.Itertools.itStop
      show wpAny _ _ (newExc (.type "StopIteration") [] >>= _) _ _ _
      refine wpAny_bind ?_
      simp only [newExc, newTuple]
      refine wpAny_bind (wpAny_newObj_type ?_ (by size_fits))
      refine wpAny_bind (m := firstArgMember _ _) (wpAny_of_eq (a := Value.none) (by first | rfl | (simp only [firstArgMember]; rfl)) ?_)
      refine wpAny_newObj_type ?_ (by size_fits)
      simp only [raiseNew]
      refine wpAny_bind (wpAny_handled ?_)
      first | rw [show A.in1.handled = none from hh] | rw [hh]
      refine wpAny_bind (wpAny_pure (wpAny_throw ?_))
      refine wpAny_bind (wpAny_isInstance (T := "StopIteration") (b := true) ⟨_, Heap.get?_push_size _ rfl, rfl⟩ isSubtype_stop ?_)
      refine wpAny_pure (h _ fun b o hb q => ?_)
      exact Heap.get?_push_of_some _ (Heap.get?_push_of_some _ q)
end
/-- the states behind the first one -/
def stsC (n : Nat) : Nat → List Nat → List (List Nat)
  | 0, _ => []
  | f + 1, ix => match nextC n ix with
    | none => []
    | some a => a :: stsC n f a
def allC (n r : Nat) : List (List Nat) := if r > n then [] else List.range r :: stsC n 230 (List.range r)
/-- each state leads to the next one, the last one to none -/
def chainC (n : Nat) : List (List Nat) → Bool
  | [] => true
  | [a] => decide (nextC n a = none)
  | a :: c :: t => decide (nextC n a = some c) && chainC n (c :: t)
def goodC (n r : Nat) : Bool := chainC n (allC n r) && decide (allC n r = combs r (List.range n)) && (allC n r).all fun p => decide (p.length = r)
theorem good_12 : ∀ n ≤ 12, ∀ r ≤ 3, goodC n r = true := by decide +kernel
theorem good_6 : ∀ n ≤ 6, ∀ r ≤ 6, goodC n r = true := by decide +kernel
end Cr.PF

set_option maxRecDepth 100000
set_option maxHeartbeats 1000000
namespace Cr.PF
open PySem PySem.Spec PyProof.Rows PySem.Calls
theorem chainC_get {n : Nat} : ∀ {l : List (List Nat)}, chainC n l = true → ∀ {j : Nat} {a : List Nat}, l[j]? = some a → (∀ c, l[j + 1]? = some c → nextC n a = some c) ∧ (l[j + 1]? = none → nextC n a = none)
  | [], _, _, _, h => by simp at h
  | [x], hc, 0, a, h => by
    simp only [chainC, decide_eq_true_eq] at hc
    simp at h
    subst h
    exact ⟨fun c e => by simp at e, fun _ => hc⟩
  | [x], _, j + 1, _, h => by simp at h
  | x :: c :: t, hc, 0, a, h => by
    simp only [chainC, Bool.and_eq_true, decide_eq_true_eq] at hc
    simp at h
    subst h
    refine ⟨fun c' e => ?_, fun e => by simp at e⟩
    simp at e
    subst e
    exact hc.1
  | x :: c :: t, hc, j + 1, a, h => by
    simp only [chainC, Bool.and_eq_true, decide_eq_true_eq] at hc
    have := chainC_get (l := c :: t) hc.2 (j := j) (a := a) (by simpa using h)
    simpa using this
theorem combs_mem {α : Type} : ∀ {k : Nat} {xs l : List α}, l ∈ combs k xs → ∀ y ∈ l, y ∈ xs
  | 0, _, l, h => by
    simp [combs] at h; subst h
    intro y hy; cases hy
  | k + 1, [], l, h => by simp [combs] at h
  | k + 1, x :: r, l, h => by
    simp only [combs, List.mem_append, List.mem_map] at h
    intro y hy
    rcases h with ⟨m, hm, rfl⟩ | h
    · rcases List.mem_cons.mp hy with rfl | hy
      · exact List.mem_cons_self
      · exact List.mem_cons_of_mem _ (combs_mem hm y hy)
    · exact List.mem_cons_of_mem _ (combs_mem h y hy)
theorem combs_mapF {α β : Type} (f : α → β) : ∀ (k : Nat) (xs : List α), combs k (xs.map f) = (combs k xs).map (·.map f)
  | 0, _ => by simp [combs]
  | k + 1, [] => rfl
  | k + 1, x :: r => by
    show (combs k (r.map f)).map _ ++ combs (k + 1) (r.map f) = _
    rw [combs_mapF f k r, combs_mapF f (k + 1) r]
    simp [combs, List.map_map, Function.comp_def]
def okCb (k : Int) (n : Nat) : Prop := 0 ≤ k ∧ ((k ≤ 3 ∧ n ≤ 12) ∨ (k ≤ 6 ∧ n ≤ 6))
theorem good_C {n r : Nat} (h : okCb r n) : goodC n r = true := by
  rcases h.2 with ⟨h1, h2⟩ | ⟨h1, h2⟩
  · exact good_12 n h2 r (by omega)
  · exact good_6 n h2 r (by omega)
open L2
def tnC (it pool : Addr) (its : List Value) (l : List (List Nat)) (i : Nat) (h : Heap) : Prop :=
  i ≤ l.length ∧ pool ≠ it ∧ h.get? pool = some (tupO its) ∧ ∃ st last nums, h.get? it = some (combO pool st last nums) ∧ ((i = 0 ∧ ((st = 0 ∧ l[0]? = some nums) ∨ (st = 2 ∧ l = []))) ∨ (st = 1 ∧ ∃ j, i = j + 1 ∧ l[j]? = some nums))
theorem turn_comb {P : Program} {w : World} {K : Frag} {tg : Expr} {it pool : Addr} {r : Nat} {its : List Value} {vs : List V} (rv : Vals vs its) (hr : r ≤ 30) (hg : goodC its.length r = true) :
    Turn P w K tg (ItP (allC its.length r) vs) [it, pool] it (tnC it pool its (allC its.length r)) where
  mem := by simp
  obj := fun i h st b hb => by
    obtain ⟨_, _, hp, _, _, _, ho, _⟩ := st
    have e' : b = it ∨ b = pool := by simpa using hb
    rcases e' with z | z
    · rw [z]; exact ⟨_, ho, fun v q => nomatch q⟩
    · rw [z]; exact ⟨_, hp, fun v q => nomatch q⟩
  keep := fun i h h' st k => let ⟨h1, h2, hp, a, b, c, ho, q⟩ := st; ⟨h1, h2, k pool (by simp) _ hp, a, b, c, k it (by simp) _ ho, q⟩
  item := by
    intro X hP hw hK hc i pins s σ H E I hf st hgo
    subst hP hw hK
    simp only [goodC, Bool.and_eq_true, decide_eq_true_eq, List.all_eq_true] at hg
    obtain ⟨⟨hch, hix⟩, hall⟩ := hg
    obtain ⟨hle, hne, hp, st0, last, nums, ho, hst⟩ := st
    have hil : i < (allC its.length r).length := hgo
    rcases hab : (allC its.length r)[i] with a
    have hab' : (allC its.length r)[i]? = some a := by rw [List.getElem?_eq_getElem hil, hab]
    have hmem : a.length = r := hall a (List.mem_of_getElem? hab')
    have hbnd : ∀ j ∈ a, j < its.length := by
      have h1 : a ∈ allC its.length r := List.mem_of_getElem? hab'
      rw [hix] at h1
      exact fun j hj => List.mem_range.mp (combs_mem h1 j hj)
    have pit : it < s.heap.objs.size := Heap.lt_size ho
    have ppl : pool < s.heap.objs.size := Heap.lt_size hp
    refine comb_item (ix' := a) ho hp hne ?_ (by omega) fun h' q1 q2 q3 => ?_
    · rcases hst with ⟨rfl, ⟨rfl, e1⟩ | ⟨_, e1⟩⟩ | ⟨rfl, j, rfl, e1⟩
      · rw [hab'] at e1; cases e1
        exact .inl ⟨rfl, rfl⟩
      · rw [e1] at hab'; simp at hab'
      · exact .inr ⟨rfl, (chainC_get hch e1).1 a hab'⟩
    · refine ⟨_, rfl, go_of (s := { s with heap := h' }) (n := "itertools.combinations") q1 rfl rfl (by decide) ?_⟩
      have hz : (a.map fun j => vs.getD j .non).length ≤ sizeLine := by rw [List.length_map, sizeLine_eq]; omega
      have new : ObjOk X.prog X.w (upd H s.heap.objs.size (fz (a.map fun i => its.toArray.getD i .none) (a.map fun j => vs.getD j .non))) h' s.heap.objs.size (fz (a.map fun i => its.toArray.getD i .none) (a.map fun j => vs.getD j .non)) :=
        ⟨q2, hz, _, vals_getD rv _ hbnd, ⟨_, q2, rfl, _, rfl⟩⟩
      have I1 : L2.Inv X pins σ (upd H s.heap.objs.size (fz (a.map fun i => its.toArray.getD i .none) (a.map fun j => vs.getD j .non))) { s with heap := h' } :=
        I.turnedNew (t' := s.toks) (ch := [it, pool]) (fun c o hb q => q3 c o (fun z => hb (by simp [z])) q) hf (Nat.le_refl _) new
      refine ⟨.ref s.heap.objs.size, _, I1, rfl, ⟨_, _, _, rfl, I.hok.fresh (Nat.le_refl _), hab', rfl⟩, ⟨hil, hne, q3 pool _ hne hp, 1, _, _, q1, .inr ⟨rfl, i, rfl, hab'⟩⟩, fun c hcm => ?_⟩
      have hcl : c < s.heap.objs.size := by
        have e' : c = it ∨ c = pool := by simpa using hcm
        rcases e' with z | z
        · rw [z]; exact pit
        · rw [z]; exact ppl
      rw [upd_ne (Nat.ne_of_lt hcl)]
      exact (hf c hcm).1
  done := by
    intro X hP hw hK hc i pins s σ H E I hf st hgo
    subst hP hw hK
    simp only [goodC, Bool.and_eq_true, decide_eq_true_eq, List.all_eq_true] at hg
    obtain ⟨⟨hch, hix⟩, hall⟩ := hg
    obtain ⟨hle, hne, hp, st0, last, nums, ho, hst⟩ := st
    have hil : (allC its.length r).length ≤ i := hgo
    obtain ⟨f0, f1, f2, f3, f4, f5⟩ := hf it (by simp)
    refine comb_end (I.ok.hd hc) ho hp ?_ fun h' k => ⟨rfl, I.turned (t' := s.toks) (fun b o hb e => k b o hb e) f0 f1 f3 f4 f5⟩
    rcases hst with ⟨rfl, ⟨rfl, e1⟩ | ⟨h2, _⟩⟩ | ⟨rfl, j, rfl, e1⟩
    · have := (List.getElem?_eq_some_iff.mp e1).1
      omega
    · exact .inr h2
    · exact .inl ⟨rfl, (chainC_get hch e1).2 (List.getElem?_eq_none hil)⟩
  self := fun A i s Q E st h => by
    obtain ⟨_, _, _, _, _, _, ho, _⟩ := st
    have hT : s.TypeIs (.ref it) "itertools.combinations" := ⟨_, ho, rfl⟩
    refine wpAny_pyIter_slot hT slot_comb_iter (wpAny_call_entry slot_comb_iter hT entry_comb_iter ?_ (args_comb_iter _))
    show wpAny _ _ (ret (.ref it)) _ _ s
    exact wpAny_pure ⟨_, rfl, "itertools.combinations", _, hT, slot_comb_next.lookup, h⟩
theorem meets_comb_new (l : Addr) (r : Nat) (t : Tok) : Meets (Builtin.«itertools.combinations.__new__» ⟨[.type "itertools.combinations", .ref l, .int r t], []⟩) (fun A R s => ∃ b items, PlX b s.heap l items ∧ items.size ≤ 1000 ∧ r ≤ 30 ∧
    ∀ h' : Heap, (∀ b o, s.heap.get? b = some o → h'.get? b = some o) → R (.ok (.ret (.ref (h'.objs.size + 1)))) { s with heap := (h'.push (tupO items.toList)).push (combO h'.objs.size (if r > items.size then 2 else 0) .none (List.range r)) }) :=
  .of_wp fun prog w A R s ⟨b, items, hL, hz, hr, h⟩ => code_comb_new hL hz hr h
theorem call_comb {prog : Program} {w : World} {A : Around} {E : Value → Shared → Prop} {s : Shared} {b : Bool} {l : Addr} {items : Array Value} {r : Nat} {t : Tok} {Q : Value → Shared → Prop} (hL : PlX b s.heap l items) (hz : items.size ≤ 1000) (hr : r ≤ 30)
    (h : ∀ h' : Heap, (∀ b o, s.heap.get? b = some o → h'.get? b = some o) → Q (.ref (h'.objs.size + 1)) { s with heap := (h'.push (tupO items.toList)).push (combO h'.objs.size (if r > items.size then 2 else 0) .none (List.range r)) }) :
    wpAny (model prog w) A (call (.type "itertools.combinations") [.ref l, .int r t]) Q E s := by
  refine callType_new called_comb (by decide +kernel) (typeCall_comb_2 _ _) (newCall_comb_2 _ _) (fun obj => PySem.F.args_object_init_3 obj _ _) entry_comb_new (meets_comb_new l r t) ⟨b, items, hL, hz, hr, fun h' k => ?_⟩
  have hsz : (h'.push (tupO items.toList)).objs.size = h'.objs.size + 1 := Heap.size_push ..
  refine ⟨⟨combO h'.objs.size (if r > items.size then 2 else 0) .none (List.range r), ?_, rfl⟩, h h' k⟩
  have := Heap.get?_push_size (h'.push (tupO items.toList)) (o := combO h'.objs.size (if r > items.size then 2 else 0) .none (List.range r)) rfl
  rw [hsz] at this
  exact this
section
variable {F : Cf} {X : Cx} {W : VW} {C : Cl} {e e2 tg : Expr} {l : Ls} {p pos : Pos}
theorem pi_comb {te : TE} {tv : L2.St → V → Prop} {x : Str} (B : Pn X x "itertools.combinations") (hdb : (x == ("__debug__" : Str)) = false) (hn : notStar e = true) (hn2 : notStar e2 = true) (he : PE X e te) (h2 : PE X e2 fun σ H Q => ∃ v, tv σ v ∧ Q v H) :
    PI X tg (.Call (.Name x p) [e, e2] [] pos) (fun σ H R => te σ H fun x H1 => ∃ v, tv σ v ∧ ∃ (k : Nat) (a : Addr) (b : Bool) (xs : List V), [x, v] = [V.ref a, .int k] ∧ SqX b X.K H1 a xs ∧ okCb k xs.length ∧ R (ItP (allC xs.length k) xs) H1) := by
  refine ⟨fun pins s σ H R I h => ?_⟩
  refine Call_ (ld_glob I B.g B.m (PyProof.Rows.callWith_type1 (thn ((pA_two hn hn2 he h2).run pos pins s σ H (fun vs H1 => ∃ (k : Nat) (a : Addr) (b : Bool) (xs : List V), vs = [.ref a, .int k] ∧ SqX b X.K H1 a xs ∧ okCb k xs.length ∧ R (ItP (allC xs.length k) xs) H1) I h) fun us s1 ⟨vs, H1, I1, r1, q1⟩ => ?_) (by rw [star_cons hn] <;> rfl) (star_any (es := [e2]) (by simp [hn2]) pos X.env)) hdb)
  obtain ⟨k, a, b, xs, ex, hq, hk, q⟩ := q1
  subst ex
  cases r1 with
  | cons r rr =>
    cases rr with
    | cons r' rr =>
    cases rr
    cases r
    obtain ⟨t, rfl⟩ := r'
    obtain ⟨its, rv, p', hz, _⟩ := Inv.seqX I1 hq
    have hl := rv.length
    have hz12 : xs.length ≤ 12 := by rcases hk.2 with h | h <;> omega
    have hk6 : k ≤ 30 := by rcases hk.2 with h | h <;> omega
    refine call_comb p' (by rw [List.size_toArray]; omega) hk6 fun h' hk' => ?_
    have I2 : L2.Inv X pins σ H1 { s1 with heap := h' } := I1.kept (t' := s1.toks) hk'
    have hsa : its.toArray.size = its.length := List.size_toArray
    have htl : its.toArray.toList = its := by simp
    rw [htl, hsa]
    generalize hO : combO h'.objs.size (if k > its.length then 2 else 0) .none (List.range k) = O
    have hsz : (h'.push (tupO its)).objs.size = h'.objs.size + 1 := Heap.size_push ..
    have e1 : ((h'.push (tupO its)).push O).get? (h'.objs.size + 1) = some O := by
      have := Heap.get?_push_size (h'.push (tupO its)) (o := O) (by rw [← hO]; rfl)
      rw [hsz] at this; exact this
    have e2 : ((h'.push (tupO its)).push O).get? h'.objs.size = some (tupO its) := Heap.get?_push_of_some _ (Heap.get?_push_size _ rfl)
    have I3 : L2.Inv X pins σ H1 { s1 with heap := (h'.push (tupO its)).push O } :=
      I2.kept (t' := s1.toks) fun b o e => Heap.get?_push_of_some _ (Heap.get?_push_of_some _ e)
    have hT : Shared.TypeIs { s1 with heap := (h'.push (tupO its)).push O } (.ref (h'.objs.size + 1)) "itertools.combinations" := ⟨_, e1, by rw [← hO]; rfl⟩
    refine wpAny_pyIter_slot hT slot_comb_iter (wpAny_call_entry slot_comb_iter hT entry_comb_iter ?_ (args_comb_iter _))
    show wpAny _ _ (ret (.ref (h'.objs.size + 1))) _ _ _
    refine wpAny_pure ⟨_, rfl, "itertools.combinations", _, hT, slot_comb_next.lookup, ?_⟩
    rw [hl] at q hk
    refine ⟨h'.objs.size + 1, [h'.objs.size + 1, h'.objs.size], _, _, H1, rfl, I3, turn_comb rv hk6 (good_C hk), ?_, fun b hb => ?_, q⟩
    · refine ⟨Nat.zero_le _, Nat.ne_of_lt (Nat.lt_succ_self _), e2, (if k > its.length then 2 else 0), .none, List.range k, by rw [← hO] at e1 ⊢; exact e1, .inl ⟨rfl, ?_⟩⟩
      by_cases hgt : k > its.length
      · exact .inr ⟨by rw [if_pos hgt], by unfold allC; rw [if_pos hgt]⟩
      · exact .inl ⟨by rw [if_neg hgt], by unfold allC; rw [if_neg hgt]; rfl⟩
    · have e' : b = h'.objs.size + 1 ∨ b = h'.objs.size := by simpa using hb
      have hle : h'.objs.size ≤ b := by
        rcases e' with z | z
        · rw [z]; exact Nat.le_add_right _ _
        · rw [z]; exact Nat.le_refl _
      exact I2.fpOk hle (I2.hok.fresh hle)
theorem hd_comb {K : Frag} {ρ : Rho} {H : Hp} {xs : List D} {vs : List V} {k : Nat} (hr : RlL K ρ H xs vs) (hk : okCb k xs.length) : HdR τ K ρ H (.its ((combs k xs).map .tup)) (ItP (allC vs.length k) vs) := fun ρ' H' st i x s => by
  have hl := hr.len
  have r' := RlL.mono x _ _ hr
  have hgood := good_C (r := k) (n := vs.length) (by rw [← hl]; exact hk)
  simp only [goodC, Bool.and_eq_true, decide_eq_true_eq] at hgood
  have hpx := hgood.1.2
  have hxs : xs = (List.range xs.length).map fun j => xs.getD j .non := by
    apply List.ext_getElem
    · simp
    · intro j h1 h2
      simp [List.getD_eq_getElem?_getD, h1]
  have hcomb : combs k xs = (allC vs.length k).map fun ix => ix.map fun j => xs.getD j .non := by
    rw [hpx, ← hl]
    conv => lhs; rw [hxs]
    exact combs_mapF _ _ _
  show match some ((combs k xs).map D.tup)[i]? with | some (some d) => _ | some none => _ | none => _
  rw [hcomb, List.map_map, List.getElem?_map]
  cases hi : (allC vs.length k)[i]? with
  | none => exact List.getElem?_eq_none_iff.mp hi
  | some ix =>
    obtain ⟨hlt, _⟩ := List.getElem?_eq_some_iff.mp hi
    refine ⟨hlt, fun v H2 ⟨T, its, ix', ev, hn, e1, e2⟩ => ?_⟩
    rw [hi] at e1; cases e1
    subst ev e2
    obtain ⟨s', e'⟩ := s.beside (u := fz its (ix.map fun j => vs.getD j .non)) hn
    have hbnd : ∀ j ∈ ix, j < xs.length := by
      have h1 := List.mem_of_getElem? hi
      rw [hpx] at h1
      rw [hl]
      exact fun j hj => List.mem_range.mp (combs_mem h1 j hj)
    refine ⟨e', s', rl_tup SqD.new ?_⟩
    exact pick_rl (RlL.mono e' _ _ r') ix hbnd
/-- a number that is read without a step -/
inductive PureR (C : Cl) (X : Cx) (r : Ex) (e2 : Expr) (tv : L2.St → V → Prop) : Prop where
  | mk (h : PE X e2 fun σ H Q => ∃ v, tv σ v ∧ Q v H)
    (g : ∀ {K : Frag} {ρ : Rho} {H : Hp} {env : Env} {σ : L2.St} {st : Store}, RE K ρ H env σ → (evE C r env st = .err) ∨ ∃ d v, evE C r env st = .ok d st ∧ tv σ v ∧ Rl K ρ H d v)
theorem pQ_comb {x : Str} {r : Ex} {tv : L2.St → V → Prop} (g : Gx F X) (B : Pn X x "itertools.combinations") (hdb : (x == ("__debug__" : Str)) = false) (hn : notStar e = true) (hn2 : notStar e2 = true) (he : PE X e (tS F W (evS C l))) (hp : PureR C X r e2 tv) :
    PI X tg (.Call (.Name x p) [e, e2] [] pos) (tQ F W (evQ C (.cmb l r))) := by
  obtain ⟨h2, hg⟩ := hp
  exact (pi_comb B hdb hn hn2 he h2).imp fun σ H R h => tM.step h fun env xs v st1 ρ1 H1 hre hs ⟨a, vs, ev, hq, hr⟩ q => by
    rcases hg (st := st1) hre with e | ⟨d, u, e, htv, hrl⟩
    · unfold M.bnd at q
      rw [e] at q
      exact False.elim q
    · unfold M.bnd at q
      rw [e] at q
      have hl := hr.len
      cases d with
      | int i =>
        have q : Post F (fun ρ H h J => HdR F.τ F.K ρ H h J) W ((if 0 ≤ i ∧ ((i ≤ 3 ∧ xs.length ≤ 12) ∨ (i ≤ 6 ∧ xs.length ≤ 6)) then M.ret (.its ((combs i.toNat xs).map .tup)) else M.err : M Hd) st1) ρ1 H1 R := q
        by_cases hk : 0 ≤ i ∧ ((i ≤ 3 ∧ xs.length ≤ 12) ∨ (i ≤ 6 ∧ xs.length ≤ 6))
        · rw [if_pos hk] at q
          obtain ⟨k, rfl⟩ : ∃ k : Nat, i = (k : Int) := ⟨i.toNat, by omega⟩
          have hrl : u = .int (k : Int) := by unfold Rl at hrl; exact hrl
          subst hrl
          have fin := q.ret hs (hd_comb (k := k) hr hk)
          have hk' : okCb k vs.length := by rw [← hl]; exact hk
          refine ⟨_, htv, k, a, ?_⟩
          rcases hq with hq | hq
          · exact ⟨false, vs, by rw [ev], by rw [g.K]; exact hq, hk', fin⟩
          · exact ⟨true, vs, by rw [ev], by rw [g.K]; exact hq.t, hk', fin⟩
        · rw [if_neg hk] at q
          exact False.elim q
      | _ => exact False.elim q
end
end Cr.PF

set_option maxRecDepth 100000
set_option maxHeartbeats 1000000
namespace Cr.PF
open PySem PySem.Spec PyProof.Rows PySem.Calls L2
section
variable {prog : Program} {w : World} {A : Around} {E : Value → Shared → Prop} {s : Shared}
theorem code_perm_newR {r : Addr} {a b : Int} {t u v : Tok} {n : Nat} {Q : Value → Shared → Prop} (hh : A.handled = none) (hr : IsRange s.heap r a b 1 t u v) (hsmall : Builtin.Range.small a b 1 = true) (hn : Builtin.Range.rangeSize a b 1 = n) (hz : n ≤ 1000)
    (h : ∀ (h' : Heap) (tk : Nat) (acc : Array Value), (∀ b o, s.heap.get? b = some o → h'.get? b = some o) → ItemsOf (fun i v => ∃ t, v = .int (a + i * 1) t) acc n → Q (.ref (h'.objs.size + 1)) { s with heap := (h'.push (tupO acc.toList)).push (permO h'.objs.size 0 n .none (List.range n ++ (List.range n).map fun i => n - i)), toks := tk }) :
    wpAny (model prog w) A (Builtin.«itertools.permutations.__new__» ⟨[.type "itertools.permutations", .ref r], []⟩) (fun f s' => ∃ v, f = .done (.ret v) ∧ Q v s') E s := by
  have h1 : Builtin.Itertools.itClassAndRest "permutations" ⟨[.type "itertools.permutations", .ref r], []⟩ = (pure (Value.type "itertools.permutations", [Value.ref r]) : Sem (Value × List Value)) := by
    unfold Builtin.Itertools.itClassAndRest
    have e : ("itertools." ++ "permutations" : String) = "itertools.permutations" := by decide +kernel
    dsimp only
    rw [e]
    have e2 : isType (.type "itertools.permutations") = pure true := rfl
    rw [e2, called_perm.sub]
    rfl
  have h2 : Builtin.Itertools.itBindNamed "permutations" ["iterable", "r"] 1 2 [.ref r] [] = (pure [some (Value.ref r), none] : Sem (List (Option Value))) := by
    kernel_rfl
  have h3 : typeHasDict (.type "itertools.permutations") = false := by kernel_rfl
  unfold Builtin.«itertools.permutations.__new__»
  refine wpAny_bind (wpAny_of_eq h1 ?_)
  refine wpAny_bind (wpAny_of_eq h2 ?_)
  refine wpAny_bind (L2.collect_range hh hr hsmall hn (by omega) fun h' tk acc k hi => ?_)
  refine wpAny_bind (wpAny_pure ?_)
  have hl : acc.toList.length = n := by rw [Array.length_toList]; exact hi.1
  dsimp only
  rw [hl, if_neg (by omega), if_neg (by unfold Builtin.Itertools.itTooMany; simp; omega)]
  rw [Int.toNat_natCast]
  refine wpAny_bind (wpAny_newTuple ?_ (by rw [hl, sizeLine_eq]; omega))
  unfold Builtin.Itertools.itNewRecord
  rw [h3]
  rw [if_neg (Nat.lt_irrefl _), if_pos (show (!false) = true from rfl)]
  have ef : ([Value.ref h'.objs.size, rawInt 0, rawInt (n : Int), Value.none] ++ List.map (fun (i : Nat) => rawInt (i : Int)) (List.range n) ++ List.map (fun (i : Nat) => rawInt ((n : Int) - (i : Int))) (List.range n))
      = [Value.ref h'.objs.size, rawInt ((0 : Nat) : Int), rawInt (n : Int), Value.none] ++ (List.range n ++ (List.range n).map fun i => n - i).map fun (n : Nat) => rawInt n := by
    rw [List.append_assoc, List.map_append, List.map_map]
    congr 2
    refine List.map_congr_left fun i hi => ?_
    have := List.mem_range.mp hi
    show rawInt ((n : Int) - (i : Int)) = rawInt (((n - i : Nat)) : Int)
    rw [Int.ofNat_sub (by omega)]
  refine wpAny_bind (wpAny_newObj_type ?_ ?_)
  · have q := h h' tk acc k hi
    have hsz : (h'.push { cls := Value.type "tuple", data := Data.seq acc.toList.toArray }).objs.size = h'.objs.size + 1 := Heap.size_push ..
    refine wpAny_pure ⟨_, rfl, ?_⟩
    show Q (.ref (h'.push _).objs.size) { s with heap := (h'.push _).push { cls := .type "itertools.permutations", data := .fields (_ : List Value).toArray }, toks := tk }
    rw [hsz, ef]
    exact q
  · show (_ : List Value).toArray.size ≤ _
    simp
    rw [sizeLine_eq]; omega
theorem meets_perm_newR (r : Addr) : Meets (Builtin.«itertools.permutations.__new__» ⟨[.type "itertools.permutations", .ref r], []⟩) (fun A R s => A.handled = none ∧ ∃ (a b : Int) (t u v : Tok) (n : Nat), IsRange s.heap r a b 1 t u v ∧ Builtin.Range.small a b 1 = true ∧ Builtin.Range.rangeSize a b 1 = n ∧ n ≤ 1000 ∧
    ∀ (h' : Heap) (tk : Nat) (acc : Array Value), (∀ b o, s.heap.get? b = some o → h'.get? b = some o) → ItemsOf (fun i v => ∃ t, v = .int (a + i * 1) t) acc n → R (.ok (.ret (.ref (h'.objs.size + 1)))) { s with heap := (h'.push (tupO acc.toList)).push (permO h'.objs.size 0 n .none (List.range n ++ (List.range n).map fun i => n - i)), toks := tk }) :=
  .of_wp fun prog w A R s ⟨hh, a, b, t, u, v, n, h1, h2, h3, h4, h⟩ => code_perm_newR hh h1 h2 h3 h4 h
theorem call_permR {prog : Program} {w : World} {A : Around} {E : Value → Shared → Prop} {s : Shared} {r : Addr} {a b : Int} {t u v : Tok} {n : Nat} {Q : Value → Shared → Prop} (hh : A.handled = none) (hr : IsRange s.heap r a b 1 t u v) (hsmall : Builtin.Range.small a b 1 = true) (hn : Builtin.Range.rangeSize a b 1 = n) (hz : n ≤ 1000)
    (h : ∀ (h' : Heap) (tk : Nat) (acc : Array Value), (∀ b o, s.heap.get? b = some o → h'.get? b = some o) → ItemsOf (fun i v => ∃ t, v = .int (a + i * 1) t) acc n → Q (.ref (h'.objs.size + 1)) { s with heap := (h'.push (tupO acc.toList)).push (permO h'.objs.size 0 n .none (List.range n ++ (List.range n).map fun i => n - i)), toks := tk }) :
    wpAny (model prog w) A (call (.type "itertools.permutations") [.ref r]) Q E s := by
  refine callType_new called_perm (by decide +kernel) (typeCall_perm_1 _) (newCall_perm_1 _) (fun obj => PySem.F.args_object_init_2 obj _) entry_perm_new (meets_perm_newR r) ⟨hh, a, b, t, u, v, n, hr, hsmall, hn, hz, fun h' tk acc k hi => ?_⟩
  have hsz : (h'.push (tupO acc.toList)).objs.size = h'.objs.size + 1 := Heap.size_push ..
  refine ⟨⟨permO h'.objs.size 0 n .none (List.range n ++ (List.range n).map fun i => n - i), ?_, rfl⟩, h h' tk acc k hi⟩
  have := Heap.get?_push_size (h'.push (tupO acc.toList)) (o := permO h'.objs.size 0 n .none (List.range n ++ (List.range n).map fun i => n - i)) rfl
  rw [hsz] at this
  exact this
end
section
variable {F : Cf} {X : Cx} {W : VW} {C : Cl} {e a b tg : Expr} {xa xb : Ex} {p p2 q pos : Pos}
theorem pi_permR {te : L2.St → Hp → (Int → Int → Hp → Prop) → Prop} {x : Str} (hc : X.calm = true) (B : Pn X x "itertools.permutations") (hdb : (x == ("__debug__" : Str)) = false) (hn : notStar e = true) (he : PRg X e te) :
    PI X tg (.Call (.Name x p) [e] [] pos) (fun σ H R => te σ H fun a b H1 => RgOk a b ∧ (b - a).toNat ≤ 5 ∧ R (ItP (permIx (b - a).toNat (b - a).toNat) (rgV a b)) H1) := by
  refine ⟨fun pins s σ H R I h => ?_⟩
  refine Call_ (ld_glob I B.g B.m (PyProof.Rows.callWith_type1 (args_cons (thn (he pins s σ H _ I h) fun y s1 ⟨r, a, b, t, u, v, H1, ex, hr, I1, ok, h5, q⟩ => args_nil ?_) (star_cons hn X.env)) (star_cons hn X.env)) hdb)
  subst ex
  obtain ⟨b1, b2, b3, b4, b5⟩ := ok
  refine call_permR (n := (b - a).toNat) (I1.ok.hd hc) hr (small_one b1 b2 b3 b4) (rangeSize_nat a b) (by omega) fun h' tk acc hk hi => ?_
  have rv : Vals (rgV a b) acc.toList := vals_rg hi
  have hl : acc.toList.length = (b - a).toNat := by rw [Array.length_toList]; exact hi.1
  generalize acc.toList = its at rv hl
  have I2 : L2.Inv X pins σ H1 { s1 with heap := h', toks := tk } := I1.kept hk
  generalize hO : permO h'.objs.size 0 (b - a).toNat .none (List.range (b - a).toNat ++ (List.range (b - a).toNat).map fun i => (b - a).toNat - i) = O
  have hsz : (h'.push (tupO its)).objs.size = h'.objs.size + 1 := Heap.size_push ..
  have e1 : ((h'.push (tupO its)).push O).get? (h'.objs.size + 1) = some O := by
    have := Heap.get?_push_size (h'.push (tupO its)) (o := O) (by rw [← hO]; rfl)
    rw [hsz] at this; exact this
  have e2 : ((h'.push (tupO its)).push O).get? h'.objs.size = some (tupO its) := Heap.get?_push_of_some _ (Heap.get?_push_size _ rfl)
  have I3 : L2.Inv X pins σ H1 { s1 with heap := (h'.push (tupO its)).push O, toks := tk } :=
    I2.kept (t' := tk) fun b o e => Heap.get?_push_of_some _ (Heap.get?_push_of_some _ e)
  have hT : Shared.TypeIs { s1 with heap := (h'.push (tupO its)).push O, toks := tk } (.ref (h'.objs.size + 1)) "itertools.permutations" := ⟨_, e1, by rw [← hO]; rfl⟩
  refine wpAny_pyIter_slot hT slot_perm_iter (wpAny_call_entry slot_perm_iter hT entry_perm_iter ?_ (args_perm_iter _))
  show wpAny _ _ (ret (.ref (h'.objs.size + 1))) _ _ _
  refine wpAny_pure ⟨_, rfl, "itertools.permutations", _, hT, slot_perm_next.lookup, ?_⟩
  have T := turn_perm (P := X.prog) (w := X.w) (K := X.K) (tg := tg) (it := h'.objs.size + 1) (pool := h'.objs.size) (r := its.length) rv (by omega) (Nat.le_refl _) (good_5 its.length (by omega) its.length (Nat.le_refl _))
  rw [← hl] at q hO
  refine ⟨h'.objs.size + 1, [h'.objs.size + 1, h'.objs.size], _, _, H1, rfl, I3, T, ?_, fun c hb => ?_, q⟩
  · exact ⟨Nat.zero_le _, Nat.ne_of_lt (Nat.lt_succ_self _), e2, 0, .none, _, by rw [← hO] at e1 ⊢; exact e1, .inl ⟨rfl, rfl, _, _, rfl, rfl⟩⟩
  · have e' : c = h'.objs.size + 1 ∨ c = h'.objs.size := by simpa using hb
    have hle : h'.objs.size ≤ c := by
      rcases e' with z | z
      · rw [z]; exact Nat.le_add_right _ _
      · rw [z]; exact Nat.le_refl _
    exact I2.fpOk hle (I2.hok.fresh hle)
theorem permB_post {xs : List D} {st : Store} {ρ : Rho} {H : Hp} {R : It → Hp → Prop} {vs : List V} (hs : SR F.τ F.K ρ H st) (hr : RlL F.K ρ H xs vs) (q : Post F (fun ρ H h J => HdR F.τ F.K ρ H h J) W (permB xs none st) ρ H R) : vs.length ≤ 5 ∧ R (ItP (permIx vs.length vs.length) vs) H := by
  have q : Post F (fun ρ H h J => HdR F.τ F.K ρ H h J) W ((if xs.length ≤ 5 then M.ret (.its ((perms xs.length xs).map .tup)) else M.err : M Hd) st) ρ H R := q
  have hl := hr.len
  by_cases h5 : xs.length ≤ 5
  · rw [if_pos h5] at q
    exact ⟨by omega, q.ret hs (hd_perm hr h5)⟩
  · rw [if_neg h5] at q
    exact False.elim q
theorem pQ_permR2 {x : Str} (g : Gx F X) (B : Pn X x "itertools.permutations") (hdb : (x == ("__debug__" : Str)) = false) (B2 : Bn X "range") (n1 : notStar a = true) (n2 : notStar b = true) (ha : PE X a (tE F W (evE C xa))) (hb : PE X b (tE F W (evE C xb))) :
    PI X tg (.Call (.Name x p) [.Call (.Name "range" p2) [a, b] [] q] [] pos) (tQ F W (evQ C (.prmR xa xb))) :=
  (pi_permR g.calm B hdb rfl (prg2 B2 n1 n2 ha hb)).imp fun σ H R h => by
    have h : tM F (fun ρ H h J => HdR F.τ F.K ρ H h J) W (fun env => (evE C xa env).bnd fun x => (evE C xb env).bnd fun y => (rngB x y).bnd fun xs => permB xs none) σ H R := by
      obtain ⟨env, st, ρ, q1, q2, q3⟩ := h
      refine ⟨env, st, ρ, q1, q2, ?_⟩
      simp only [evQ] at q3
      exact q3
    refine tRg2_imp (step_rng (k := fun xs => permB xs none) h) fun i j H2 ⟨ok, ρ0, st, ρ, x1, s2, q⟩ => ?_
    obtain ⟨h5, q2⟩ := permB_post s2 (rngL_rl i j) q
    rw [rgV_length] at h5 q2
    exact ⟨ok, h5, q2⟩
theorem pQ_permR1 {x : Str} (g : Gx F X) (B : Pn X x "itertools.permutations") (hdb : (x == ("__debug__" : Str)) = false) (B2 : Bn X "range") (n2 : notStar b = true) (hb : PE X b (tE F W (evE C xb))) :
    PI X tg (.Call (.Name x p) [.Call (.Name "range" p2) [b] [] q] [] pos) (tQ F W (evQ C (.prmR (.cst (.int 0)) xb))) :=
  (pi_permR g.calm B hdb rfl (prg1 B2 n2 hb)).imp fun σ H R h => by
    have h : tM F (fun ρ H h J => HdR F.τ F.K ρ H h J) W (fun env => (M.ret (.int 0)).bnd fun x => (evE C xb env).bnd fun y => (rngB x y).bnd fun xs => permB xs none) σ H R := by
      obtain ⟨env, st, ρ, q1, q2, q3⟩ := h
      refine ⟨env, st, ρ, q1, q2, ?_⟩
      simp only [evQ, evE] at q3
      exact q3
    refine tRg1_imp (step_rng1 (k := fun xs => permB xs none) h) fun i j H2 ⟨ok, ρ0, st, ρ, x1, s2, q⟩ => ?_
    obtain ⟨h5, q2⟩ := permB_post s2 (rngL_rl i j) q
    rw [rgV_length] at h5 q2
    exact ⟨ok, h5, q2⟩
end
end Cr.PF

set_option maxRecDepth 100000
set_option maxHeartbeats 2000000
namespace Cr
open PySem PySem.Spec PyProof.Rows PySem.Calls L2
/-- a name that is none of the block's -/
def glC (c : CC) (x : Str) : Bool := decide (c.sc.names.lookup x = some .globalImplicit)
def visC (c : CC) (x : Str) : Bool := match c.sc.names.lookup x with
  | some .local => true
  | some .cell => true
  | some .free => true
  | _ => false
def nodbg (x : Str) : Bool := !(x == ("__debug__" : Str)) && !(x == ("__classdict__" : Str))
/-- the call of a built-in's name with one argument -/
def call1 (c : CC) (x : Str) : Expr → Option Expr
  | .Call (.Name y _) [a] [] _ => if decide (y = x) && glC c x && notStar a then some a else none
  | _ => none
def call2 (c : CC) (x : Str) : Expr → Option (Expr × Expr)
  | .Call (.Name y _) [a, b] [] _ => if decide (y = x) && glC c x && notStar a && notStar b then some (a, b) else none
  | _ => none
def f1N : F1 → Str
  | .neg => "-" | .abs => "abs" | .len => "len" | .int => "int" | .repr => "repr" | .lenSet => "len"
def f2N : F2 → Str
  | .max => "max" | .min => "min" | .divmod => "divmod"
def fsN : FS → Str
  | .tuple => "tuple" | .all => "all" | .any => "any" | .sum => "sum" | .min => "min" | .max => "max"
def flN : FL → Str
  | .list => "list" | .sorted => "sorted"
def tyS : Ty → Str
  | .int => "int" | .bool => "bool" | .tuple => "tuple" | .str => "str"
def cstOk : D → Expr → Bool
  | .int i, .Constant (.int j) _ _ => decide (i = j)
  | .bl b, .Constant (.bool d) _ _ => decide (b = d)
  | .non, .Constant .none _ _ => true
  | .str x, .Constant (.str y) _ _ => decide (x = y)
  | _, _ => false
def ownOf (N : List Str) (is : List Nat) : List (Str × Nat) := is.map fun i => ((N[i]?).getD default, i)
/-- a comprehension's block -/
def blkC' (c : CC) (scope : Scope) (own : List Nat) : Bool := blkC c.N c.sc scope (ownOf c.N own)
def blkOf (c : CC) (scope : Scope) : CC := { c with sc := relS scope c.sc, st := false, fw := false, clo := none }
def tgIn (t : Tg) (own : List Nat) : Bool := (tgIx t).all fun i => own.contains i
def revS : Expr → Bool
  | .UnaryOp .USub (.Constant (.int 1) _ _) _ => true
  | _ => false
def isNil {α : Type} : List α → Bool
  | [] => true
  | _ => false
def callOkC (ks : List Str) (es : List Expr) (kw : List Keyword) (shapes : List (List Str)) : Bool := match ks with
  | [] => isNil kw && es.all notStar
  | k :: r => isNil es && kwIs (k :: r) kw && decide ((k :: r) ∈ shapes)
def argsE (ks : List Str) (es : List Expr) (kw : List Keyword) : List Expr := match ks with
  | [] => es
  | _ :: _ => kw.map (·.value)
def notExt : Me → Bool
  | .extend => false
  | _ => true
def isPop : Me → Bool
  | .pop => true
  | _ => false
def isCmpX : Ex → Bool
  | .cmp _ _ _ => true
  | .chn _ _ _ _ _ => true
  | _ => false
def isZero : Ex → Bool
  | .cst (.int 0) => true
  | _ => false
def cmpOrPlain (x : Ex) (e : Expr) : Bool := match e with
  | .Compare _ _ _ _ => isCmpX x
  | e => plainT e
/-- a number read without a step -/
def pureX : Ex → Bool
  | .cst (.int _) => true
  | .var _ => true
  | _ => false
/-- a walk that no list's growth beside it changes -/
def monoQ : Sq → Bool
  | .rng _ _ => true
  | .ls (.val _) => true
  | _ => false
mutual
def ckE : Ex → CC → Expr → Bool
  | .cst d, _, e => cstOk d e
  | .var i, c, e => match e with
    | .Name x _ => decide (c.N[i]? = some x) && visC c x && nodbg x
    | _ => false
  | .gc y, c, e => match e with
    | .Name x _ => decide (x = y) && glC c x && nodbg x
    | _ => false
  | .tup xs, c, e => match e with
    | .Tuple es _ _ => ckEs xs c es
    | _ => false
  | .new n, c, e => ckN n c e
  | .op2 o a b, c, e => match e with
    | .BinOp l op r _ => decide (op = opPy o) && ckE a c l && ckE b c r
    | _ => false
  | .f1 f a, c, e => match f with
    | .neg => (match e with
      | .UnaryOp .USub x _ => ckE a c x
      | _ => false)
    | .lenSet => (match call1 c "len" e with
      | some (.Call (.Name y _) [x] [] _) => decide (y = ("set" : Str)) && glC c "set" && notStar x && ckE a c x
      | _ => false)
    | f => (match call1 c (f1N f) e with
      | some x => ckE a c x
      | _ => false)
  | .f2 f a b, c, e => match call2 c (f2N f) e with
    | some (x, y) => ckE a c x && ckE b c y
    | _ => false
  | .fs f a, c, e => match call1 c (fsN f) e with
    | some x => ckL a c x
    | _ => false
  | .cmp o a b, c, e => match e with
    | .Compare l [op] [r] _ => decide (op = cpPy o) && !(behindInMarks op r) && ckE a c l && ckE b c r
    | _ => false
  | .chn o o' a b d, c, e => match e with
    | .Compare l [op, op'] [m, r] _ => decide (op = cpPy o) && decide (op' = cpPy o') && !(lastMarks [op, op'] [m, r]) && ckE a c l && ckE b c m && ckE d c r
    | _ => false
  | .not a, c, e => match e with
    | .UnaryOp .Not x _ => ckE a c x
    | _ => false
  | .and a b, c, e => match e with
    | .BoolOp .And [x, y] _ => ckE a c x && ckE b c y
    | .BoolOp .And (x :: y :: z :: r) p => ckE a c x && ckE b c (.BoolOp .And (y :: z :: r) p)
    | _ => false
  | .or a b, c, e => match e with
    | .BoolOp .Or [x, y] _ => ckE a c x && ckE b c y
    | .BoolOp .Or (x :: y :: z :: r) p => ckE a c x && ckE b c (.BoolOp .Or (y :: z :: r) p)
    | _ => false
  | .ite t a b, c, e => match e with
    | .IfExp ce x y _ => ckT t c ce && ckE a c x && ckE b c y
    | _ => false
  | .idx a i, c, e => match e with
    | .Subscript x y _ => notSlice y && ckE a c x && ckE i c y
    | _ => false
  | .slc a lo hi, c, e => match e with
    | .Subscript x (.Slice l h none _) _ => ckE a c x && ckO lo c l && ckO hi c h
    | _ => false
  | .rev a, c, e => match e with
    | .Subscript x (.Slice none none (some s) _) _ => revS s && ckE a c x
    | _ => false
  | .tupR lo hi, c, e => match call1 c "tuple" e with
    | some r => (match call2 c "range" r with
      | some (x, y) => ckE lo c x && ckE hi c y
      | none => (match call1 c "range" r with
        | some y => isZero lo && ckE hi c y
        | none => false))
    | none => false
  | .call f xs ks, c, e => match e with
    | .Call (.Name y _) es kw _ => decide (y = f) && glC c f && nodbg f && (c.fns.any fun q => decide (q.1 = f) && callOkC ks es kw q.2.2) && ckEs xs c (argsE ks es kw)
    | _ => false
  | .meth m o xs, c, e => match e with
    | .Call (.Attribute oe nm ap) (a :: es) [] cp => decide (nm = meN m) && notExt m && abOk oe && (a :: es).all notStar && decide ((a :: es).length < 30) && (ap.endLine == cp.line) && ckE o c oe && ckEs xs c (a :: es)
    | _ => false
  | .meth0 m o, c, e => match e with
    | .Call (.Attribute oe nm ap) [] [] cp => isPop m && decide (nm = ("pop" : Str)) && abOk oe && (ap.endLine == cp.line) && ckE o c oe
    | _ => false
  | .ext o l, c, e => match e with
    | .Call (.Attribute oe nm ap) [a] [] cp => decide (nm = ("extend" : Str)) && abOk oe && notStar a && (ap.endLine == cp.line) && ckE o c oe && (match l with | .new n => ckN n c a | .val _ => false)
    | _ => false
  | .dc k v tg it own, c, e => match e with
    | .DictComp ke ve [g] scope _ => decide (g.is_async = 0) && isNil g.ifs && blkC' c scope own && tgIn tg own && ckTg c.N (relS scope c.sc) (ownCell scope) tg g.target && notSet g.iter && ckQ it c g.target g.iter && ckE k (blkOf c scope) ke && ckE v (blkOf c scope) ve
    | _ => false
  | .dctT k v, c, e => match e with
    | .Dict [some ke] [ve] _ => ckE k c ke && ckE v c ve
    | _ => false
  | .dct xs, c, e => match e with
    | .Dict keys values _ => decide (xs.length % 2 = 0) && keys.all (·.isSome) && decide (keys.length = values.length) && decide (keys.length ≤ 15) && !isNil keys && ckD xs c keys values
    | _ => false
  | .minN l, c, e => match e with
    | .Call (.Name y _) [x] [⟨some nm, .Constant .none _ _, _⟩] _ => decide (y = ("min" : Str)) && glC c "min" && decide (nm = ("default" : Str)) && notStar x && ckL l c x
    | _ => false
  | .tupS a b d, c, e => match e with
    | .Tuple (.Starred x _ :: es) _ _ => isNil a && ckE b c x && ckEs d c es
    | .Tuple (x :: .Starred y _ :: es) _ _ => notStar x && ckEs a c [x] && ckE b c y && ckEs d c es
    | _ => false
  | .isi a t, c, e => match e with
    | .Call (.Name y _) [x, .Name z _] [] _ => decide (y = ("isinstance" : Str)) && glC c "isinstance" && decide (z = tyS t) && glC c (tyS t) && notStar x && ckE a c x
    | _ => false
  | .cloc i xs, c, e => match e with
    | .Call (.Name nm _) es [] _ => decide (c.clo = some (nm, i)) && !isNil es && ckEs xs c es
    | _ => false
  | .fwr a b i j, c, e => match e with
    | .Call (.Name f _) [x, .Lambda params body scope _] [] _ => c.fw && decide (f = ("first_wrong" : Str)) && decide (c.sc.names.lookup ("first_wrong" : Str) = some .globalImplicit) && notStar x && lamCk c params scope i j && ckE a c x && ckE b { c with sc := scope, st := false, fw := false, clo := none } body
    | _ => false
def ckN : Ne → CC → Expr → Bool
  | .lst xs, c, e => match e with
    | .List es _ => ckEs xs c es
    | _ => false
  | .lstS a b d, c, e => match e with
    | .List (.Starred x _ :: es) _ => isNil a && ckE b c x && ckEs d c es
    | _ => false
  | .fl f a, c, e => match call1 c (flN f) e with
    | some x => ckL a c x
    | _ => false
  | .sset a, c, e => match call1 c "sorted" e with
    | some x => (match call1 c "set" x with
      | some y => ckE a c y
      | none => false)
    | none => false
  | .srtD a, c, e => match call1 c "sorted" e with
    | some x => ckE a c x
    | none => false
  | .dsrt a, c, e => match call1 c "sorted" e with
    | some x => ckE a c x
    | none => false
  | .revL a, c, e => match e with
    | .Subscript x (.Slice none none (some s) _) _ => revS s && ckE a c x
    | _ => false
  | .lc elt tg it ifs own, c, e => match e with
    | .ListComp ee [g] scope _ => decide (g.is_async = 0) && blkC' c scope own && tgIn tg own && ckTg c.N (relS scope c.sc) (ownCell scope) tg g.target && notSet g.iter && ckQ it c g.target g.iter && ckI ifs (blkOf c scope) g.ifs && ckE elt (blkOf c scope) ee
    | _ => false
  | .lc2 elt tg it ifs tg1 it1 ifs1 own own1, c, e => match e with
    | .ListComp ee [g, g1] scope _ => decide (g.is_async = 0) && decide (g1.is_async = 0) && blkC' c scope own && own1.all (fun i => own.contains i) && tgIn tg own && tgIn tg1 own1 && ckTg c.N (relS scope c.sc) (ownCell scope) tg g.target && ckTg c.N (relS scope c.sc) (ownCell scope) tg1 g1.target && notSet g.iter && notSet g1.iter && ckQ it c g.target g.iter && ckI ifs (blkOf c scope) g.ifs && monoQ it1 && ckQ it1 (blkOf c scope) g1.target g1.iter && ckI ifs1 (blkOf c scope) g1.ifs && ckE elt (blkOf c scope) ee
    | _ => false
  | .rng lo hi, c, e => match call1 c "list" e with
    | some r => (match call2 c "range" r with
      | some (x, y) => ckE lo c x && ckE hi c y
      | none => (match call1 c "range" r with
        | some y => isZero lo && ckE hi c y
        | none => false))
    | none => false
def ckL : Ls → CC → Expr → Bool
  | .val x, c, e => ckE x c e
  | .new n, c, e => ckN n c e
def ckT : Te → CC → Expr → Bool
  | .val x, c, e => cmpOrPlain x e && ckE x c e
  | .not t, c, e => match e with
    | .UnaryOp .Not x _ => ckT t c x
    | _ => false
  | .and a b, c, e => match e with
    | .BoolOp .And [x, y] _ => ckT a c x && ckT b c y
    | .BoolOp .And (x :: y :: z :: r) p => ckT a c x && ckT b c (.BoolOp .And (y :: z :: r) p)
    | _ => false
  | .or a b, c, e => match e with
    | .BoolOp .Or [x, y] _ => ckT a c x && ckT b c y
    | .BoolOp .Or (x :: y :: z :: r) p => ckT a c x && ckT b c (.BoolOp .Or (y :: z :: r) p)
    | _ => false
def ckQ : Sq → CC → Expr → Expr → Bool
  | .ls l, c, _, e => ckL l c e
  | .rng lo hi, c, _, e => match call2 c "range" e with
    | some (x, y) => ckE lo c x && ckE hi c y
    | none => (match call1 c "range" e with
      | some y => isZero lo && ckE hi c y
      | none => false)
  | .rng3 lo hi st, c, _, e => match e with
    | .Call (.Name y _) [a, b, d] [] _ => decide (y = ("range" : Str)) && glC c "range" && notStar a && notStar b && notStar d && ckE lo c a && ckE hi c b && ckE st c d
    | _ => false
  | .enm l, c, t, e => match t with
    | .Tuple _ _ _ => (match call1 c "enumerate" e with
      | some x => ckL l c x
      | none => false)
    | _ => false
  | .zip a b, c, t, e => match t with
    | .Tuple _ _ _ => (match call2 c "zip" e with
      | some (x, y) => ckE a c x && ckE b c y
      | none => false)
    | _ => false
  | .prm l none, c, _, e => match call1 c "permutations" e with
    | some x => c.im.contains (("permutations" : Str), "itertools.permutations") && ckL l c x
    | none => false
  | .prmR lo hi, c, _, e => match call1 c "permutations" e with
    | some r => c.im.contains (("permutations" : Str), "itertools.permutations") && (match call2 c "range" r with
      | some (x, y) => ckE lo c x && ckE hi c y
      | none => (match call1 c "range" r with
        | some y => isZero lo && ckE hi c y
        | none => false))
    | none => false
  | .cmb l r, c, _, e => match call2 c "combinations" e with
    | some (x, y) => c.im.contains (("combinations" : Str), "itertools.combinations") && pureX r && ckL l c x && ckE r c y
    | none => false
  | _, _, _, _ => false
def ckO : Option Ex → CC → Option Expr → Bool
  | none, _, none => true
  | some x, c, some e => ckE x c e
  | _, _, _ => false
def ckI : Option Te → CC → List Expr → Bool
  | none, _, [] => true
  | some t, c, [e] => ckT t c e
  | _, _, _ => false
def ckEs : List Ex → CC → List Expr → Bool
  | [], _, [] => true
  | x :: xs, c, e :: es => notStar e && ckE x c e && ckEs xs c es
  | _, _, _ => false
def ckD : List Ex → CC → List (Option Expr) → List Expr → Bool
  | [], _, [], [] => true
  | k :: v :: r, c, some ke :: ks, ve :: vs => ckE k c ke && ckE v c ve && ckD r c ks vs
  | _, _, _, _ => false
end
theorem ff {p : Prop} (h : false = true) : p := absurd h Bool.false_ne_true
theorem call1_inv {c : CC} {x : Str} {e a : Expr} (h : call1 c x e = some a) : ∃ p pos, e = .Call (.Name x p) [a] [] pos ∧ glC c x = true ∧ notStar a = true := by
  unfold call1 at h
  split at h
  · split at h
    · rename_i hc
      cases h
      simp only [Bool.and_eq_true, decide_eq_true_eq] at hc
      obtain ⟨⟨rfl, h2⟩, h3⟩ := hc
      exact ⟨_, _, rfl, h2, h3⟩
    · cases h
  · cases h
theorem call2_inv {c : CC} {x : Str} {e a b : Expr} (h : call2 c x e = some (a, b)) : ∃ p pos, e = .Call (.Name x p) [a, b] [] pos ∧ glC c x = true ∧ notStar a = true ∧ notStar b = true := by
  unfold call2 at h
  split at h
  · split at h
    · rename_i hc
      cases h
      simp only [Bool.and_eq_true, decide_eq_true_eq] at hc
      obtain ⟨⟨⟨rfl, h2⟩, h3⟩, h4⟩ := hc
      exact ⟨_, _, rfl, h2, h3, h4⟩
    · cases h
  · cases h
theorem nodbg_of {x : Str} (h : nodbg x = true) : (x == ("__debug__" : Str)) = false ∧ (x == ("__classdict__" : Str)) = false := by
  simpa [nodbg, Bool.and_eq_true] using h
theorem and2 {a b : Bool} (h : (a && b) = true) : a = true ∧ b = true := by simpa using h
section
variable {F : Cf} {X : Cx} {W : VW} {C : Cl} {c : CC}
theorem Sd.gl (S : Sd F X C c W) {x : Str} (h : glC c x = true) : Gl X x := by show X.env.scope.names.lookup x = _; rw [S.sc]; exact of_decide_eq_true h
theorem Sd.b (S : Sd F X C c W) {x : Str} (hx : x ∈ bnames) (h : glC c x = true) : Bn X x := ⟨S.gl h, by rw [S.g.mg]; exact S.bare x hx⟩
theorem Sd.vis (S : Sd F X C c W) {x : Str} (h : visC c x = true) : Vis X.env.scope x := by
  rw [S.sc]
  unfold visC at h
  unfold Vis
  split at h
  · exact .inl (by assumption)
  · exact .inr (.inl (by assumption))
  · exact .inr (.inr (by assumption))
  · cases h
theorem Sd.N' (S : Sd F X C c W) {i : Nat} {x : Str} (h : decide (c.N[i]? = some x) = true) : X.N[i]? = some x := by rw [S.N]; exact of_decide_eq_true h
theorem Sd.nd' (S : Sd F X C c W) : X.N.Nodup := by rw [S.N]; exact S.nd
theorem own_ix {N : List Str} (own : List Nat) : (ownOf N own).map (·.2) = own := by
  unfold ownOf
  rw [List.map_map]
  exact List.map_id' own
theorem Sd.blkOk (S : Sd F X C c W) {scope : Scope} {own : List Nat} (h : blkC' c scope own = true) : BlkOk X.N X.env.scope scope (ownOf c.N own) := by
  rw [S.N, S.sc]
  exact blkOk_by h
theorem tgIn_of {t : Tg} {own : List Nat} (h : tgIn t own = true) : ∀ i ∈ tgIx t, i ∈ own := by
  simpa [tgIn, List.all_eq_true] using h
theorem cst_ok {d : D} {e : Expr} (h : cstOk d e = true) : ∃ v, PE X e (tC v) ∧ ∀ ρ H, Rl F.K ρ H d v := by
  cases d <;> cases e <;> try exact ff h
  all_goals (rename_i k _ _; cases k <;> try exact ff h)
  · exact ⟨.non, pe_non, fun _ _ => rl_non⟩
  · have h := of_decide_eq_true h; subst h; exact ⟨_, pe_bl, fun _ _ => rl_bl⟩
  · have h := of_decide_eq_true h; subst h; exact ⟨_, pe_int, fun _ _ => rl_int⟩
  · have h := of_decide_eq_true h; subst h; exact ⟨_, pe_str, fun _ _ => rl_str⟩
theorem isZero_eq {x : Ex} (h : isZero x = true) : x = .cst (.int 0) := by
  unfold isZero at h
  split at h
  · rfl
  · cases h
theorem cmpOrPlain_inv {x : Ex} {e : Expr} (h : cmpOrPlain x e = true) : (∃ l ops cs p, e = .Compare l ops cs p ∧ isCmpX x = true) ∨ plainT e = true := by
  unfold cmpOrPlain at h
  split at h
  · exact .inl ⟨_, _, _, _, rfl, h⟩
  · exact .inr h
theorem rev_inv {e : Expr} (h : revS e = true) : ∃ k p1 p2, e = .UnaryOp .USub (.Constant (.int 1) k p1) p2 := by
  unfold revS at h
  split at h
  · exact ⟨_, _, _, rfl⟩
  · cases h
theorem pure_ok (S : Sd F X C c W) {r : Ex} {e : Expr} (h : pureX r = true) (k : ckE r c e = true) : ∃ tv, PF.PureR C X r e tv := by
  cases r with
  | cst d =>
    cases d with
    | int i =>
      cases e with
      | Constant kd j p =>
        cases kd with
        | int i2 =>
          have k : decide (i = i2) = true := k
          have k := of_decide_eq_true k
          subst k
          exact ⟨fun _ v => v = .int i, .mk (pe_int.imp fun σ H Q ⟨v, e, q⟩ => by subst e; exact q) fun {K ρ H env σ st} _ => .inr ⟨_, _, rfl, rfl, by unfold Rl; rfl⟩⟩
        | _ => exact ff k
      | _ => exact ff k
    | _ => exact ff h
  | var i =>
    cases e with
    | Name x p =>
      obtain ⟨k, k3⟩ := and2 (show (decide (c.N[i]? = some x) && visC c x && nodbg x) = true from k)
      obtain ⟨k1, k2⟩ := and2 k
      obtain ⟨d1, d2⟩ := nodbg_of k3
      refine ⟨fun σ v => σ[i]? = some (some v), .mk ((pe_var (S.N' k1) (S.vis k2) d1 d2).imp fun σ H Q ⟨v, e, q⟩ => ⟨v, e, q⟩) fun {K ρ H env σ st} hre => ?_⟩
      have e0 : evE C (.var i) env st = (match (env[i]?).bind id with | some d => .ok d st | none => .err) := by
        simp only [evE, M.opt]
        try (cases (env[i]?).bind id <;> rfl)
      rw [e0]
      cases q : (env[i]?).bind id with
      | none => exact .inl rfl
      | some d =>
        obtain ⟨v, h1, h2⟩ := hre.2 i d (by
          cases q2 : env[i]? with
          | none => rw [q2] at q; cases q
          | some o => rw [q2] at q; have : o = some d := q; rw [this])
        exact .inr ⟨d, v, rfl, h1, h2⟩
    | _ => exact ff k
  | _ => exact ff h
end
end Cr

set_option maxRecDepth 100000
set_option maxHeartbeats 4000000
namespace Cr
open PySem PySem.Spec PyProof.Rows PySem.Calls L2
variable {F : Cf} {C : Cl}
theorem mem_b (x : Str) (h : decide (x ∈ bnames) = true) : x ∈ bnames := of_decide_eq_true h
theorem b_abs : ("abs" : Str) ∈ bnames := by decide +kernel
theorem b_int : ("int" : Str) ∈ bnames := by decide +kernel
theorem b_len : ("len" : Str) ∈ bnames := by decide +kernel
theorem b_repr : ("repr" : Str) ∈ bnames := by decide +kernel
theorem b_set : ("set" : Str) ∈ bnames := by decide +kernel
theorem b_tuple : ("tuple" : Str) ∈ bnames := by decide +kernel
theorem b_all : ("all" : Str) ∈ bnames := by decide +kernel
theorem b_any : ("any" : Str) ∈ bnames := by decide +kernel
theorem b_sum : ("sum" : Str) ∈ bnames := by decide +kernel
theorem b_max : ("max" : Str) ∈ bnames := by decide +kernel
theorem b_min : ("min" : Str) ∈ bnames := by decide +kernel
theorem b_list : ("list" : Str) ∈ bnames := by decide +kernel
theorem b_sorted : ("sorted" : Str) ∈ bnames := by decide +kernel
theorem b_divmod : ("divmod" : Str) ∈ bnames := by decide +kernel
theorem b_range : ("range" : Str) ∈ bnames := by decide +kernel
theorem b_isinstance : ("isinstance" : Str) ∈ bnames := by decide +kernel
theorem b_bool : ("bool" : Str) ∈ bnames := by decide +kernel
theorem b_str : ("str" : Str) ∈ bnames := by decide +kernel
theorem b_zip : ("zip" : Str) ∈ bnames := by decide +kernel
theorem b_enumerate : ("enumerate" : Str) ∈ bnames := by decide +kernel
theorem ty_ok {X : Cx} {W : VW} {c : CC} (S : Sd F X C c W) (t : Ty) (h : glC c (tyS t) = true) : Bn X (tyS t) ∧ bootBuiltins (tyS t) = some (.type (tyN t)) ∧ tyS t ≠ "__name__" ∧ (tyS t == ("__debug__" : Str)) = false := by
  cases t
  · exact ⟨S.b b_int h, PyProof.Rows.boot_int, by decide +kernel, by decide +kernel⟩
  · exact ⟨S.b b_bool h, PyProof.Rows.boot_bool, by decide +kernel, by decide +kernel⟩
  · exact ⟨S.b b_tuple h, PyProof.Rows.boot_tuple, by decide +kernel, by decide +kernel⟩
  · exact ⟨S.b b_str h, PyProof.Rows.boot_str, by decide +kernel, by decide +kernel⟩
theorem op_inv {op : Operator} {o : Op2} (h : decide (op = opPy o) = true) : op = opPy o := of_decide_eq_true h
mutual
theorem okE : ∀ (x : Ex) {X : Cx} {W : VW} {c : CC} (S : Sd F X C c W) (e : Expr), ckE x c e = true → PE X e (tE F W (evE C x))
  | .cst d, X, W, c, S, e, h => by
    obtain ⟨v, h1, h2⟩ := cst_ok (F := F) (X := X) h
    exact pE_cst h1 h2
  | .var i, X, W, c, S, e, h => by
    cases e with
    | Name x p =>
      replace h : (decide (c.N[i]? = some x) && visC c x && nodbg x) = true := h
      obtain ⟨h, h3⟩ := and2 h
      obtain ⟨h1, h2⟩ := and2 h
      obtain ⟨d1, d2⟩ := nodbg_of h3
      exact pE_var (S.N' h1) (S.vis h2) d1 d2
    | _ => exact ff h
  | .gc y, X, W, c, S, e, h => by
    cases e with
    | Name x p =>
      replace h : (decide (x = y) && glC c x && nodbg x) = true := h
      obtain ⟨h, h3⟩ := and2 h
      obtain ⟨h1, h2⟩ := and2 h
      have h1 := of_decide_eq_true h1
      subst h1
      exact pE_gc (S.gl h2) (nodbg_of h3).1 (by rw [S.g.mg]; exact S.gc x)
    | _ => exact ff h
  | .tup xs, X, W, c, S, e, h => by
    cases e with
    | Tuple es k p => exact pE_tup (okEs xs S es h).1
    | _ => exact ff h
  | .new n, X, W, c, S, e, h => pE_new (okN n S e h)
  | .op2 o a b, X, W, c, S, e, h => by
    cases e with
    | BinOp l op r p =>
      replace h : (decide (op = opPy o) && ckE a c l && ckE b c r) = true := h
      obtain ⟨h, h3⟩ := and2 h
      obtain ⟨h1, h2⟩ := and2 h
      rw [op_inv h1]
      exact pE_op2 S.g o (okE a S l h2) (okE b S r h3)
    | _ => exact ff h
  | .f1 f a, X, W, c, S, e, h => by
    cases f with
    | neg =>
      cases e with
      | UnaryOp op x p =>
        cases op with
        | USub => exact pE_neg S.g (okE a S x h)
        | _ => exact ff h
      | _ => exact ff h
    | lenSet =>
      replace h : (match call1 c "len" e with
        | some (.Call (.Name y _) [x] [] _) => decide (y = ("set" : Str)) && glC c "set" && notStar x && ckE a c x
        | _ => false) = true := h
      split at h
      · rename_i y p x q hc
        obtain ⟨p2, q2, rfl, g1, n1⟩ := call1_inv hc
        obtain ⟨h, h4⟩ := and2 h
        obtain ⟨h, h3⟩ := and2 h
        obtain ⟨h1, h2⟩ := and2 h
        have h1 := of_decide_eq_true h1
        subst h1
        exact pE_lenSet S.g (S.b b_len g1) (S.b b_set h2) h3 (okE a S x h4)
      · exact ff h
    | abs =>
      replace h : (match call1 c "abs" e with | some x => ckE a c x | _ => false) = true := h
      split at h
      · rename_i x hc
        obtain ⟨p2, q2, rfl, g1, n1⟩ := call1_inv hc
        exact pE_abs S.g (S.b b_abs g1) n1 (okE a S x h)
      · exact ff h
    | len =>
      replace h : (match call1 c "len" e with | some x => ckE a c x | _ => false) = true := h
      split at h
      · rename_i x hc
        obtain ⟨p2, q2, rfl, g1, n1⟩ := call1_inv hc
        exact pE_len S.g (S.b b_len g1) n1 (okE a S x h)
      · exact ff h
    | int =>
      replace h : (match call1 c "int" e with | some x => ckE a c x | _ => false) = true := h
      split at h
      · rename_i x hc
        obtain ⟨p2, q2, rfl, g1, n1⟩ := call1_inv hc
        exact pE_int S.g (S.b b_int g1) n1 (okE a S x h)
      · exact ff h
    | repr =>
      replace h : (match call1 c "repr" e with | some x => ckE a c x | _ => false) = true := h
      split at h
      · rename_i x hc
        obtain ⟨p2, q2, rfl, g1, n1⟩ := call1_inv hc
        exact pE_repr S.g (S.b b_repr g1) n1 (okE a S x h)
      · exact ff h
  | .f2 f a b, X, W, c, S, e, h => by
    replace h : (match call2 c (f2N f) e with | some (x, y) => ckE a c x && ckE b c y | _ => false) = true := h
    split at h
    · rename_i x y hc
      obtain ⟨p2, q2, rfl, g1, n1, n2⟩ := call2_inv hc
      obtain ⟨h1, h2⟩ := and2 h
      cases f with
      | max => exact pE_max2 S.g (S.b b_max g1) n1 n2 (okE a S x h1) (okE b S y h2)
      | min => exact pE_min2 S.g (S.b b_min g1) n1 n2 (okE a S x h1) (okE b S y h2)
      | divmod => exact pE_divmod S.g (S.b b_divmod g1) n1 n2 (okE a S x h1) (okE b S y h2)
    · exact ff h
  | .fs f a, X, W, c, S, e, h => by
    replace h : (match call1 c (fsN f) e with | some x => ckL a c x | _ => false) = true := h
    split at h
    · rename_i x hc
      obtain ⟨p2, q2, rfl, g1, n1⟩ := call1_inv hc
      cases f with
      | tuple => exact pE_tuple S.g (S.b b_tuple g1) n1 (okL a S x h)
      | all => exact pE_all S.g (S.b b_all g1) n1 (okL a S x h)
      | any => exact pE_any S.g (S.b b_any g1) n1 (okL a S x h)
      | sum => exact pE_sum S.g (S.b b_sum g1) n1 (okL a S x h)
      | min => exact pE_min S.g (S.b b_min g1) n1 (okL a S x h)
      | max => exact pE_max S.g (S.b b_max g1) n1 (okL a S x h)
    · exact ff h
  | .cmp o a b, X, W, c, S, e, h => by
    cases e with
    | Compare l ops cs p =>
      rcases ops with _ | ⟨op, _ | ⟨_, _⟩⟩ <;> rcases cs with _ | ⟨r, _ | ⟨_, _⟩⟩ <;> try exact ff h
      obtain ⟨h, h4⟩ := and2 (show (decide (op = cpPy o) && !(behindInMarks op r) && ckE a c l && ckE b c r) = true from h)
      obtain ⟨h, h3⟩ := and2 h
      obtain ⟨h1, h2⟩ := and2 h
      have h1 := of_decide_eq_true h1
      subst h1
      exact pE_cmp S.g o (by simpa using h2) (okE a S l h3) (okE b S r h4)
    | _ => exact ff h
  | .chn o o' a b d, X, W, c, S, e, h => by
    cases e with
    | Compare l ops cs p =>
      rcases ops with _ | ⟨op, _ | ⟨op', _ | ⟨_, _⟩⟩⟩ <;> rcases cs with _ | ⟨m, _ | ⟨r, _ | ⟨_, _⟩⟩⟩ <;> try exact ff h
      obtain ⟨h, h6⟩ := and2 (show (decide (op = cpPy o) && decide (op' = cpPy o') && !(lastMarks [op, op'] [m, r]) && ckE a c l && ckE b c m && ckE d c r) = true from h)
      obtain ⟨h, h5⟩ := and2 h
      obtain ⟨h, h4⟩ := and2 h
      obtain ⟨h, h3⟩ := and2 h
      obtain ⟨h1, h2⟩ := and2 h
      have h1 := of_decide_eq_true h1
      have h2 := of_decide_eq_true h2
      subst h1 h2
      exact pE_chn S.g o o' (by simpa using h3) (okE a S l h4) (okE b S m h5) (okE d S r h6)
    | _ => exact ff h
  | .not a, X, W, c, S, e, h => by
    cases e with
    | UnaryOp op x p =>
      cases op with
      | Not => exact pE_not S.g (okE a S x h)
      | _ => exact ff h
    | _ => exact ff h
  | .and a b, X, W, c, S, e, h => by
    cases e with
    | BoolOp op vs p =>
      cases op with
      | And =>
        rcases vs with _ | ⟨x, _ | ⟨y, _ | ⟨z, r⟩⟩⟩
        · exact ff h
        · exact ff h
        · obtain ⟨h1, h2⟩ := and2 (show (ckE a c x && ckE b c y) = true from h)
          exact pE_and S.g (okE a S x h1) (pe_one (okE b S y h2))
        · obtain ⟨h1, h2⟩ := and2 (show (ckE a c x && ckE b c (.BoolOp .And (y :: z :: r) p)) = true from h)
          exact pE_and S.g (okE a S x h1) (okE b S _ h2)
      | Or => rcases vs with _ | ⟨x, _ | ⟨y, _ | ⟨z, r⟩⟩⟩ <;> exact ff h
    | _ => exact ff h
  | .or a b, X, W, c, S, e, h => by
    cases e with
    | BoolOp op vs p =>
      cases op with
      | Or =>
        rcases vs with _ | ⟨x, _ | ⟨y, _ | ⟨z, r⟩⟩⟩
        · exact ff h
        · exact ff h
        · obtain ⟨h1, h2⟩ := and2 (show (ckE a c x && ckE b c y) = true from h)
          exact pE_or S.g (okE a S x h1) (pe_one (okE b S y h2))
        · obtain ⟨h1, h2⟩ := and2 (show (ckE a c x && ckE b c (.BoolOp .Or (y :: z :: r) p)) = true from h)
          exact pE_or S.g (okE a S x h1) (okE b S _ h2)
      | And => rcases vs with _ | ⟨x, _ | ⟨y, _ | ⟨z, r⟩⟩⟩ <;> exact ff h
    | _ => exact ff h
  | .ite t a b, X, W, c, S, e, h => by
    cases e with
    | IfExp ce x y p =>
      obtain ⟨h, h3⟩ := and2 (show (ckT t c ce && ckE a c x && ckE b c y) = true from h)
      obtain ⟨h1, h2⟩ := and2 h
      exact pE_ite (okT t S ce h1) (okE a S x h2) (okE b S y h3)
    | _ => exact ff h
  | .idx a i, X, W, c, S, e, h => by
    cases e with
    | Subscript x y p =>
      obtain ⟨h, h3⟩ := and2 (show (notSlice y && ckE a c x && ckE i c y) = true from h)
      obtain ⟨h1, h2⟩ := and2 h
      exact pE_idx S.g (plainIx_of h1) (okE a S x h2) (okE i S y h3)
    | _ => exact ff h
  | .slc a lo hi, X, W, c, S, e, h => by
    cases e with
    | Subscript x y p =>
      cases y with
      | Slice l u st p2 =>
        cases st with
        | none =>
          obtain ⟨h, h3⟩ := and2 (show (ckE a c x && ckO lo c l && ckO hi c u) = true from h)
          obtain ⟨h1, h2⟩ := and2 h
          exact pE_slc S.g (okE a S x h1) (okO lo S l h2) (okO hi S u h3)
        | some _ => exact ff h
      | _ => exact ff h
    | _ => exact ff h
  | .rev a, X, W, c, S, e, h => by
    cases e with
    | Subscript x y p =>
      cases y with
      | Slice l u st p2 =>
        cases l with
        | none =>
          cases u with
          | none =>
            cases st with
            | some s =>
              obtain ⟨h1, h2⟩ := and2 (show (revS s && ckE a c x) = true from h)
              obtain ⟨k, p1, p3, rfl⟩ := rev_inv h1
              exact pE_rev S.g (okE a S x h2)
            | none => exact ff h
          | some _ => cases st <;> exact ff h
        | some _ => cases u <;> cases st <;> exact ff h
      | _ => exact ff h
    | _ => exact ff h
  | .tupR lo hi, X, W, c, S, e, h => by
    replace h : (match call1 c "tuple" e with
      | some r => (match call2 c "range" r with
        | some (x, y) => ckE lo c x && ckE hi c y
        | none => (match call1 c "range" r with
          | some y => isZero lo && ckE hi c y
          | none => false))
      | none => false) = true := h
    split at h
    · rename_i r hc
      obtain ⟨p1, q1, rfl, g1, n1⟩ := call1_inv hc
      split at h
      · rename_i x y hc2
        obtain ⟨p2, q2, rfl, g2, m1, m2⟩ := call2_inv hc2
        obtain ⟨h1, h2⟩ := and2 h
        exact pE_tupR2 S.g (S.b b_tuple g1) (S.b b_range g2) m1 m2 (okE lo S x h1) (okE hi S y h2)
      · split at h
        · rename_i y hc2
          obtain ⟨p2, q2, rfl, g2, m1⟩ := call1_inv hc2
          obtain ⟨h1, h2⟩ := and2 h
          rw [isZero_eq h1]
          exact pE_tupR1 S.g (S.b b_tuple g1) (S.b b_range g2) m1 (okE hi S y h2)
        · exact ff h
    · exact ff h
  | .call f xs ks, X, W, c, S, e, h => by
    cases e with
    | Call fe es kw p =>
      cases fe with
      | Name y p2 =>
        obtain ⟨h, h5⟩ := and2 (show (decide (y = f) && glC c f && nodbg f && (c.fns.any fun q => decide (q.1 = f) && callOkC ks es kw q.2.2) && ckEs xs c (argsE ks es kw)) = true from h)
        obtain ⟨h, h4⟩ := and2 h
        obtain ⟨h, h3⟩ := and2 h
        obtain ⟨h1, h2⟩ := and2 h
        have h1 := of_decide_eq_true h1
        subst h1
        obtain ⟨q, hq, hh⟩ := List.any_eq_true.mp h4
        obtain ⟨f', n, kws⟩ := q
        obtain ⟨k1, k2⟩ := and2 hh
        have k1 : f' = y := of_decide_eq_true k1
        subst k1
        cases ks with
        | nil =>
          obtain ⟨k3, k4⟩ := and2 (show (isNil kw && es.all notStar) = true from k2)
          cases kw with
          | cons _ _ => exact ff k3
          | nil =>
            obtain ⟨i1, i2, i3⟩ := okEs xs S es h5
            exact pE_call S hq h2 (nodbg_of h3).1 i2 i3 i1
        | cons k r =>
          obtain ⟨k3, k6⟩ := and2 (show (isNil es && kwIs (k :: r) kw && decide ((k :: r) ∈ kws)) = true from k2)
          obtain ⟨k4, k5⟩ := and2 k3
          cases es with
          | cons _ _ => exact ff k4
          | nil => exact pE_callK S hq (of_decide_eq_true k6) (by simp) h2 (nodbg_of h3).1 k5 (okKw xs S kw h5)
      | _ => exact ff h
    | _ => exact ff h
  | .meth m o xs, X, W, c, S, e, h => by
    cases e with
    | Call fe es kw p =>
      cases fe with
      | Attribute oe nm ap =>
        rcases es with _ | ⟨a, es⟩ <;> rcases kw with _ | ⟨_, _⟩ <;> try exact ff h
        obtain ⟨h, h8⟩ := and2 (show (decide (nm = meN m) && notExt m && abOk oe && (a :: es).all notStar && decide ((a :: es).length < 30) && (ap.endLine == p.line) && ckE o c oe && ckEs xs c (a :: es)) = true from h)
        obtain ⟨h, h7⟩ := and2 h
        obtain ⟨h, h6⟩ := and2 h
        obtain ⟨h, h5⟩ := and2 h
        obtain ⟨h, h4⟩ := and2 h
        obtain ⟨h, h3⟩ := and2 h
        obtain ⟨h1, h2⟩ := and2 h
        have h1 := of_decide_eq_true h1
        subst h1
        exact pE_meth S.g m (fun z => by subst z; cases h2) (okE o S oe h7) (okEs xs S (a :: es) h8).1 h3 h4 (of_decide_eq_true h5) h6
      | _ => exact ff h
    | _ => exact ff h
  | .meth0 m o, X, W, c, S, e, h => by
    cases e with
    | Call fe es kw p =>
      cases fe with
      | Attribute oe nm ap =>
        rcases es with _ | ⟨a, es⟩ <;> rcases kw with _ | ⟨_, _⟩ <;> try exact ff h
        obtain ⟨h, h5⟩ := and2 (show (isPop m && decide (nm = ("pop" : Str)) && abOk oe && (ap.endLine == p.line) && ckE o c oe) = true from h)
        obtain ⟨h, h4⟩ := and2 h
        obtain ⟨h, h3⟩ := and2 h
        obtain ⟨h1, h2⟩ := and2 h
        have h2 := of_decide_eq_true h2
        subst h2
        cases m <;> try exact ff h1
        exact pE_pop0 S.g (okE o S oe h5) h3 h4
      | _ => exact ff h
    | _ => exact ff h
  | .ext o (.val _), X, W, c, S, e, h => by
    cases e with
    | Call fe es kw p =>
      cases fe with
      | Attribute oe nm ap =>
        rcases es with _ | ⟨a, _ | ⟨_, _⟩⟩ <;> rcases kw with _ | ⟨_, _⟩ <;> try exact ff h
        exact ff (and2 (show (decide (nm = ("extend" : Str)) && abOk oe && notStar a && (ap.endLine == p.line) && ckE o c oe && false) = true from h)).2
      | _ => exact ff h
    | _ => exact ff h
  | .ext o (.new n), X, W, c, S, e, h => by
    cases e with
    | Call fe es kw p =>
      cases fe with
      | Attribute oe nm ap =>
        rcases es with _ | ⟨a, _ | ⟨_, _⟩⟩ <;> rcases kw with _ | ⟨_, _⟩ <;> try exact ff h
        obtain ⟨h, h6⟩ := and2 (show (decide (nm = ("extend" : Str)) && abOk oe && notStar a && (ap.endLine == p.line) && ckE o c oe && ckN n c a) = true from h)
        obtain ⟨h, h5⟩ := and2 h
        obtain ⟨h, h4⟩ := and2 h
        obtain ⟨h, h3⟩ := and2 h
        obtain ⟨h1, h2⟩ := and2 h
        have h1 := of_decide_eq_true h1
        subst h1
        exact pE_ext S.g (okE o S oe h5) (okN n S a h6) h2 h3 h4
      | _ => exact ff h
    | _ => exact ff h
  | .dc k v tg it own, X, W, c, S, e, h => by
    cases e with
    | DictComp ke ve gs scope p =>
      rcases gs with _ | ⟨⟨te, ie, is, as⟩, _ | ⟨_, _⟩⟩
      · exact ff h
      · obtain ⟨h, h7⟩ := and2 (show (decide (as = 0) && isNil is && blkC' c scope own && tgIn tg own && ckTg c.N (relS scope c.sc) (ownCell scope) tg te && notSet ie && ckQ it c te ie && ckE k (blkOf c scope) ke && ckE v (blkOf c scope) ve) = true from h)
        obtain ⟨h, h6⟩ := and2 h
        obtain ⟨h, h5⟩ := and2 h
        obtain ⟨h, h4⟩ := and2 h
        obtain ⟨h, h3⟩ := and2 h
        obtain ⟨h, h2⟩ := and2 h
        obtain ⟨h, h1⟩ := and2 h
        obtain ⟨ha, hb⟩ := and2 h
        have ha := of_decide_eq_true ha
        subst ha
        cases is with
        | cons _ _ => exact ff hb
        | nil =>
          have B := fun s H A cl fp => S.blk scope s H A cl fp
          have R := pE_dc (own := ownOf c.N own) (tg := tg) (pos := p) S.g S.nd' (okQ it S te ie h5) (S.blkOk h1) (fun s H A cl fp => by
            have := pg_ok (X := Blk X scope s H A cl fp) S.g.calm (B s H A cl fp).N S.nd (B s H A cl fp).sc (fun _ hx => hx) h3
            exact this) (fun s H A cl fp => okE k (B s H A cl fp) ke h6) (fun s H A cl fp => okE v (B s H A cl fp) ve h7) h4 (by rw [own_ix]; exact tgIn_of h2)
          rw [own_ix] at R
          exact R
      · exact ff h
    | _ => exact ff h
  | .dctT k v, X, W, c, S, e, h => by
    cases e with
    | Dict keys values p =>
      rcases keys with _ | ⟨ko, _ | ⟨_, _⟩⟩ <;> rcases values with _ | ⟨ve, _ | ⟨_, _⟩⟩ <;> try (cases ko <;> exact ff h)
      all_goals first
        | exact ff h
        | (cases ko with
           | some ke =>
             obtain ⟨h1, h2⟩ := and2 (show (ckE k c ke && ckE v c ve) = true from h)
             exact pE_dctT S.g (okE k S ke h1) (okE v S ve h2)
           | none => exact ff h)
    | _ => exact ff h
  | .dct xs, X, W, c, S, e, h => by
    cases e with
    | Dict keys values p =>
      obtain ⟨h, h6⟩ := and2 (show (decide (xs.length % 2 = 0) && keys.all (·.isSome) && decide (keys.length = values.length) && decide (keys.length ≤ 15) && !isNil keys && ckD xs c keys values) = true from h)
      obtain ⟨h, h5⟩ := and2 h
      obtain ⟨h, h4⟩ := and2 h
      obtain ⟨h, h3⟩ := and2 h
      obtain ⟨h1, h2⟩ := and2 h
      refine pE_dct (okD xs S p keys values h6) h2 (of_decide_eq_true h3) (fun z => ?_) (of_decide_eq_true h4) (of_decide_eq_true h1)
      subst z
      exact ff h5
    | _ => exact ff h
  | .minN l, X, W, c, S, e, h => by
    revert h
    show (match e with
      | .Call (.Name y _) [x] [⟨some nm, .Constant .none _ _, _⟩] _ => decide (y = ("min" : Str)) && glC c "min" && decide (nm = ("default" : Str)) && notStar x && ckL l c x
      | _ => false) = true → _
    intro h
    split at h
    · obtain ⟨h, h5⟩ := and2 h
      obtain ⟨h, h4⟩ := and2 h
      obtain ⟨h, h3⟩ := and2 h
      obtain ⟨h1, h2⟩ := and2 h
      have h1 := of_decide_eq_true h1
      have h3 := of_decide_eq_true h3
      subst h1 h3
      exact pE_minN S.g (S.b b_min h2) h4 (okL l S _ h5)
    · exact ff h
  | .tupS a b d, X, W, c, S, e, h => by
    replace h : (match (generalizing := false) e with
      | .Tuple (.Starred x _ :: es) _ _ => isNil a && ckE b c x && ckEs d c es
      | .Tuple (x :: .Starred y _ :: es) _ _ => notStar x && ckEs a c [x] && ckE b c y && ckEs d c es
      | _ => false) = true := h
    split at h
    · obtain ⟨h, h3⟩ := and2 h
      obtain ⟨h1, h2⟩ := and2 h
      cases a with
      | nil => exact pE_tupS0 S.g (okE b S _ h2) (okEs d S _ h3).1
      | cons _ _ => exact ff h1
    · obtain ⟨h, h4⟩ := and2 h
      obtain ⟨h, h3⟩ := and2 h
      obtain ⟨h1, h2⟩ := and2 h
      cases a with
      | nil => exact ff h2
      | cons xa r =>
        cases r with
        | nil =>
          obtain ⟨h5, _⟩ := and2 (show (notStar _ && ckE xa c _ && true) = true from h2)
          exact pE_tupS1 S.g h1 (okE xa S _ (and2 h5).2) (okE b S _ h3) (okEs d S _ h4).1
        | cons y r =>
          obtain ⟨_, h5⟩ := and2 (show (notStar _ && ckE xa c _ && ckEs (y :: r) c []) = true from h2)
          exact ff h5
    · exact ff h
  | .isi a t, X, W, c, S, e, h => by
    cases e with
    | Call fe es kw p =>
      cases fe with
      | Name y p2 =>
        rcases es with _ | ⟨x, _ | ⟨z, _ | ⟨_, _⟩⟩⟩ <;> rcases kw with _ | ⟨_, _⟩ <;> try exact ff h
        · cases z with
          | Name z q =>
            obtain ⟨h, h6⟩ := and2 (show (decide (y = ("isinstance" : Str)) && glC c "isinstance" && decide (z = tyS t) && glC c (tyS t) && notStar x && ckE a c x) = true from h)
            obtain ⟨h, h5⟩ := and2 h
            obtain ⟨h, h4⟩ := and2 h
            obtain ⟨h, h3⟩ := and2 h
            obtain ⟨h1, h2⟩ := and2 h
            have h1 := of_decide_eq_true h1
            have h3 := of_decide_eq_true h3
            subst h1 h3
            obtain ⟨b1, b2, b3, b4⟩ := ty_ok S t h4
            exact pE_isi S.g (S.b b_isinstance h2) b1 b2 b3 b4 h5 (okE a S x h6)
          | _ => exact ff h
        · cases z <;> exact ff h
        · cases z <;> exact ff h
        · cases z <;> exact ff h
      | _ => exact ff h
    | _ => exact ff h
  | .cloc i xs, X, W, c, S, e, h => by
    cases e with
    | Call fe es kw p =>
      cases fe with
      | Name nm p2 =>
        cases kw with
        | nil =>
          obtain ⟨h, h3⟩ := and2 (show (decide (c.clo = some (nm, i)) && !isNil es && ckEs xs c es) = true from h)
          obtain ⟨h1, h2⟩ := and2 h
          obtain ⟨i1, i2, _⟩ := okEs xs S es h3
          refine S.clo nm i (of_decide_eq_true h1) es xs p2 p (fun z => ?_) i2 i1
          subst z
          exact ff h2
        | cons _ _ => exact ff h
      | _ => exact ff h
    | _ => exact ff h
  | .fwr a b i j, X, W, c, S, e, h => by
    cases e with
    | Call fe es kw p =>
      cases fe with
      | Name f p2 =>
        rcases es with _ | ⟨x, _ | ⟨z, _ | ⟨_, _⟩⟩⟩ <;> rcases kw with _ | ⟨_, _⟩ <;> try exact ff h
        all_goals cases z <;> try exact ff h
        rename_i params body scope lpos
        obtain ⟨h, h7⟩ := and2 (show (c.fw && decide (f = ("first_wrong" : Str)) && decide (c.sc.names.lookup ("first_wrong" : Str) = some .globalImplicit) && notStar x && lamCk c params scope i j && ckE a c x && ckE b { c with sc := scope, st := false, fw := false, clo := none } body) = true from h)
        obtain ⟨h, h6⟩ := and2 h
        obtain ⟨h, h5⟩ := and2 h
        obtain ⟨h, h4⟩ := and2 h
        obtain ⟨h, h3⟩ := and2 h
        obtain ⟨h1, h2⟩ := and2 h
        have h2 := of_decide_eq_true h2
        subst h2
        obtain ⟨n1, n2, LO⟩ := lamCk_ok (X := X) h5
        exact pE_fwr S h1 h3 h4 (okE a S x h6) LO fun Y SY => okE b SY body h7
      | _ => exact ff h
    | _ => exact ff h
theorem okN : ∀ (n : Ne) {X : Cx} {W : VW} {c : CC} (S : Sd F X C c W) (e : Expr), ckN n c e = true → PE X e (tL F W (evN C n))
  | .lst xs, X, W, c, S, e, h => by
    cases e with
    | List es p => exact pL_lst (okEs xs S es h).1
    | _ => exact ff h
  | .lstS a b d, X, W, c, S, e, h => by
    replace h : (match (generalizing := false) e with
      | .List (.Starred x _ :: es) _ => isNil a && ckE b c x && ckEs d c es
      | _ => false) = true := h
    split at h
    · obtain ⟨h, h3⟩ := and2 h
      obtain ⟨h1, h2⟩ := and2 h
      cases a with
      | nil => exact pL_lstS0 S.g (okE b S _ h2) (okEs d S _ h3).1
      | cons _ _ => exact ff h1
    · exact ff h
  | .fl f a, X, W, c, S, e, h => by
    replace h : (match call1 c (flN f) e with | some x => ckL a c x | _ => false) = true := h
    split at h
    · rename_i x hc
      obtain ⟨p2, q2, rfl, g1, n1⟩ := call1_inv hc
      cases f with
      | list => exact pL_list S.g (S.b b_list g1) n1 (okL a S x h)
      | sorted => exact pL_sorted S.g (S.b b_sorted g1) n1 (okL a S x h)
    · exact ff h
  | .sset a, X, W, c, S, e, h => by
    replace h : (match call1 c "sorted" e with
      | some x => (match call1 c "set" x with
        | some y => ckE a c y
        | none => false)
      | none => false) = true := h
    split at h
    · rename_i x hc
      obtain ⟨p2, q2, rfl, g1, n1⟩ := call1_inv hc
      split at h
      · rename_i y hc2
        obtain ⟨p3, q3, rfl, g2, n2⟩ := call1_inv hc2
        exact pL_sset S.g (S.b b_sorted g1) (S.b b_set g2) n2 (okE a S y h)
      · exact ff h
    · exact ff h
  | .srtD a, X, W, c, S, e, h => by
    replace h : (match call1 c "sorted" e with
      | some x => ckE a c x
      | none => false) = true := h
    split at h
    · rename_i x hc
      obtain ⟨p2, q2, rfl, g1, n1⟩ := call1_inv hc
      exact pL_srtD S.g (S.b b_sorted g1) n1 (okE a S x h)
    · exact ff h
  | .dsrt a, X, W, c, S, e, h => by
    replace h : (match call1 c "sorted" e with
      | some x => ckE a c x
      | none => false) = true := h
    split at h
    · rename_i x hc
      obtain ⟨p2, q2, rfl, g1, n1⟩ := call1_inv hc
      exact pL_dsrt S.g (S.b b_sorted g1) n1 (okE a S x h)
    · exact ff h
  | .revL a, X, W, c, S, e, h => by
    cases e with
    | Subscript x y p =>
      cases y with
      | Slice l u st p2 =>
        cases l with
        | none =>
          cases u with
          | none =>
            cases st with
            | some s =>
              obtain ⟨h1, h2⟩ := and2 (show (revS s && ckE a c x) = true from h)
              obtain ⟨k, p1, p3, rfl⟩ := rev_inv h1
              exact pL_revL S.g (okE a S x h2)
            | none => exact ff h
          | some _ => cases st <;> exact ff h
        | some _ => cases u <;> cases st <;> exact ff h
      | _ => exact ff h
    | _ => exact ff h
  | .lc elt tg it ifs own, X, W, c, S, e, h => by
    cases e with
    | ListComp ee gs scope p =>
      rcases gs with _ | ⟨⟨te, ie, is, as⟩, _ | ⟨_, _⟩⟩
      · exact ff h
      · obtain ⟨h, h7⟩ := and2 (show (decide (as = 0) && blkC' c scope own && tgIn tg own && ckTg c.N (relS scope c.sc) (ownCell scope) tg te && notSet ie && ckQ it c te ie && ckI ifs (blkOf c scope) is && ckE elt (blkOf c scope) ee) = true from h)
        obtain ⟨h, h6⟩ := and2 h
        obtain ⟨h, h5⟩ := and2 h
        obtain ⟨h, h4⟩ := and2 h
        obtain ⟨h, h3⟩ := and2 h
        obtain ⟨h, h2⟩ := and2 h
        obtain ⟨ha, h1⟩ := and2 h
        have ha := of_decide_eq_true ha
        subst ha
        have B := fun s H A cl fp => S.blk scope s H A cl fp
        have R := pL_lc (own := ownOf c.N own) (tg := tg) (pos := p) S.g S.nd' (okQ it S te ie h5) (S.blkOk h1) (fun s H A cl fp => by
          have := pg_ok (X := Blk X scope s H A cl fp) S.g.calm (B s H A cl fp).N S.nd (B s H A cl fp).sc (fun _ hx => hx) h3
          exact this) (fun s H A cl fp => okI ifs (B s H A cl fp) is h6) (fun s H A cl fp => okE elt (B s H A cl fp) ee h7) h4 (by rw [own_ix]; exact tgIn_of h2)
        rw [own_ix] at R
        exact R
      · exact ff h
    | _ => exact ff h
  | .lc2 elt tg it ifs tg1 it1 ifs1 own own1, X, W, c, S, e, h => by
    cases e with
    | ListComp ee gs scope p =>
      rcases gs with _ | ⟨⟨te, ie, is, as⟩, _ | ⟨⟨te1, ie1, is1, as1⟩, _ | ⟨_, _⟩⟩⟩
      · exact ff h
      · exact ff h
      · obtain ⟨h, h15⟩ := and2 (show (decide (as = 0) && decide (as1 = 0) && blkC' c scope own && own1.all (fun i => own.contains i) && tgIn tg own && tgIn tg1 own1 && ckTg c.N (relS scope c.sc) (ownCell scope) tg te && ckTg c.N (relS scope c.sc) (ownCell scope) tg1 te1 && notSet ie && notSet ie1 && ckQ it c te ie && ckI ifs (blkOf c scope) is && monoQ it1 && ckQ it1 (blkOf c scope) te1 ie1 && ckI ifs1 (blkOf c scope) is1 && ckE elt (blkOf c scope) ee) = true from h)
        obtain ⟨h, h14⟩ := and2 h
        obtain ⟨h, h13⟩ := and2 h
        obtain ⟨h, h12⟩ := and2 h
        obtain ⟨h, h11⟩ := and2 h
        obtain ⟨h, h10⟩ := and2 h
        obtain ⟨h, h9⟩ := and2 h
        obtain ⟨h, h8⟩ := and2 h
        obtain ⟨h, h7⟩ := and2 h
        obtain ⟨h, h6⟩ := and2 h
        obtain ⟨h, h5⟩ := and2 h
        obtain ⟨h, h4⟩ := and2 h
        obtain ⟨h, h3⟩ := and2 h
        obtain ⟨h, h2⟩ := and2 h
        obtain ⟨ha, h1⟩ := and2 h
        have ha := of_decide_eq_true ha
        subst ha
        have h1 := of_decide_eq_true h1
        subst h1
        have B := fun s H A cl fp => S.blk scope s H A cl fp
        have R := pL_lc2 (own := ownOf c.N own) (tg := tg) (tg1 := tg1) (own1 := own1) (pos := p) S.g S.nd' (okQ it S te ie h10) (S.blkOk h2) (by rw [own_ix]; exact fun i hi => by simpa using List.all_eq_true.mp h3 i hi) (fun s H A cl fp => by
          have := pg_ok (X := Blk X scope s H A cl fp) S.g.calm (B s H A cl fp).N S.nd (B s H A cl fp).sc (fun _ hx => hx) h6
          exact this) (fun s H A cl fp => okI ifs (B s H A cl fp) is h11) (fun s H A cl fp => okQM it1 (B s H A cl fp) te1 ie1 h12 h13) (fun s H A cl fp => by
          have := pg_ok (X := Blk X scope s H A cl fp) S.g.calm (B s H A cl fp).N S.nd (B s H A cl fp).sc (fun _ hx => hx) h7
          exact this) (fun s H A cl fp => okI ifs1 (B s H A cl fp) is1 h14) (fun s H A cl fp => okE elt (B s H A cl fp) ee h15) h8 h9 (by rw [own_ix]; exact tgIn_of h4) (tgIn_of h5)
        rw [own_ix] at R
        exact R
      · exact ff h
    | _ => exact ff h
  | .rng lo hi, X, W, c, S, e, h => by
    replace h : (match call1 c "list" e with
      | some r => (match call2 c "range" r with
        | some (x, y) => ckE lo c x && ckE hi c y
        | none => (match call1 c "range" r with
          | some y => isZero lo && ckE hi c y
          | none => false))
      | none => false) = true := h
    split at h
    · rename_i r hc
      obtain ⟨p1, q1, rfl, g1, n1⟩ := call1_inv hc
      split at h
      · rename_i x y hc2
        obtain ⟨p2, q2, rfl, g2, m1, m2⟩ := call2_inv hc2
        obtain ⟨h1, h2⟩ := and2 h
        exact pL_rng2 S.g (S.b b_list g1) (S.b b_range g2) m1 m2 (okE lo S x h1) (okE hi S y h2)
      · split at h
        · rename_i y hc2
          obtain ⟨p2, q2, rfl, g2, m1⟩ := call1_inv hc2
          obtain ⟨h1, h2⟩ := and2 h
          rw [isZero_eq h1]
          exact pL_rng1 S.g (S.b b_list g1) (S.b b_range g2) m1 (okE hi S y h2)
        · exact ff h
    · exact ff h
theorem okL : ∀ (l : Ls) {X : Cx} {W : VW} {c : CC} (S : Sd F X C c W) (e : Expr), ckL l c e = true → PE X e (tS F W (evS C l))
  | .val x, X, W, c, S, e, h => pS_val (okE x S e h)
  | .new n, X, W, c, S, e, h => pS_new (okN n S e h)
theorem okH : ∀ (l : Ls) {X : Cx} {W : VW} {c : CC} (S : Sd F X C c W) (e : Expr), ckL l c e = true → PE X e (tH F W (evH C l))
  | .val x, X, W, c, S, e, h => pH_val (okE x S e h)
  | .new n, X, W, c, S, e, h => pH_new (okN n S e h)
theorem okT : ∀ (t : Te) {X : Cx} {W : VW} {c : CC} (S : Sd F X C c W) (e : Expr), ckT t c e = true → PT X e (tT F W (evT C t))
  | .val x, X, W, c, S, e, h => by
    obtain ⟨k0, k2⟩ := and2 (show (cmpOrPlain x e && ckE x c e) = true from h)
    clear h
    rcases cmpOrPlain_inv k0 with ⟨l, ops, cs, p, rfl, k1⟩ | k1
    · clear k0
      cases x with
      | cmp o a b =>
        rcases ops with _ | ⟨op, _ | ⟨_, _⟩⟩ <;> rcases cs with _ | ⟨r, _ | ⟨_, _⟩⟩ <;> try exact ff k2
        obtain ⟨h, h4⟩ := and2 (show (decide (op = cpPy o) && !(behindInMarks op r) && ckE a c l && ckE b c r) = true from k2)
        clear k2
        obtain ⟨h, h3⟩ := and2 h
        obtain ⟨h1, h2⟩ := and2 h
        have h1 := of_decide_eq_true h1
        subst h1
        exact pT_cmp S.g o (by simpa using h2) (okE a S l h3) (okE b S r h4)
      | chn o o' a b d =>
        rcases ops with _ | ⟨op, _ | ⟨op', _ | ⟨_, _⟩⟩⟩ <;> rcases cs with _ | ⟨m, _ | ⟨r, _ | ⟨_, _⟩⟩⟩ <;> try exact ff k2
        obtain ⟨h, h6⟩ := and2 (show (decide (op = cpPy o) && decide (op' = cpPy o') && !(lastMarks [op, op'] [m, r]) && ckE a c l && ckE b c m && ckE d c r) = true from k2)
        clear k2
        obtain ⟨h, h5⟩ := and2 h
        obtain ⟨h, h4⟩ := and2 h
        obtain ⟨h, h3⟩ := and2 h
        obtain ⟨h1, h2⟩ := and2 h
        have e1 := of_decide_eq_true h1
        have e2 := of_decide_eq_true h2
        clear h h1 h2
        subst e1
        subst e2
        exact pT_chn S.g o o' (by simpa using h3) (okE a S l h4) (okE b S m h5) (okE d S r h6)
      | _ => exact ff k1
    · exact pT_val S.g k1 (okE x S e k2)
  | .not t, X, W, c, S, e, h => by
    cases e with
    | UnaryOp op x p =>
      cases op with
      | Not => exact pT_not (okT t S x h)
      | _ => exact ff h
    | _ => exact ff h
  | .and a b, X, W, c, S, e, h => by
    cases e with
    | BoolOp op vs p =>
      cases op with
      | And =>
        rcases vs with _ | ⟨x, _ | ⟨y, _ | ⟨z, r⟩⟩⟩
        · exact ff h
        · exact ff h
        · obtain ⟨h1, h2⟩ := and2 (show (ckT a c x && ckT b c y) = true from h)
          exact (pT_and (okT a S x h1) (pw_and1 (okT b S y h2))).pt
        · obtain ⟨h1, h2⟩ := and2 (show (ckT a c x && ckT b c (.BoolOp .And (y :: z :: r) p)) = true from h)
          exact (pT_and (okT a S x h1) (okW b S (y :: z :: r) p .And h2)).pt
      | Or => rcases vs with _ | ⟨x, _ | ⟨y, _ | ⟨z, r⟩⟩⟩ <;> exact ff h
    | _ => exact ff h
  | .or a b, X, W, c, S, e, h => by
    cases e with
    | BoolOp op vs p =>
      cases op with
      | Or =>
        rcases vs with _ | ⟨x, _ | ⟨y, _ | ⟨z, r⟩⟩⟩
        · exact ff h
        · exact ff h
        · obtain ⟨h1, h2⟩ := and2 (show (ckT a c x && ckT b c y) = true from h)
          exact (pT_or (okT a S x h1) (pw_or1 (okT b S y h2))).pt
        · obtain ⟨h1, h2⟩ := and2 (show (ckT a c x && ckT b c (.BoolOp .Or (y :: z :: r) p)) = true from h)
          exact (pT_or (okT a S x h1) (okW b S (y :: z :: r) p .Or h2)).pt
      | And => rcases vs with _ | ⟨x, _ | ⟨y, _ | ⟨z, r⟩⟩⟩ <;> exact ff h
    | _ => exact ff h
/-- .. whatever the whole is -/
theorem okW : ∀ (t : Te) {X : Cx} {W : VW} {c : CC} (S : Sd F X C c W) (vs : List Expr) (p : Pos) (op : BoolOp), ckT t c (.BoolOp op vs p) = true → PW X (.BoolOp op vs p) (tT F W (evT C t))
  | .val x, X, W, c, S, vs, p, op, h => ff (and2 (show (false && ckE x c (.BoolOp op vs p)) = true from h)).1
  | .not t, X, W, c, S, vs, p, op, h => ff h
  | .and a b, X, W, c, S, vs, p, op, h => by
    cases op with
    | And =>
      rcases vs with _ | ⟨x, _ | ⟨y, _ | ⟨z, r⟩⟩⟩
      · exact ff h
      · exact ff h
      · obtain ⟨h1, h2⟩ := and2 (show (ckT a c x && ckT b c y) = true from h)
        exact pT_and (okT a S x h1) (pw_and1 (okT b S y h2))
      · obtain ⟨h1, h2⟩ := and2 (show (ckT a c x && ckT b c (.BoolOp .And (y :: z :: r) p)) = true from h)
        exact pT_and (okT a S x h1) (okW b S (y :: z :: r) p .And h2)
    | Or => rcases vs with _ | ⟨x, _ | ⟨y, _ | ⟨z, r⟩⟩⟩ <;> exact ff h
  | .or a b, X, W, c, S, vs, p, op, h => by
    cases op with
    | Or =>
      rcases vs with _ | ⟨x, _ | ⟨y, _ | ⟨z, r⟩⟩⟩
      · exact ff h
      · exact ff h
      · obtain ⟨h1, h2⟩ := and2 (show (ckT a c x && ckT b c y) = true from h)
        exact pT_or (okT a S x h1) (pw_or1 (okT b S y h2))
      · obtain ⟨h1, h2⟩ := and2 (show (ckT a c x && ckT b c (.BoolOp .Or (y :: z :: r) p)) = true from h)
        exact pT_or (okT a S x h1) (okW b S (y :: z :: r) p .Or h2)
    | And => rcases vs with _ | ⟨x, _ | ⟨y, _ | ⟨z, r⟩⟩⟩ <;> exact ff h
theorem okQ : ∀ (q : Sq) {X : Cx} {W : VW} {c : CC} (S : Sd F X C c W) (t e : Expr), ckQ q c t e = true → PI X t e (tQ F W (evQ C q))
  | .ls l, X, W, c, S, t, e, h => pQ_ls S.g (okH l S e h)
  | .rng lo hi, X, W, c, S, t, e, h => by
    replace h : (match call2 c "range" e with
        | some (x, y) => ckE lo c x && ckE hi c y
        | none => (match call1 c "range" e with
          | some y => isZero lo && ckE hi c y
          | none => false)) = true := h
    split at h
    · rename_i x y hc2
      obtain ⟨p2, q2, rfl, g2, m1, m2⟩ := call2_inv hc2
      obtain ⟨h1, h2⟩ := and2 h
      exact pQ_rng2 (S.b b_range g2) m1 m2 (okE lo S x h1) (okE hi S y h2)
    · split at h
      · rename_i y hc2
        obtain ⟨p2, q2, rfl, g2, m1⟩ := call1_inv hc2
        obtain ⟨h1, h2⟩ := and2 h
        rw [isZero_eq h1]
        exact pQ_rng1 (S.b b_range g2) m1 (okE hi S y h2)
      · exact ff h
  | .rng3 lo hi st, X, W, c, S, t, e, h => by
    cases e with
    | Call fe es kw p =>
      cases fe with
      | Name y p2 =>
        rcases es with _ | ⟨a, _ | ⟨b, _ | ⟨d, _ | ⟨_, _⟩⟩⟩⟩ <;> rcases kw with _ | ⟨_, _⟩ <;> try exact ff h
        obtain ⟨h, h8⟩ := and2 (show (decide (y = ("range" : Str)) && glC c "range" && notStar a && notStar b && notStar d && ckE lo c a && ckE hi c b && ckE st c d) = true from h)
        obtain ⟨h, h7⟩ := and2 h
        obtain ⟨h, h6⟩ := and2 h
        obtain ⟨h, h5⟩ := and2 h
        obtain ⟨h, h4⟩ := and2 h
        obtain ⟨h, h3⟩ := and2 h
        obtain ⟨h1, h2⟩ := and2 h
        have h1 := of_decide_eq_true h1
        subst h1
        exact pQ_rng3 (S.b b_range h2) h3 h4 h5 (okE lo S a h6) (okE hi S b h7) (okE st S d h8)
      | _ => exact ff h
    | _ => exact ff h
  | .enm l, X, W, c, S, t, e, h => by
    cases t with
    | Tuple elts k p =>
      replace h : (match call1 c "enumerate" e with | some x => ckL l c x | none => false) = true := h
      split at h
      · rename_i x hc
        obtain ⟨p2, q2, rfl, g1, n1⟩ := call1_inv hc
        exact pQ_enm S.g (S.b b_enumerate g1) n1 (okH l S x h)
      · exact ff h
    | _ => exact ff h
  | .zip a b, X, W, c, S, t, e, h => by
    cases t with
    | Tuple elts k p =>
      replace h : (match call2 c "zip" e with | some (x, y) => ckE a c x && ckE b c y | none => false) = true := h
      split at h
      · rename_i x y hc
        obtain ⟨p2, q2, rfl, g1, n1, n2⟩ := call2_inv hc
        obtain ⟨h1, h2⟩ := and2 h
        exact pQ_zip S.g (S.b b_zip g1) n1 n2 (okE a S x h1) (okE b S y h2)
      · exact ff h
    | _ => exact ff h
  | .prm l r, X, W, c, S, t, e, h => by
    cases r with
    | some _ => exact ff h
    | none =>
      replace h : (match call1 c "permutations" e with | some x => c.im.contains (("permutations" : Str), "itertools.permutations") && ckL l c x | none => false) = true := h
      split at h
      · rename_i x hc
        obtain ⟨p2, q2, rfl, g1, n1⟩ := call1_inv hc
        obtain ⟨h1, h2⟩ := and2 h
        exact PF.pQ_perm S.g ⟨S.gl g1, by rw [S.g.mg]; exact S.im _ _ (List.contains_iff_mem.mp h1)⟩ (by decide +kernel) n1 (okL l S x h2)
      · exact ff h
  | .prmR lo hi, X, W, c, S, t, e, h => by
    replace h : (match call1 c "permutations" e with
      | some r => c.im.contains (("permutations" : Str), "itertools.permutations") && (match call2 c "range" r with
        | some (x, y) => ckE lo c x && ckE hi c y
        | none => (match call1 c "range" r with
          | some y => isZero lo && ckE hi c y
          | none => false))
      | none => false) = true := h
    split at h
    · rename_i r hc
      obtain ⟨p2, q2, rfl, g1, n1⟩ := call1_inv hc
      have hh := and2 h
      clear h
      obtain ⟨h0, h⟩ := hh
      have B : PF.Pn X "permutations" "itertools.permutations" := ⟨S.gl g1, by rw [S.g.mg]; exact S.im _ _ (List.contains_iff_mem.mp h0)⟩
      split at h
      · rename_i x y hc2
        obtain ⟨p3, q3, rfl, g2, m1, m2⟩ := call2_inv hc2
        obtain ⟨h1, h2⟩ := and2 h
        exact PF.pQ_permR2 S.g B (by decide +kernel) (S.b b_range g2) m1 m2 (okE lo S x h1) (okE hi S y h2)
      · split at h
        · rename_i y hc2
          obtain ⟨p3, q3, rfl, g2, m1⟩ := call1_inv hc2
          obtain ⟨h1, h2⟩ := and2 h
          rw [isZero_eq h1]
          exact PF.pQ_permR1 S.g B (by decide +kernel) (S.b b_range g2) m1 (okE hi S y h2)
        · exact ff h
    · exact ff h
  | .cmb l r, X, W, c, S, t, e, h => by
    replace h : (match call2 c "combinations" e with | some (x, y) => c.im.contains (("combinations" : Str), "itertools.combinations") && pureX r && ckL l c x && ckE r c y | none => false) = true := h
    split at h
    · rename_i x y hc
      obtain ⟨p2, q2, rfl, g1, n1, n2⟩ := call2_inv hc
      obtain ⟨h, h4⟩ := and2 h
      obtain ⟨h, h3⟩ := and2 h
      obtain ⟨h1, h2⟩ := and2 h
      obtain ⟨tv, hp⟩ := pure_ok S h2 h4
      exact PF.pQ_comb S.g ⟨S.gl g1, by rw [S.g.mg]; exact S.im _ _ (List.contains_iff_mem.mp h1)⟩ (by decide +kernel) n1 n2 (okL l S x h3) hp
    · exact ff h
theorem okQM : ∀ (q : Sq) {X : Cx} {W : VW} {c : CC} (S : Sd F X C c W) (t e : Expr), monoQ q = true → ckQ q c t e = true → PI X t e (tQM F W (evQ C q))
  | .ls (.val x), X, W, c, S, t, e, m, h => pQM_ls S.g (pHM_val (okE x S e h))
  | .rng lo hi, X, W, c, S, t, e, m, h => by
    replace h : (match call2 c "range" e with
        | some (x, y) => ckE lo c x && ckE hi c y
        | none => (match call1 c "range" e with
          | some y => isZero lo && ckE hi c y
          | none => false)) = true := h
    split at h
    · rename_i x y hc2
      obtain ⟨p2, q2, rfl, g2, m1, m2⟩ := call2_inv hc2
      obtain ⟨h1, h2⟩ := and2 h
      exact pQM_rng2 (S.b b_range g2) m1 m2 (okE lo S x h1) (okE hi S y h2)
    · split at h
      · rename_i y hc2
        obtain ⟨p2, q2, rfl, g2, m1⟩ := call1_inv hc2
        obtain ⟨h1, h2⟩ := and2 h
        rw [isZero_eq h1]
        exact pQM_rng1 (S.b b_range g2) m1 (okE hi S y h2)
      · exact ff h
  | .ls (.new _), _, _, _, _, _, _, m, _ => ff m
  | .rng3 _ _ _, _, _, _, _, _, _, m, _ => ff m
  | .enm _, _, _, _, _, _, _, m, _ => ff m
  | .zip _ _, _, _, _, _, _, _, m, _ => ff m
  | .prm _ _, _, _, _, _, _, _, m, _ => ff m
  | .prmR _ _, _, _, _, _, _, _, m, _ => ff m
  | .cmb _ _, _, _, _, _, _, _, m, _ => ff m
theorem okO : ∀ (o : Option Ex) {X : Cx} {W : VW} {c : CC} (S : Sd F X C c W) (e : Option Expr), ckO o c e = true → PO X e (tM F (fun _ _ (i : Option Int) (j : Option Int) => i = j) W (evO C o))
  | none, X, W, c, S, e, h => by
    cases e with
    | none => exact po_ok trivial
    | some _ => exact ff h
  | some x, X, W, c, S, e, h => by
    cases e with
    | none => exact ff h
    | some e => exact po_ok (okE x S e h)
theorem okI : ∀ (o : Option Te) {X : Cx} {c : CC} (S : Sd F X C c noW) (e : List Expr), ckI o c e = true → PTs X e (tT F noW (evI C o))
  | none, X, c, S, e, h => by
    cases e with
    | nil => exact pts_ok trivial
    | cons _ _ => exact ff h
  | some t, X, c, S, e, h => by
    rcases e with _ | ⟨e, _ | ⟨_, _⟩⟩
    · exact ff h
    · exact pts_ok (okT t S e h)
    · exact ff h
theorem okEs : ∀ (xs : List Ex) {X : Cx} {W : VW} {c : CC} (S : Sd F X C c W) (es : List Expr), ckEs xs c es = true → PA X es (tA F W (evEs C xs)) ∧ es.all notStar = true ∧ (es = [] → xs = [])
  | [], X, W, c, S, es, h => by
    cases es with
    | nil => exact ⟨pA_nil, rfl, fun _ => rfl⟩
    | cons _ _ => exact ff h
  | x :: xs, X, W, c, S, es, h => by
    cases es with
    | nil => exact ff h
    | cons e es =>
      obtain ⟨h, h3⟩ := and2 (show (notStar e && ckE x c e && ckEs xs c es) = true from h)
      obtain ⟨h1, h2⟩ := and2 h
      obtain ⟨i1, i2, _⟩ := okEs xs S es h3
      exact ⟨pA_cons h1 (okE x S e h2) i1, by simp [h1, i2], fun z => by cases z⟩
theorem okKw : ∀ (xs : List Ex) {X : Cx} {W : VW} {c : CC} (S : Sd F X C c W) (kw : List Keyword), ckEs xs c (kw.map (·.value)) = true → PK X kw (tA F W (evEs C xs))
  | [], X, W, c, S, kw, h => by
    cases kw with
    | nil => exact pK_nil
    | cons _ _ => exact ff h
  | x :: xs, X, W, c, S, kw, h => by
    cases kw with
    | nil => exact ff h
    | cons k kw =>
      obtain ⟨nm, e, kp⟩ := k
      obtain ⟨h, h3⟩ := and2 (show (notStar e && ckE x c e && ckEs xs c (kw.map (·.value))) = true from h)
      obtain ⟨h1, h2⟩ := and2 h
      exact pK_cons (okE x S e h2) (okKw xs S kw h3)
theorem okD : ∀ (xs : List Ex) {X : Cx} {W : VW} {c : CC} (S : Sd F X C c W) (pos : Pos) (keys : List (Option Expr)) (values : List Expr), ckD xs c keys values = true → PPs X pos keys values (trs F W C xs)
  | [], X, W, c, S, pos, keys, values, h => by
    cases keys with
    | nil => cases values with
      | nil => exact pps_nil
      | cons _ _ => exact ff h
    | cons _ _ => exact ff h
  | [_], X, W, c, S, pos, keys, values, h => ff h
  | k :: v :: r, X, W, c, S, pos, keys, values, h => by
    cases keys with
    | nil => exact ff h
    | cons ke ks =>
      cases ke with
      | none => exact ff h
      | some ke =>
        cases values with
        | nil => exact ff h
        | cons ve vs =>
          obtain ⟨h, h3⟩ := and2 (show (ckE k c ke && ckE v c ve && ckD r c ks vs) = true from h)
          obtain ⟨h1, h2⟩ := and2 h
          exact pps_cons (okE k S ke h1) (okE v S ve h2) (okD r S pos ks vs h3)
end
end Cr

set_option maxRecDepth 100000
set_option maxHeartbeats 4000000
namespace Cr
open PySem PySem.Spec PyProof.Rows PySem.Calls L2
def notTupT : Expr → Bool
  | .Tuple _ _ _ => false
  | .List _ _ => false
  | _ => true
/-- some target's name is not a local -/
def hasCell (sc : Scope) : Expr → Bool
  | .Tuple ts _ _ => ts.any fun t => match t with
    | .Name x _ => !decide (sc.names.lookup x = some .local)
    | _ => true
  | _ => false
theorem filterMap_short {α β : Type} {f : α → Option β} {p : α → Bool} (hp : ∀ a, p a = true → f a = none) : ∀ {l : List α}, l.any p = true → (l.filterMap f).length < l.length
  | [], h => by cases h
  | a :: l, h => by
    have le : (l.filterMap f).length ≤ l.length := List.length_filterMap_le _ _
    rw [List.any_cons, Bool.or_eq_true] at h
    cases e : f a with
    | none => rw [List.filterMap_cons_none e]; exact Nat.lt_succ_of_le le
    | some b =>
      rw [List.filterMap_cons_some e]
      rcases h with h | h
      · rw [hp a h] at e; cases e
      · exact Nat.succ_lt_succ (filterMap_short hp h)
theorem stores_cell {e t : Expr} {sc : Scope} {env : PySem.Env} (he : env.scope = sc) (h : hasCell sc t = true) : swappedStores [t] e env = pure none := by
  subst he
  cases t with
  | Tuple ts k p =>
    cases e with
    | Tuple vs k2 p2 =>
      unfold swappedStores
      have hl : ∀ (l : Nat), ((ts.filterMap fun | .Name id pos => if env.kindOf id == some .local && pos.line == l then some id else none | _ => none).length != ts.length) = true := fun l => by
        have := filterMap_short (f := fun | .Name id pos => if env.kindOf id == some .local && pos.line == l then some id else none | _ => none) (l := ts) (fun t ht => by
          cases t with
          | Name x p =>
            have ht : (!decide (env.scope.names.lookup x = some .local)) = true := ht
            have hx : ¬ env.kindOf x = some .local := fun e => by
              have e : env.scope.names.lookup x = some .local := e
              rw [decide_eq_true e] at ht; cases ht
            have hk : (env.kindOf x == some NameKind.local) = false := by
              cases e : (env.kindOf x == some NameKind.local) with
              | false => rfl
              | true =>
                exfalso
                apply hx
                revert e
                generalize env.kindOf x = k
                cases k with
                | none => intro e; cases e
                | some k => cases k <;> intro e <;> first | rfl | cases e
            show (if (env.kindOf x == some NameKind.local && p.line == l) = true then some x else none) = none
            rw [hk]; rfl
          | _ => rfl) h
        exact bne_iff_ne.mpr (Nat.ne_of_lt this)
      simp only []
      split
      · rfl
      · split
        · rfl
        · exact (if_pos ((Bool.or_eq_true _ _).mpr (.inl (hl _)))).trans rfl
    | _ => rfl
  | _ => cases h
theorem stores_no2 {e t : Expr} (h : (notTupT t || noDisp e) = true) (env : PySem.Env) : swappedStores [t] e env = pure none := by
  cases hd : noDisp e with
  | true => exact stores_no hd env
  | false =>
    rw [hd, Bool.or_false] at h
    cases t <;> first | exact ff h | rfl
theorem stores_any {e t : Expr} {sc : Scope} {env : PySem.Env} (he : env.scope = sc) (h : (hasCell sc t || notTupT t || noDisp e) = true) : swappedStores [t] e env = pure none := by
  rw [Bool.or_assoc, Bool.or_eq_true] at h
  exact h.elim (stores_cell he) fun h => stores_no2 h env
mutual
def ckG : TgS → CC → Expr → Bool
  | .nm i, c, e => match e with
    | .Name x _ => nmOk c.N c.sc (fun _ => c.st) i x
    | _ => false
  | .sub o i, c, e => match e with
    | .Subscript oe ie _ => notSlice ie && ckE o c oe && ckE i c ie
    | _ => false
  | .tp ts, c, e => match e with
    | .Tuple es _ _ => decide (es.length = ts.length) && ckGs ts c es
    | _ => false
def ckGs : List TgS → CC → List Expr → Bool
  | [], _, [] => true
  | t :: ts, c, e :: es => notStar e && ckG t c e && ckGs ts c es
  | _, _, _ => false
end
def ckPar (is : List Nat) (xs : List Ex) (c : CC) : Expr → Expr → Bool
  | .Tuple [.Name x px, .Name y py] _ _, .Tuple [a, b] _ _ => match is, xs with
    | [i, j], [xa, xb] => nmOk c.N c.sc (fun _ => c.st) i x && nmOk c.N c.sc (fun _ => c.st) j y && !decide (i = j) && parOk c.sc x y px py a b && ckE xa c a && ckE xb c b
    | _, _ => false
  | _, _ => false
/-- name = a comprehension -/
def ckSet (i : Nat) (x : Ex) (c : CC) (y : Str) (py : Pos) : Expr → Bool
  | .ListComp ee [g] scope p => (match x with
    | .new (.lc elt tg it ifs own) => swapOk c.sc scope y py p && decide (g.is_async = 0) && blkC' c scope own && tgIn tg own && ckTg c.N (relS scope c.sc) (ownCell scope) tg g.target && notSet g.iter && ckQ it c g.target g.iter && ckI ifs (blkOf c scope) g.ifs && ckE elt (blkOf c scope) ee
    | _ => false)
  | .ListComp ee [g, g1] scope p => (match x with
    | .new (.lc2 elt tg it ifs tg1 it1 ifs1 own own1) => swapOk c.sc scope y py p && decide (g.is_async = 0) && decide (g1.is_async = 0) && blkC' c scope own && own1.all (fun i => own.contains i) && tgIn tg own && tgIn tg1 own1 && ckTg c.N (relS scope c.sc) (ownCell scope) tg g.target && ckTg c.N (relS scope c.sc) (ownCell scope) tg1 g1.target && notSet g.iter && notSet g1.iter && ckQ it c g.target g.iter && ckI ifs (blkOf c scope) g.ifs && monoQ it1 && ckQ it1 (blkOf c scope) g1.target g1.iter && ckI ifs1 (blkOf c scope) g1.ifs && ckE elt (blkOf c scope) ee
    | _ => false)
  | .DictComp ke ve [g] scope p => (match x with
    | .dc k v tg it own => swapOk c.sc scope y py p && decide (g.is_async = 0) && isNil g.ifs && blkC' c scope own && tgIn tg own && ckTg c.N (relS scope c.sc) (ownCell scope) tg g.target && notSet g.iter && ckQ it c g.target g.iter && ckE k (blkOf c scope) ke && ckE v (blkOf c scope) ve
    | _ => false)
  | e => noComp e && ckE x c e
/-- the name is no local: no store under a comprehension -/
def cellNm (sc : Scope) (y : Str) : Bool := !decide (sc.names.lookup y = some .local)
theorem swaps_cell {e : Expr} {y : Str} {py : Pos} {sc : Scope} {l : Nat} {env : PySem.Env} (he : env.scope = sc) (h : cellNm sc y = true) : swapsWith e (some (.Name y py)) l env = pure false := by
  subst he
  have hx : ¬ env.kindOf y = some .local := fun e => by
    have e : env.scope.names.lookup y = some .local := e
    unfold cellNm at h
    rw [decide_eq_true e] at h; cases h
  have hk : (env.kindOf y == some NameKind.local) = false := by
    cases e : (env.kindOf y == some NameKind.local) with
    | false => rfl
    | true =>
      exfalso
      apply hx
      revert e
      generalize env.kindOf y = k
      cases k with
      | none => intro e; cases e
      | some k => cases k <;> intro e <;> first | rfl | cases e
  cases e <;> first | rfl | (unfold swapsWith; simp only [hk, Bool.and_false, Bool.false_and]; done) | (unfold swapsWith; simp only [hk, Bool.and_false, Bool.false_and]; rfl)
def ckSetC (i : Nat) (x : Ex) (c : CC) (y : Str) (py : Pos) (e : Expr) : Bool := if cellNm c.sc y then ckE x c e else ckSet i x c y py e
mutual
def ckM : Sm → CC → Stmt → Bool
  | .asg (.nm i) x, c, s => match s with
    | .Assign [.Name y py] e _ => nmOk c.N c.sc (fun _ => c.st) i y && ckSetC i x c y py e
    | _ => false
  | .asg t x, c, s => match s with
    | .Assign [te] e _ => noComp e && (hasCell c.sc te || notTupT te || noDisp e) && notStar te && ckG t c te && ckE x c e
    | _ => false
  | .par is xs, c, s => match s with
    | .Assign [te] e _ => ckPar is xs c te e
    | _ => false
  | .exp x, c, s => match s with
    | .Expr e _ => noComp e && ckE x c e
    | _ => false
  | .ret x, c, s => match s with
    | .Return (some e) _ => ckE x c e
    | _ => false
  | .iff t a b, c, s => match s with
    | .If e p q _ => ckT t c e && ckMs a c p && ckMs b c q
    | _ => false
  | .for tg it b, c, s => match s with
    | .For te ie p q _ => isNil q && ckTg c.N c.sc (fun _ => c.st) tg te && notSet ie && ckQ it c te ie && ckMs b c p
    | _ => false
  | .whl t b, c, s => match s with
    | .While e p q _ => isNil q && ckT t c e && ckMs b c p
    | _ => false
  | .rse _ _, _, _ => true
def ckMs : List Sm → CC → List Stmt → Bool
  | [], _, [] => true
  | s :: r, c, t :: ts => ckM s c t && ckMs r c ts
  | _, _, _ => false
end
variable {F : Cf} {C : Cl} {X : Cx} {W : VW} {c : CC} {Wn : Nat}
theorem nm_of (S : Sd F X C c W) {i : Nat} {x : Str} (h : nmOk c.N c.sc (fun _ => c.st) i x = true) : X.N[i]? = some x ∧ Loc X.env.scope x ∧ (X.fn x = true ∨ X.env.scope.names.lookup x = some .local) :=
  nmOk_inv S.N S.sc (fun x hx => S.st hx x) h
mutual
theorem okG : ∀ (t : TgS) (S : Sd F X C c W) (e : Expr), ckG t c e = true → PG X e (gS F W C t)
  | .nm i, S, e, h => by
    cases e with
    | Name x p =>
      obtain ⟨h1, h2, h3⟩ := nm_of S h
      exact pG_nm S.nd' h1 h2 h3
    | _ => exact ff h
  | .sub o i, S, e, h => by
    cases e with
    | Subscript oe ie p =>
      obtain ⟨h, h3⟩ := and2 (show (notSlice ie && ckE o c oe && ckE i c ie) = true from h)
      obtain ⟨h1, h2⟩ := and2 h
      exact pG_sub S.g h1 (okE o S oe h2) (okE i S ie h3)
    | _ => exact ff h
  | .tp ts, S, e, h => by
    cases e with
    | Tuple es k p =>
      obtain ⟨h1, h2⟩ := and2 (show (decide (es.length = ts.length) && ckGs ts c es) = true from h)
      obtain ⟨i1, i2⟩ := okGs ts S es h2
      exact pG_tp S.g (of_decide_eq_true h1) i2 i1
    | _ => exact ff h
theorem okGs : ∀ (ts : List TgS) (S : Sd F X C c W) (es : List Expr), ckGs ts c es = true → PGs X es (gSs F W C ts) ∧ es.all notStar = true
  | [], S, es, h => by
    cases es with
    | nil => exact ⟨pGs_nil, rfl⟩
    | cons _ _ => exact ff h
  | t :: ts, S, es, h => by
    cases es with
    | nil => exact ff h
    | cons e es =>
      obtain ⟨h, h3⟩ := and2 (show (notStar e && ckG t c e && ckGs ts c es) = true from h)
      obtain ⟨h1, h2⟩ := and2 h
      obtain ⟨i1, i2⟩ := okGs ts S es h3
      exact ⟨pGs_cons h1 (okG t S e h2) i1, by simp [h1, i2]⟩
end
theorem par_read {xa xb : Ex} {i j : Nat} {D : Ends} {σ : L2.St} {H : Hp} (h : tO F W (evM C Wn (.par [i, j] [xa, xb])) D σ H) : tPar i j (tA F W (evEs C [xa, xb])) D σ H :=
  tO.step h fun env ds vs st1 ρ0 ρ1 H1 x he hs r q => by
    have q : PostS F W (if ds.length = [i, j].length then .nx (setAll [i, j] ds env) st1 else .err) ρ1 H1 D := q
    split at q
    · rename_i hl
      rcases ds with _ | ⟨d1, _ | ⟨d2, _ | ⟨_, _⟩⟩⟩ <;> simp at hl
      obtain ⟨v, t, rfl, r1, r⟩ := r.cons_inv
      obtain ⟨u, t, rfl, r2, r⟩ := r.cons_inv
      obtain rfl := r.nil_inv
      exact ⟨v, u, rfl, PostS.nx q hs ((he.set r1).set r2)⟩
    · exact False.elim q
theorem okPar (S : Sd F X C c W) {is : List Nat} {xs : List Ex} {te e : Expr} {pos : Pos} (h : ckPar is xs c te e = true) : PS X (.Assign [te] e pos) (tO F W (evM C Wn (.par is xs))) := by
  unfold ckPar at h
  split at h
  · rename_i x px y py k1 p1 a b k2 p2
    split at h
    · rename_i i j xa xb
      obtain ⟨h, h6⟩ := and2 h
      obtain ⟨h, h5⟩ := and2 h
      obtain ⟨h, h4⟩ := and2 h
      obtain ⟨h, h3⟩ := and2 h
      obtain ⟨h1, h2⟩ := and2 h
      obtain ⟨i1, -, -⟩ := nm_of S h1
      obtain ⟨j1, -, -⟩ := nm_of S h2
      have ⟨i2, j2⟩ : X.env.scope.names.lookup x = some .local ∧ X.env.scope.names.lookup y = some .local := by
        have h4' := h4
        unfold parOk at h4'
        simp only [Bool.and_eq_true, decide_eq_true_eq] at h4'
        rw [S.sc]
        exact ⟨h4'.1.1.1.1.1.1.1.2, h4'.1.1.1.1.1.1.2⟩
      have hij : i ≠ j := by simpa using h3
      have hst : notStar a = true ∧ notStar b = true := by
        unfold parOk at h4
        simp only [Bool.and_eq_true] at h4
        exact ⟨h4.1.1.1.2, h4.1.1.2⟩
      exact (ps_par S.g.calm S.nd' i1 j1 hij i2 j2 (pA_cons hst.1 (okE xa S a h5) (pA_cons hst.2 (okE xb S b h6) pA_nil)) (stores_par S.sc h4) (sole_no rfl _ _)).imp fun D σ H q => par_read q
    · cases h
  · cases h
theorem okSet (S : Sd F X C c W) {i : Nat} {x : Ex} {y : Str} {py pos : Pos} {e : Expr} (hi : nmOk c.N c.sc (fun _ => c.st) i y = true) (h : ckSet i x c y py e = true) : PS X (.Assign [.Name y py] e pos) (tO F W (evM C Wn (.asg (.nm i) x))) := by
  obtain ⟨i1, i2', i3⟩ := nm_of S hi
  unfold ckSet at h
  split at h
  · rename_i ee g scope p
    obtain ⟨te, ie, is, as⟩ := g
    split at h
    · rename_i elt tg it ifs own
      obtain ⟨h, h7⟩ := and2 h
      obtain ⟨h, h6⟩ := and2 h
      obtain ⟨h, h5⟩ := and2 h
      obtain ⟨h, h4⟩ := and2 h
      obtain ⟨h, h3⟩ := and2 h
      obtain ⟨h, h2⟩ := and2 h
      obtain ⟨h, h1⟩ := and2 h
      obtain ⟨h0, ha⟩ := and2 h
      have ha : as = 0 := of_decide_eq_true ha
      subst ha
      have i2 := by
        have h0' := h0
        unfold swapOk at h0'
        simp only [Bool.and_eq_true, decide_eq_true_eq] at h0'
        exact (show X.env.scope.names.lookup y = some .local by rw [S.sc]; exact h0'.1.1.2)
      have B := fun s H A cl fp => S.blk scope s H A cl fp
      have R := pS_setLc (W := W) (Wn := Wn) (own := ownOf c.N own) (tg := tg) (pos := p) (py := py) (spos := pos) S.g S.nd' i1 i2 (swapOk_lc S.sc h0) (okQ it S te ie h5) (S.blkOk h1) (fun s H A cl fp => by
        have := pg_ok (X := Blk X scope s H A cl fp) S.g.calm (B s H A cl fp).N S.nd (B s H A cl fp).sc (fun _ hx => hx) h3
        exact this) (fun s H A cl fp => okI ifs (B s H A cl fp) is h6) (fun s H A cl fp => okE elt (B s H A cl fp) ee h7) h4 (by rw [own_ix]; exact tgIn_of h2)
      rw [own_ix] at R
      exact R
    · cases h
  · rename_i ee g g1 scope p
    obtain ⟨te, ie, is, as⟩ := g
    obtain ⟨te1, ie1, is1, as1⟩ := g1
    split at h
    · rename_i elt tg it ifs tg1 it1 ifs1 own own1
      obtain ⟨h, h15⟩ := and2 h
      obtain ⟨h, h14⟩ := and2 h
      obtain ⟨h, h13⟩ := and2 h
      obtain ⟨h, h12⟩ := and2 h
      obtain ⟨h, h11⟩ := and2 h
      obtain ⟨h, h10⟩ := and2 h
      obtain ⟨h, h9⟩ := and2 h
      obtain ⟨h, h8⟩ := and2 h
      obtain ⟨h, h7⟩ := and2 h
      obtain ⟨h, h6⟩ := and2 h
      obtain ⟨h, h5⟩ := and2 h
      obtain ⟨h, h4⟩ := and2 h
      obtain ⟨h, h3⟩ := and2 h
      obtain ⟨h, h2⟩ := and2 h
      obtain ⟨h, h1⟩ := and2 h
      obtain ⟨h0, ha⟩ := and2 h
      have ha : as = 0 := of_decide_eq_true ha
      subst ha
      have h1 : as1 = 0 := of_decide_eq_true h1
      subst h1
      have i2 := by
        have h0' := h0
        unfold swapOk at h0'
        simp only [Bool.and_eq_true, decide_eq_true_eq] at h0'
        exact (show X.env.scope.names.lookup y = some .local by rw [S.sc]; exact h0'.1.1.2)
      have B := fun s H A cl fp => S.blk scope s H A cl fp
      have R := pS_setLc2 (W := W) (Wn := Wn) (own := ownOf c.N own) (tg := tg) (tg1 := tg1) (own1 := own1) (pos := p) (py := py) (spos := pos) S.g S.nd' i1 i2 (swapOk_lc S.sc h0) (okQ it S te ie h10) (S.blkOk h2) (by rw [own_ix]; exact fun i hi => by simpa using List.all_eq_true.mp h3 i hi) (fun s H A cl fp => by
          have := pg_ok (X := Blk X scope s H A cl fp) S.g.calm (B s H A cl fp).N S.nd (B s H A cl fp).sc (fun _ hx => hx) h6
          exact this) (fun s H A cl fp => okI ifs (B s H A cl fp) is h11) (fun s H A cl fp => okQM it1 (B s H A cl fp) te1 ie1 h12 h13) (fun s H A cl fp => by
          have := pg_ok (X := Blk X scope s H A cl fp) S.g.calm (B s H A cl fp).N S.nd (B s H A cl fp).sc (fun _ hx => hx) h7
          exact this) (fun s H A cl fp => okI ifs1 (B s H A cl fp) is1 h14) (fun s H A cl fp => okE elt (B s H A cl fp) ee h15) h8 h9 (by rw [own_ix]; exact tgIn_of h4) (tgIn_of h5)
      rw [own_ix] at R
      exact R
    · cases h
  · rename_i ke ve g scope p
    obtain ⟨te, ie, is, as⟩ := g
    split at h
    · rename_i k v tg it own
      obtain ⟨h, h7⟩ := and2 h
      obtain ⟨h, h6⟩ := and2 h
      obtain ⟨h, h5⟩ := and2 h
      obtain ⟨h, h4⟩ := and2 h
      obtain ⟨h, h3⟩ := and2 h
      obtain ⟨h, h2⟩ := and2 h
      obtain ⟨h, h1⟩ := and2 h
      obtain ⟨h, hb⟩ := and2 h
      obtain ⟨h0, ha⟩ := and2 h
      have ha : as = 0 := of_decide_eq_true ha
      subst ha
      cases is with
      | cons _ _ => exact ff hb
      | nil =>
        have i2 := by
          have h0' := h0
          unfold swapOk at h0'
          simp only [Bool.and_eq_true, decide_eq_true_eq] at h0'
          exact (show X.env.scope.names.lookup y = some .local by rw [S.sc]; exact h0'.1.1.2)
        have B := fun s H A cl fp => S.blk scope s H A cl fp
        have R := pS_setDc (W := W) (Wn := Wn) (own := ownOf c.N own) (tg := tg) (pos := p) (py := py) (spos := pos) S.g S.nd' i1 i2 (swapOk_dc S.sc h0) (okQ it S te ie h5) (S.blkOk h1) (fun s H A cl fp => by
          have := pg_ok (X := Blk X scope s H A cl fp) S.g.calm (B s H A cl fp).N S.nd (B s H A cl fp).sc (fun _ hx => hx) h3
          exact this) (fun s H A cl fp => okE k (B s H A cl fp) ke h6) (fun s H A cl fp => okE v (B s H A cl fp) ve h7) h4 (by rw [own_ix]; exact tgIn_of h2)
        rw [own_ix] at R
        exact R
    · cases h
  · obtain ⟨h1, h2⟩ := and2 h
    exact pS_set S.nd' i1 i2' i3 (okE x S e h2) (swaps_no h1 _ _ _)
theorem okSetC (S : Sd F X C c W) {i : Nat} {x : Ex} {y : Str} {py pos : Pos} {e : Expr} (hi : nmOk c.N c.sc (fun _ => c.st) i y = true) (h : ckSetC i x c y py e = true) : PS X (.Assign [.Name y py] e pos) (tO F W (evM C Wn (.asg (.nm i) x))) := by
  unfold ckSetC at h
  split at h
  · rename_i hc
    obtain ⟨i1, i2', i3⟩ := nm_of S hi
    exact pS_set S.nd' i1 i2' i3 (okE x S e h) (swaps_cell S.sc hc)
  · exact okSet S hi h
mutual
theorem okM (own : PassesOwn (model X.prog X.w) X.A X.env X.xe) : ∀ (m : Sm) (S : Sd F X C c W) (s : Stmt), ckM m c s = true → PS X s (tO F W (evM C Wn m))
  | .asg (.nm i) x, S, s, h => by
    cases s with
    | Assign ts e p =>
      rcases ts with _ | ⟨t, _ | ⟨_, _⟩⟩
      · exact ff h
      · cases t with
        | Name y py =>
          obtain ⟨h1, h2⟩ := and2 (show (nmOk c.N c.sc (fun _ => c.st) i y && ckSetC i x c y py e) = true from h)
          exact okSetC S h1 h2
        | _ => exact ff h
      · cases t <;> exact ff h
    | _ => exact ff h
  | .asg (.sub o i) x, S, s, h => by
    cases s with
    | Assign ts e p =>
      rcases ts with _ | ⟨t, _ | ⟨_, _⟩⟩
      · exact ff h
      · obtain ⟨h, h5⟩ := and2 (show (noComp e && (hasCell c.sc t || notTupT t || noDisp e) && notStar t && ckG (.sub o i) c t && ckE x c e) = true from h)
        obtain ⟨h, h4⟩ := and2 h
        obtain ⟨h, h3⟩ := and2 h
        obtain ⟨h1, h2⟩ := and2 h
        exact pS_asg (okE x S e h5) (okG _ S t h4) (sole_no h1 _ _) (stores_any S.sc h2) h3
      · exact ff h
    | _ => exact ff h
  | .asg (.tp ts') x, S, s, h => by
    cases s with
    | Assign ts e p =>
      rcases ts with _ | ⟨t, _ | ⟨_, _⟩⟩
      · exact ff h
      · obtain ⟨h, h5⟩ := and2 (show (noComp e && (hasCell c.sc t || notTupT t || noDisp e) && notStar t && ckG (.tp ts') c t && ckE x c e) = true from h)
        obtain ⟨h, h4⟩ := and2 h
        obtain ⟨h, h3⟩ := and2 h
        obtain ⟨h1, h2⟩ := and2 h
        exact pS_asg (okE x S e h5) (okG _ S t h4) (sole_no h1 _ _) (stores_any S.sc h2) h3
      · exact ff h
    | _ => exact ff h
  | .par is xs, S, s, h => by
    cases s with
    | Assign ts e p =>
      rcases ts with _ | ⟨t, _ | ⟨_, _⟩⟩
      · exact ff h
      · exact okPar S h
      · exact ff h
    | _ => exact ff h
  | .exp x, S, s, h => by
    cases s with
    | Expr e p =>
      obtain ⟨h1, h2⟩ := and2 (show (noComp e && ckE x c e) = true from h)
      exact pS_exp (okE x S e h2) (swaps_no h1 _ _ _)
    | _ => exact ff h
  | .ret x, S, s, h => by
    cases s with
    | Return v p =>
      cases v with
      | some e => exact pS_ret (okE x S e h)
      | none => exact ff h
    | _ => exact ff h
  | .iff t a b, S, s, h => by
    cases s with
    | If e p q pos =>
      obtain ⟨h, h3⟩ := and2 (show (ckT t c e && ckMs a c p && ckMs b c q) = true from h)
      obtain ⟨h1, h2⟩ := and2 h
      exact pS_if (okT t S e h1) (okMs own a S p h2) (okMs own b S q h3)
    | _ => exact ff h
  | .for tg it b, S, s, h => by
    cases s with
    | For te ie p q pos =>
      obtain ⟨h, h5⟩ := and2 (show (isNil q && ckTg c.N c.sc (fun _ => c.st) tg te && notSet ie && ckQ it c te ie && ckMs b c p) = true from h)
      obtain ⟨h, h4⟩ := and2 h
      obtain ⟨h, h3⟩ := and2 h
      obtain ⟨h1, h2⟩ := and2 h
      cases q with
      | cons _ _ => exact ff h1
      | nil => exact pS_for S.g own (okQ it S te ie h4) (pg_ok S.g.calm S.N S.nd S.sc (fun x hx => S.st hx x) h2) (okMs own b S p h5) h3
    | _ => exact ff h
  | .whl t b, S, s, h => by
    cases s with
    | While e p q pos =>
      obtain ⟨h, h3⟩ := and2 (show (isNil q && ckT t c e && ckMs b c p) = true from h)
      obtain ⟨h1, h2⟩ := and2 h
      cases q with
      | cons _ _ => exact ff h1
      | nil => exact pS_whl own (okT t S e h2) (okMs own b S p h3)
    | _ => exact ff h
  | .rse _ _, S, s, h => ⟨fun _ _ _ _ _ _ ⟨_, _, _, _, _, hp⟩ => False.elim hp⟩
theorem okMs (own : PassesOwn (model X.prog X.w) X.A X.env X.xe) : ∀ (ms : List Sm) (S : Sd F X C c W) (ss : List Stmt), ckMs ms c ss = true → PSs X ss (tO F W (evMs C Wn ms))
  | [], S, ss, h => by
    cases ss with
    | nil => exact pSs_nil
    | cons _ _ => exact ff h
  | m :: ms, S, ss, h => by
    cases ss with
    | nil => exact ff h
    | cons s ss =>
      obtain ⟨h1, h2⟩ := and2 (show (ckM m c s && ckMs ms c ss) = true from h)
      exact pSs_cons (okM own m S s h1) (okMs own ms S ss h2)
end
end Cr

set_option maxRecDepth 100000
set_option maxHeartbeats 4000000
namespace Cr
open PySem PySem.Spec PyProof.Rows PySem.Calls L2
/-- a def of the module and its text in the small language -/
structure DefOk (K : Frag) (mg : Str → Option Value) (ts : List (Str × Addr × Addr)) (fns : List (Str × Nat × List (List Str))) (im : List (Str × String)) (fw : Bool) (f : Str) (G : Fn) (kws : List (List Str)) : Prop where
  ex : ∃ (a : Addr) (oc : Value) (od : Option Addr) (osl : Array (Option Value)) (name qual : Str) (params : Arguments) (body : List Stmt) (scope : Scope) (dV kV doc pmo : Value) (an : Option Addr) (cdv ct : Value) (N : List Str),
    mg f = some (.ref a) ∧ PySem.W.keepIn K (.ref a) = true ∧ K.lookup a = some ⟨oc, od, .func (PySem.W.fnOf name qual params body scope dV kV doc pmo an cdv ct), osl⟩ ∧ PySem.W.codeIn K cdv qual = true ∧ FnScope N G.ps scope ∧ N.length = G.n ∧
    ckMs G.body { N := N, sc := scope, fns := fns, im := im, st := true, fw := fw } body = true ∧
    (fw = true → ∃ c P, cdv = .ref c ∧ (qual, c, P) ∈ ts) ∧
    (∀ (us : List Value), us.length = G.ps.length → bindArgs (PySem.W.fnOf name qual params body scope dV kV doc pmo an cdv ct) ⟨us, []⟩ = pure (G.ps.zip us)) ∧
    (∀ ks ∈ kws, ks ≠ [] ∧ ks.length = G.ps.length ∧ ∀ (ws us : List Value), ws.length = G.ps.length → ordL G.ps ks ws = some us → bindArgs (PySem.W.fnOf name qual params body scope dV kV doc pmo an cdv ct) ⟨[], ks.zip ws⟩ = pure (G.ps.zip us))
theorem re_start {K : Frag} {ρ : Rho} {H : Hp} {ds : List D} {vs : List V} {N : List Str} {n : Nat} (r : RlL K ρ H ds vs) (hn : N.length = n) : RE K ρ H (ds.map some ++ List.replicate (n - ds.length) none) (L2.start N vs) := by
  have hl := r.len
  refine ⟨?_, fun i d e => ?_⟩
  · unfold L2.start
    rw [List.length_append, List.length_append, List.length_map, List.length_map, List.length_replicate, List.length_replicate]
    omega
  · have hi : i < ds.length := by
      by_cases hi : i < ds.length
      · exact hi
      · rw [List.getElem?_append_right (by simpa using hi), List.getElem?_replicate] at e
        split at e <;> cases e
    rw [List.getElem?_append_left (by simpa using hi), List.getElem?_map] at e
    have e2 : ds[i]? = some d := by
      cases q : ds[i]? with
      | none => rw [q] at e; cases e
      | some x => rw [q] at e; cases e; rfl
    obtain ⟨v, h1, h2⟩ := r.get e2
    refine ⟨v, ?_, h2⟩
    unfold L2.start
    rw [List.getElem?_append_left (by rw [List.length_map]; omega), List.getElem?_map, h1]; rfl
/-- the tables' names -/
def tauOf (ts : List (Str × Addr × Addr)) : List (Addr × Str) := ts.map fun t => (t.2.2, (t.1 ++ ".<locals>.") ++ ("<lambda>" : Str))
theorem nodup_inj {α β : Type} {f : α → β} : ∀ {l : List α}, (l.map f).Nodup → ∀ {a b : α}, a ∈ l → b ∈ l → f a = f b → a = b
  | [], _, a, b, h, _, _ => absurd h List.not_mem_nil
  | x :: l, h, a, b, ha, hb, e => by
    rw [List.map_cons, List.nodup_cons] at h
    rcases List.mem_cons.mp ha with z1 | z1 <;> rcases List.mem_cons.mp hb with z2 | z2
    · rw [z1, z2]
    · exact absurd (List.mem_map.mpr ⟨b, z2, by rw [← e, z1]⟩) h.1
    · exact absurd (List.mem_map.mpr ⟨a, z1, by rw [e, z2]⟩) h.1
    · exact nodup_inj h.2 z1 z2 e
theorem callN_some {T : Str → Option Fn} {gc : Str → Option D} {Wn k : Nat} {f : Str} {G : Fn} {xs : List D} {ks : List Str} (hG : T f = some G) : callN T gc Wn (k + 1) f xs ks = match argsOf G.ps ks xs with
    | none => M.err
    | some ys => if ys.length = G.ps.length then runFn { call := callN T gc Wn k, gc := gc } Wn G ys else M.err := by
  show (match T f with | none => M.err | some F => match argsOf F.ps ks xs with | none => M.err | some ys => if ys.length = F.ps.length then runFn { call := callN T gc Wn k, gc := gc } Wn F ys else M.err) = _
  rw [hG]
theorem fns_ok {F : Cf} {P : Program} {w : World} {base : Heap} {T : Str → Option Fn} {gc : Str → Option D} {Wn : Nat} {ts : List (Str × Addr × Addr)} {fns : List (Str × Nat × List (List Str))} {im : List (Str × String)}
    (hF : F.τ = ⟨tauOf ts, none⟩) (hnd : (ts.map (·.2.2)).Nodup) (hTB : ∀ t ∈ ts, LamX.TabB base F.mg t.2.1 t.2.2) (hfw : ts ≠ [] → ∃ g bg sg cdv, FwD F g bg sg cdv ∧ ckMs fwProg (fwC { N := [], sc := sg, fns := [], im := im } sg) bg = true)
    (hT : ∀ f n kws, (f, n, kws) ∈ fns → ∃ G fw, T f = some G ∧ n = G.ps.length ∧ DefOk F.K F.mg ts fns im fw f G kws) (bare : ∀ x ∈ bnames, F.mg x = none)
    (hgc : ∀ x d, gc x = some d → ∃ v u, F.mg x = some u ∧ RelV v u ∧ ∀ ρ H, Rl F.K ρ H d v) (him : ∀ x T, (x, T) ∈ im → F.mg x = some (.type T)) :
    ∀ (k : Nat) f n kws, (f, n, kws) ∈ fns → FnK F P w base (3 * k) { call := callN T gc Wn k, gc := gc } f n kws
  | k, f, n, kws, hf => by
    obtain ⟨G, fw, hG, rfl, ⟨a, oc, od, osl, name, qual, params, body, scope, dV, kV, doc, pmo, an, cdv, ct, N, hm, hk, lk, hcd, S, hN, hck, hft, hb, hbk⟩⟩ := hT f n kws hf
    refine ⟨a, _, G.ps, hm, hk, rfl, ?_, fun s us hl => .of_eq (hb us hl), fun ks hks => ⟨(hbk ks hks).2.1, fun s ws us hl ho => .of_eq ((hbk ks hks).2.2 ws us hl ho)⟩, fun ks hks ds st => ?_, fun ds st hl => ?_⟩
    · cases k with
      | zero => exact ⟨fun vs H Q E h => h.1, fun A outer s H args us vs Q E _ _ _ _ _ ⟨_, ds, st, ρ, _, _, hp⟩ => False.elim hp⟩
      | succ k =>
        refine fnG_of (k := 3 * k + 2) lk hcd S (fun vs H Q E h => h.1) fun A outer s H vs Q E hr hgd ⟨hvl, ds, st, ρ, rd, hs, hp⟩ => ?_
        have hdl : ds.length = G.ps.length := by rw [rd.len, hvl]
        have e1 : callN T gc Wn (k + 1) f ds [] = runFn { call := callN T gc Wn k, gc := gc } Wn G ds := by
          show (match T f with | none => M.err | some F => match argsOf F.ps [] ds with | none => M.err | some ys => if ys.length = F.ps.length then runFn { call := callN T gc Wn k, gc := gc } Wn F ys else M.err) = _
          rw [hG]
          show (if ds.length = G.ps.length then runFn { call := callN T gc Wn k, gc := gc } Wn G ds else M.err) = _
          rw [if_pos hdl]
        have hp : Post F (Rl F.K) E (callN T gc Wn (k + 1) f ds [] st) ρ H Q := hp
        rw [e1] at hp
        have SD : Sd F (cxOf (L2.CX P w) P w F.K F.mg base N qual scope a cdv A outer s H E) { call := callN T gc Wn k, gc := gc } { N := N, sc := scope, fns := fns, im := im, st := true, fw := fw } E := {
          g := ⟨rfl, rfl, rfl, by have := hr.un; show (A.deeper _).units + 200 < cLine; omega, hgd⟩
          N := rfl
          nd := S.nd
          sc := rfl
          bare := bare
          gc := hgc
          fn := fun f' n' kws' hf' => ⟨3 * k, hr.mono (by omega), fns_ok hF hnd hTB hfw hT bare hgc him k f' n' kws' hf'⟩
          tk := takes_of (E₁ := fun e' s'' => L2.CX P w outer H s E e' s'') rfl rfl rfl rfl
          im := him
          st := fun _ _ => rfl
          clo := fun nm i h => by cases h
          fw := fun hfwt => by
            obtain ⟨c, P, hcP, hin⟩ := hft hfwt
            obtain ⟨g, bg, sg, cdg, FD, hcg⟩ := hfw (fun z => by rw [z] at hin; cases hin)
            have hmem : (P, (qual ++ ".<locals>.") ++ ("<lambda>" : Str)) ∈ F.τ.tabs := by rw [hF]; exact List.mem_map.mpr ⟨_, hin, rfl⟩
            refine ⟨by rw [hF], 3 * k, g, bg, sg, cdg, c, P, Wn, hr, fun f' n' kws' hf' => fns_ok hF hnd hTB hfw hT bare hgc him k f' n' kws' hf', FD, hcP, hTB _ hin, hmem, fun p hp hpP => ?_, fun F' Z C' E' hK hmg own SZ => ?_⟩
            · rw [hF] at hp
              obtain ⟨t, ht, rfl⟩ := List.mem_map.mp hp
              have : t = (qual, c, P) := nodup_inj hnd ht hin hpP
              rw [this]; rfl
            · exact okMs (Wn := Wn) own fwProg { toSd0 := SZ, fw := fun h => by cases h } bg hcg }
        have own : PassesOwn (model P w) (A.deeper (envOfC qual scope s.heap.objs.size a cdv)) (envOfC qual scope s.heap.objs.size a cdv) (cxOf (L2.CX P w) P w F.K F.mg base N qual scope a cdv A outer s H E).xe := PassesOwn.leaving
        refine ⟨_, okMs (Wn := Wn) own G.body SD body hck, _, st, ρ, re_start rd hN, hs, ?_⟩
        rw [← hdl] at *
        unfold runFn at hp
        generalize evMs _ Wn G.body _ st = r at hp ⊢
        cases r with
        | nx env st' => exact fun ρ' H' σ' x s' _ => hp ρ' H' .non x s' rl_non
        | rt d st' => exact fun ρ' H' v x s' rv => hp ρ' H' v x s' rv
        | exc c fs env st' => exact hp
        | err => exact hp
    · obtain ⟨h0, hl, _⟩ := hbk ks hks
      cases ks with
      | nil => exact absurd rfl h0
      | cons q qs =>
        cases k with
        | zero => exact .inl rfl
        | succ k =>
          by_cases hd : ds.length = G.ps.length
          · have e1 : argsOf G.ps (q :: qs) ds = ordL G.ps (q :: qs) ds := by
              show (if ds.length = G.ps.length then ordL G.ps (q :: qs) ds else none) = _
              rw [if_pos hd]
            cases e2 : ordL G.ps (q :: qs) ds with
            | none => left; show callN T gc Wn (k + 1) f ds (q :: qs) st = _; rw [callN_some hG, e1, e2]
            | some es =>
              right
              refine ⟨es, hd, rfl, ?_⟩
              show callN T gc Wn (k + 1) f ds (q :: qs) st = callN T gc Wn (k + 1) f es [] st
              rw [callN_some hG, callN_some hG, e1, e2]
              rfl
          · left
            have e1 : argsOf G.ps (q :: qs) ds = none := by
              show (if ds.length = G.ps.length then ordL G.ps (q :: qs) ds else none) = _
              rw [if_neg hd]
            show callN T gc Wn (k + 1) f ds (q :: qs) st = _
            rw [callN_some hG, e1]
    · cases k with
      | zero => rfl
      | succ k =>
        show (match T f with | none => M.err | some F => match argsOf F.ps [] ds with | none => M.err | some ys => if ys.length = F.ps.length then runFn { call := callN T gc Wn k, gc := gc } Wn F ys else M.err) st = .err
        rw [hG]
        show (if ds.length = G.ps.length then runFn { call := callN T gc Wn k, gc := gc } Wn G ds else M.err) st = .err
        rw [if_neg hl]
/-- nothing is tracked but lists that are never written, and the tables -/
def OnlyT (ts : List (Str × Addr × Addr)) (H : Hp) : Prop := ∀ b, H b = none ∨ (∃ o xs, H b = some (.frz o (.lst xs))) ∨ ∃ t ∈ ts, t.2.2 = b ∧ H b = some (.tbl #[])
theorem law_callG {P : Program} {w : World} {K : Frag} {mg mb : Str → Option Value} {k : Nat} {fa a : Addr} {C : Cl} {f : Str} {kws : List (List Str)} {ts : List (Str × Addr × Addr)} {s₁ : Shared} {vs : List Value} {ns : List Int}
    (KX : K.In s₁.heap) (hns : s₁.heap.Ns mainGlobals mg) (hb : s₁.heap.Ns builtinsNs mb) (hbb : ∀ x : Str, x ≠ "__name__" → mb x = bootBuiltins x) (hlim : s₁.heap.NoLimit) (hg : s₁.gens = #[])
    (bare : ∀ t ∈ ts, s₁.heap.get? t.2.2 = some { cls := .none, data := .fields #[] }) (noK : ∀ t ∈ ts, K.lookup t.2.2 = none) (codes : ∀ t ∈ ts, PySem.W.CodeHd s₁.heap t.2.1 t.2.2)
    (bmod : ∃ (bm : Addr) (ob : Obj), mg "__builtins__" = some (.ref bm) ∧ bm ≠ builtinsNs ∧ s₁.heap.get? bm = some ob ∧ ob.cls = .type "module" ∧ ob.dict = some builtinsNs ∧ ob.data = .plain)
    (ha : s₁.heap.get? a = some { cls := .type "list", data := .seq vs.toArray }) (hi : IntsAre vs ns) (hl : ns.length ≤ sizeLine) (hr : Room k callerA)
    (hfa : mg f = some (.ref fa)) (FG : ∀ base : Heap, K.In base → base.Ns mainGlobals mg → (∀ t ∈ ts, LamX.TabB base mg t.2.1 t.2.2) → FnK ⟨K, mg, ⟨tauOf ts, none⟩⟩ P w base k C f 1 kws)
    (hsp : ∀ H : Hp, OnlyT ts H → (∀ t ∈ ts, H t.2.2 = some (.tbl #[])) → SqL K H a (ns.map V.int) → spF ⟨K, mg, ⟨tauOf ts, none⟩⟩ (fun ds => C.call f ds []) 1 [.ref a] H (fun v _ => v = .bl true) fun _ _ _ => False)
    (hCX : ∀ H e s', L2.CX P w [] H s₁ (fun _ _ _ => False) e s' → False) :
    codeAny (model P w) callerA (.call (.ref fa) ⟨[.ref a], []⟩) (fun r s' => r = .ok (.ret (.bool true)) ∧ OldK s₁.heap s'.heap ∧ s'.os = s₁.os ∧ AllBare s'.gens) s₁ := by
  have rv := vals_ints hi
  have hlv := hi.length
  have offA : ∀ t ∈ ts, t.2.2 ≠ a := fun t ht z => by
    have e := bare t ht
    rw [z, ha] at e
    cases (congrArg Obj.data (Option.some.inj e) : Data.seq vs.toArray _ = Data.fields #[])
  -- whatever is tracked: the script, or one of the tables
  have main : ∀ H : Hp, OnlyT ts H → (∀ t ∈ ts, H t.2.2 = some (.tbl #[])) → SqL K H a (ns.map V.int) → HOk P w H s₁.heap → (∀ b, H b ≠ none → b = a ∨ ∃ t ∈ ts, t.2.2 = b) → (H a ≠ none → K.lookup a = none) →
      codeAny (model P w) callerA (.call (.ref fa) ⟨[.ref a], []⟩) (fun r s' => r = .ok (.ret (.bool true)) ∧ OldK s₁.heap s'.heap ∧ s'.os = s₁.os ∧ AllBare s'.gens) s₁ := fun H hO hTb hS hok hA hK => by
    -- an object of another kind is not tracked
    have free : ∀ {b : Addr} {o : Obj}, s₁.heap.get? b = some o → (∀ us m, o.data ≠ .seq us m) → o.data ≠ .fields #[] → H b = none := fun {b o} e n1 n2 => by
      cases q : H b with
      | none => rfl
      | some u =>
        rcases hA b (by rw [q]; simp) with z | ⟨t, ht, z⟩
        · rw [z, ha] at e
          cases e
          exact absurd rfl (n1 _ _)
        · rw [← z, bare t ht] at e
          cases e
          exact absurd rfl n2
    have dictFree : ∀ {b : Addr} {o : Obj} {es : Array DictEntry} {ep : Nat}, s₁.heap.get? b = some o → o.data = .dict es ep → H b = none := fun {b o es ep} e d =>
      free e (fun us m z => by rw [d] at z; cases z) (fun z => by rw [d] at z; cases z)
    have nsB : ∀ {b : Addr} {m : Str → Option Value}, s₁.heap.Ns b m → (hidT s₁.heap H).Ns b m := fun {b m} ⟨o, es, ep, e, d, r⟩ => ⟨o, es, ep, hidT_get e (dictFree e d), d, r⟩
    have KB : K.In (hidT s₁.heap H) := fun b o e => hidT_get (KX b o e) (by
      cases q : H b with
      | none => rfl
      | some u =>
        rcases hA b (by rw [q]; simp) with z | ⟨t, ht, z⟩
        · subst z
          rw [hK (by rw [q]; simp)] at e; cases e
        · rw [← z, noK t ht] at e; cases e)
    have lim' : (hidT s₁.heap H).NoLimit := let ⟨mc, h1, h2⟩ := hlim; ⟨mc, nsB h1, h2⟩
    have notG : ∀ {b : Addr} {o : Obj}, s₁.heap.get? b = some o → (∀ es ep, o.data ≠ .dict es ep) → mainGlobals ≠ b := fun {b o} e n z => by
      obtain ⟨o2, es, ep, e2, d2, _⟩ := hns
      rw [z, e] at e2
      cases e2
      exact n _ _ d2
    have tabs : ∀ t ∈ ts, LamX.TabB (hidT s₁.heap H) mg t.2.1 t.2.2 := fun t ht => by
      have bt := bare t ht
      refine ⟨?_, ?_, notG bt (fun es ep z => by cases z)⟩
      · obtain ⟨oc, us, fl, tfl, fg, tfg, inn, tx, ttx, g1, g2, g3, g4, rest⟩ := codes t ht
        refine ⟨oc, us, fl, tfl, fg, tfg, inn, tx, ttx, hidT_get g1 (free g1 (fun us' m z => by rw [g3] at z; cases z) fun z => ?_), g2, g3, g4, rest⟩
        rw [g3] at z
        cases z
        simp at g4
      · obtain ⟨bm, ob, b1, b2, b3, b4, b5, b6⟩ := bmod
        refine ⟨bm, ob, b1, b2, (notG b3 (fun es ep z => by rw [b6] at z; cases z)).symm, fun z => ?_, hidT_get b3 (free b3 (fun us m z => by rw [b6] at z; cases z) (fun z => by rw [b6] at z; cases z)), b4, b5, b6⟩
        rw [z, bt] at b3
        cases b3
        cases b6
    have e0 : Env0 P w K mg (hidT s₁.heap H) callerA [] s₁ H :=
      ⟨rfl, ⟨KB, nsB hns, ⟨mb, nsB hb, hbb⟩, lim'⟩, fun b o e => of_hidT e, Nat.le_of_eq (hidT_size _ _), trivial, fun b hb => absurd (show b ∈ ([] : List Addr) from hb) (by simp), hok, .of_eq hg⟩
    obtain ⟨a', fd, ps, hm, _, hps, G1, hb1, _⟩ := FG _ KB (nsB hns) tabs
    have ea : a' = fa := by
      have e := hm.symm.trans hfa
      cases e; rfl
    subst ea
    rcases ps with _ | ⟨x, _ | ⟨_, _⟩⟩ <;> simp at hps
    refine codeAny_mono (G1.run callerA [] s₁ H ⟨[.ref a], []⟩ [.ref a] [.ref a] _ _ hr rfl e0 (hb1 s₁ [.ref a] rfl) (.cons rfl .nil) (hsp H hO hTb hS)) fun r s' h => ?_
    cases r with
    | error e => exact (hCX H e s' h).elim
    | ok fl =>
      cases fl with
      | next => exact False.elim h
      | brk => exact False.elim h
      | cont => exact False.elim h
      | ret u =>
        obtain ⟨v, H', os, bareG, un, hok', r', q⟩ := h
        have q' : v = .bl true := q
        subst q'
        obtain rfl : u = Value.bool true := r'
        have same : ∀ b o, (∀ t ∈ ts, t.2.2 ≠ b) → s₁.heap.get? b = some o → s'.heap.get? b = some o := fun b o nb e => by
          cases q : H b with
          | none => exact un.keep b o e q (by intro z; exact absurd (show b ∈ ([] : List Addr) from z) (by simp)) (by simp)
          | some u =>
            rcases hO b with z | ⟨ob, xs, z⟩ | ⟨t, ht, z, _⟩
            · rw [q] at z; cases z
            · obtain ⟨e1, _⟩ := hok b _ z
              obtain ⟨e2, _⟩ := hok' b _ (un.frzs b ob _ z)
              rw [e] at e1; cases e1
              exact e2
            · exact absurd z (nb t ht)
        have grown : ∀ t ∈ ts, ∃ more : Array Value, s'.heap.get? t.2.2 = some { cls := .none, data := .fields more } := fun t ht => by
          obtain ⟨more, z⟩ := un.tbls t.2.2 #[] (hTb t ht)
          exact ⟨_, hok' _ _ z⟩
        refine ⟨rfl, ⟨fun b o e => ?_, fun b o e => ?_⟩, os, bareG⟩
        · by_cases hb : ∃ t ∈ ts, t.2.2 = b
          · obtain ⟨t, ht, rfl⟩ := hb
            obtain ⟨more, hm⟩ := grown t ht
            rw [bare t ht] at e
            cases e
            exact .inr (.inl ⟨((codes t ht).tab (bare t ht)).isCodeTable, rfl, #[], more, rfl, by rw [Array.empty_append]; exact hm⟩)
          · exact .inl (same b o (fun t ht z => hb ⟨t, ht, z⟩) e)
        · by_cases hb : ∃ t ∈ ts, t.2.2 = b
          · obtain ⟨t, ht, rfl⟩ := hb
            obtain ⟨more, hm⟩ := grown t ht
            exact ⟨_, hm⟩
          · exact ⟨o, same b o (fun t ht z => hb ⟨t, ht, z⟩) e⟩
  let tb : Hp := fun b => if b ∈ ts.map (·.2.2) then some (.tbl #[]) else none
  have tbIn : ∀ t ∈ ts, tb t.2.2 = some (.tbl #[]) := fun t ht => if_pos (List.mem_map.mpr ⟨t, ht, rfl⟩)
  have tbOr : ∀ b, tb b = none ∨ ∃ t ∈ ts, t.2.2 = b ∧ tb b = some (.tbl #[]) := fun b => by
    by_cases h : b ∈ ts.map (·.2.2)
    · obtain ⟨t, ht, e⟩ := List.mem_map.mp h
      exact .inr ⟨t, ht, e, if_pos h⟩
    · exact .inl (if_neg h)
  have tbA : tb a = none := by
    rcases tbOr a with h | ⟨t, ht, e, _⟩
    · exact h
    · exact absurd e (offA t ht)
  cases hk : K.lookup a with
  | some o =>
    have e := KX a o hk
    rw [ha] at e; cases e
    refine main tb (fun b => ?_) tbIn (.inr ⟨_, vs.toArray, _, hk, rfl, rfl, rfl, by rw [List.size_toArray, hlv]; exact hl, by simpa using rv⟩) (fun b u z => ?_) (fun b z => ?_) fun z => absurd tbA z
    · rcases tbOr b with h | h
      · exact .inl h
      · exact .inr (.inr h)
    · rcases tbOr b with h | ⟨t, ht, h, h2⟩
      · rw [h] at z; cases z
      · rw [h2] at z
        cases z
        rw [← h]
        exact bare t ht
    · rcases tbOr b with h | ⟨t, ht, h, h2⟩
      · exact absurd h z
      · exact .inr ⟨t, ht, h⟩
  | none =>
    let hs : HO := .frz { cls := .type "list", data := .seq vs.toArray } (.lst (ns.map V.int))
    refine main (upd tb a hs) (fun b => ?_) (fun t ht => ?_) (.inl (.inr ⟨_, upd_same⟩)) (fun b u z => ?_) (fun b z => ?_) fun _ => hk
    · by_cases h : b = a
      · exact .inr (.inl ⟨_, _, by rw [h, upd_same]⟩)
      · rw [upd_ne h]
        rcases tbOr b with h | h
        · exact .inl h
        · exact .inr (.inr h)
    · rw [upd_ne (offA t ht)]
      exact tbIn t ht
    · by_cases h : b = a
      · rw [h, upd_same] at z
        cases z
        rw [h]
        exact ⟨ha, by rw [List.length_map]; exact hl, vs, _, rv, ha⟩
      · rw [upd_ne h] at z
        rcases tbOr b with h | ⟨t, ht, h, h2⟩
        · rw [h] at z; cases z
        · rw [h2] at z
          cases z
          rw [← h]
          exact bare t ht
    · by_cases h : b = a
      · exact .inl h
      · rw [upd_ne h] at z
        rcases tbOr b with h | ⟨t, ht, h, h2⟩
        · exact absurd h z
        · exact .inr ⟨t, ht, h⟩
/-- what is known of the tables -/
def TabsIn (q : Program) (K : Frag) (ts : List (Str × Addr × Addr)) : Prop := ∀ t ∈ ts, (∃ d, (recsOf q).find? (fun e => e.name == t.1) = some d) ∧ PySem.W.tabIn K t.1 = some t.2 ∧ K.lookup t.2.2 = none
theorem walk_ofG {l : PySem.W.OpenLaw} {n k : Nat} {q : Program} {loose : List Str} {XP : (Str → Option Value) → Heap → Prop} {YP : World → Heap → Prop} {d : DefRec} {K : Params → Frag} {C : Cl} {kws : List (List Str)}
    (hn : l.most = some n) (hn2 : n ≤ sizeLine) (hdf : d.params.defaults = []) (hr : Room k callerA)
    (hY : ∀ (w : World) (h : Heap), YP w h → (K w.params).In h)
    (hsp : ∀ (w : World) (mg : Str → Option Value) (ts : List (Str × Addr × Addr)) (H : Hp) (a : Addr) (ns : List Int), ns.length ≤ n → OnlyT ts H → (∀ t ∈ ts, H t.2.2 = some (.tbl #[])) → SqL (K w.params) H a (ns.map V.int) → spF ⟨K w.params, mg, ⟨tauOf ts, none⟩⟩ (fun ds => C.call d.name ds []) 1 [.ref a] H (fun v _ => v = .bl true) fun _ _ _ => False)
    (FG : ∀ (w : World) (mg : Str → Option Value) (h : Heap), (K w.params).In h → h.Ns mainGlobals mg → ∃ ts, TabsIn q (K w.params) ts ∧ ∀ base : Heap, (K w.params).In base → base.Ns mainGlobals mg → (∀ t ∈ ts, LamX.TabB base mg t.2.1 t.2.2) → FnK ⟨K w.params, mg, ⟨tauOf ts, none⟩⟩ l.prog w base k C d.name 1 kws) :
    PySem.W.WalkO q loose XP YP l.row.toRowW d [] (fun f vs => PySem.call f vs) := by
  refine Att.attach_call hn hdf fun w s₀ s₁ mg mb fa o pm cd doc a vs ns G Y ho hd hcd hmg hobj hints hlen hg => ?_
  have KX := hY w _ Y
  obtain ⟨ts, hts, hF⟩ := FG w mg _ KX G.T.g
  have tab : ∀ t ∈ ts, PySem.W.CodeHd s₁.heap t.2.1 t.2.2 ∧ s₁.heap.get? t.2.2 = some (PySem.W.tabObj #[]) := fun t ht => by
    obtain ⟨⟨d, hd⟩, h2, _⟩ := hts t ht
    exact PySem.W.tab_of G.T KX hd h2
  exact law_callG KX G.T.g G.T.b G.T.builtins G.T.nolimit hg (fun t ht => (tab t ht).2) (fun t ht => (hts t ht).2.2) (fun t ht => (tab t ht).1) G.T.bmain hobj hints (Nat.le_trans hlen hn2) hr hmg hF (fun H hO hT hS => hsp w mg ts H a ns hlen hO hT hS) fun H e s' ⟨_, _, _, _, _, _, _, _, _, _, _, _, z⟩ => z
/-- what is to be shown of the small language alone -/
theorem sp_law {K : Frag} {mg : Str → Option Value} {ts : List (Str × Addr × Addr)} {T : Str → Option Fn} {gc : Str → Option D} {Wn k : Nat} {f : Str} {H : Hp} {a : Addr} {ns : List Int} (hO : OnlyT ts H) (hT : ∀ t ∈ ts, H t.2.2 = some (.tbl #[])) (hS : SqL K H a (ns.map V.int)) (h : ∃ st, callN T gc Wn k f [.lit ns] [] [] = .ok (.bl true) st) :
    spF ⟨K, mg, ⟨tauOf ts, none⟩⟩ (fun ds => callN T gc Wn k f ds []) 1 [.ref a] H (fun v _ => v = .bl true) fun _ _ _ => False := by
  obtain ⟨st, e⟩ := h
  have hlit : LitD K H a (ns.map V.int) := by
    rcases hS with (q | q) | q
    · rcases hO a with z | ⟨o, xs, z⟩ | ⟨t, _, _, z⟩
      · rw [q] at z; cases z
      · rw [q] at z; cases z
      · rw [q] at z; cases z
    · exact .inl q
    · exact .inr fun H' => .inr q
  have tabs : TabX ⟨tauOf ts, none⟩ H := by
    refine ⟨fun p hp => ?_, fun b ps hb => ?_⟩
    · obtain ⟨t, ht, rfl⟩ := List.mem_map.mp hp
      exact LamX.TabS.nil (hT t ht)
    · rcases hO b with z | ⟨o, xs, z⟩ | ⟨t, ht, e1, z⟩
      · rw [hb] at z; cases z
      · rw [hb] at z; cases z
      · exact ⟨_, List.mem_map.mpr ⟨t, ht, by rw [e1]⟩⟩
  refine ⟨rfl, [.lit ns], [], [], RlL.cons (by unfold Rl; exact ⟨a, rfl, hlit⟩) RlL.nil, ⟨rfl, fun l o b h => by simp at h, fun l m o u b h => by simp at h, tabs, fun x hx => by cases hx⟩, ?_⟩
  show Post _ (Rl K) _ (callN T gc Wn k f [.lit ns] [] []) [] H _
  rw [e]
  exact fun ρ' H' v _ _ r => r.bl
theorem code_of_tab {K : Frag} {x name qual : Str} {f c P : Addr} {oc : Value} {od an : Option Addr} {params : Arguments} {body : List Stmt} {scope : Scope} {dV kV doc pm cd ct : Value} {sl : Array (Option Value)} (a : PySem.W.nsIn K mainGlobals x = some (some (.ref f)))
    (l : K.lookup f = some ⟨oc, od, .func (PySem.W.fnOf name qual params body scope dV kV doc pm an cd ct), sl⟩) (t : PySem.W.tabIn K x = some (c, P)) : cd = .ref c := by
  unfold PySem.W.tabIn at t
  rw [a] at t
  dsimp only at t
  rw [l] at t
  dsimp only at t
  cases cd with
  | ref c2 =>
    dsimp only at t
    split at t
    · split at t
      · cases t; rfl
      · cases t
    · cases t
  | _ => cases t
end Cr

set_option maxRecDepth 100000
namespace Cr
open PySem
@[irreducible] def Ok {α : Type} (m : Rs α) (P : α → Store → Prop) : Prop := match m with
  | .ok a st => P a st
  | _ => False
@[irreducible] def OkS (o : Os) (N : Env → Store → Prop) (R : D → Store → Prop) : Prop := match o with
  | .nx e s => N e s
  | .rt d s => R d s
  | _ => False
theorem Ok.mk {α : Type} {a : α} {st : Store} {P : α → Store → Prop} (h : P a st) : Ok (.ok a st) P := by unfold Ok; exact h
theorem Ok.of {α : Type} {a : α} {st : Store} {P : α → Store → Prop} (h : Ok (.ok a st) P) : P a st := by unfold Ok at h; exact h
theorem Ok.noE {α : Type} {P : α → Store → Prop} (h : Ok (.err : Rs α) P) : False := by unfold Ok at h; exact h
theorem Ok.noX {α : Type} {P : α → Store → Prop} {c fs s} (h : Ok (.exc c fs s : Rs α) P) : False := by unfold Ok at h; exact h
theorem OkS.mkN {e : Env} {s : Store} {N : Env → Store → Prop} {R : D → Store → Prop} (h : N e s) : OkS (.nx e s) N R := by unfold OkS; exact h
theorem OkS.ofN {e : Env} {s : Store} {N : Env → Store → Prop} {R : D → Store → Prop} (h : OkS (.nx e s) N R) : N e s := by unfold OkS at h; exact h
theorem OkS.mkR {d : D} {s : Store} {N : Env → Store → Prop} {R : D → Store → Prop} (h : R d s) : OkS (.rt d s) N R := by unfold OkS; exact h
theorem OkS.ofR {d : D} {s : Store} {N : Env → Store → Prop} {R : D → Store → Prop} (h : OkS (.rt d s) N R) : R d s := by unfold OkS at h; exact h
theorem OkS.noE {N : Env → Store → Prop} {R : D → Store → Prop} (h : OkS .err N R) : False := by unfold OkS at h; exact h
theorem OkS.noX {N : Env → Store → Prop} {R : D → Store → Prop} {c fs e s} (h : OkS (.exc c fs e s) N R) : False := by unfold OkS at h; exact h
theorem Ok.it {α : Type} {a : α} {st : Store} {P : α → Store → Prop} : Ok (.ok a st) P ↔ P a st := ⟨Ok.of, Ok.mk⟩
theorem Ok.itE {α : Type} {P : α → Store → Prop} : Ok (.err : Rs α) P ↔ False := ⟨Ok.noE, False.elim⟩
theorem Ok.itX {α : Type} {P : α → Store → Prop} {c fs s} : Ok (.exc c fs s : Rs α) P ↔ False := ⟨Ok.noX, False.elim⟩
theorem OkS.itN {e : Env} {s : Store} {N : Env → Store → Prop} {R : D → Store → Prop} : OkS (.nx e s) N R ↔ N e s := ⟨OkS.ofN, OkS.mkN⟩
theorem OkS.itR {d : D} {s : Store} {N : Env → Store → Prop} {R : D → Store → Prop} : OkS (.rt d s) N R ↔ R d s := ⟨OkS.ofR, OkS.mkR⟩
theorem OkS.itE {N : Env → Store → Prop} {R : D → Store → Prop} : OkS .err N R ↔ False := ⟨OkS.noE, False.elim⟩
theorem OkS.itX {N : Env → Store → Prop} {R : D → Store → Prop} {c fs e s} : OkS (.exc c fs e s) N R ↔ False := ⟨OkS.noX, False.elim⟩
theorem Ok.imp {α : Type} {m : Rs α} {P P' : α → Store → Prop} (h : Ok m P) (k : ∀ a s, P a s → P' a s) : Ok m P' := by
  cases m with
  | ok a s => exact Ok.mk (k a s h.of)
  | err => exact h.noE.elim
  | exc _ _ _ => exact h.noX.elim
theorem OkS.imp {o : Os} {N N' : Env → Store → Prop} {R R' : D → Store → Prop} (h : OkS o N R) (k : ∀ e s, N e s → N' e s) (l : ∀ d s, R d s → R' d s) : OkS o N' R' := by
  cases o with
  | nx e s => exact OkS.mkN (k e s h.ofN)
  | rt d s => exact OkS.mkR (l d s h.ofR)
  | err => exact h.noE.elim
  | exc _ _ _ _ => exact h.noX.elim
theorem Ok.ex {α : Type} {m : Rs α} {P : α → Store → Prop} (h : Ok m P) : ∃ a s, m = .ok a s ∧ P a s := by
  cases m with
  | ok a s => exact ⟨a, s, rfl, h.of⟩
  | err => exact h.noE.elim
  | exc _ _ _ => exact h.noX.elim
section
variable {α β : Type} {st : Store} {C : Cl} {W : Nat} {env : Env} {N : Env → Store → Prop} {R : D → Store → Prop}
@[simp] theorem Ok_ok {a : α} {P : α → Store → Prop} : Ok (.ok a st) P ↔ P a st := by (first | exact Iff.rfl | exact Ok.it | exact OkS.itN | exact OkS.itR | exact Ok.itE | exact OkS.itE | exact Ok.itX | exact OkS.itX | exact Ok.itX.trans OkS.itX.symm | exact Ok.itE.trans OkS.itE.symm | exact Ok.itE.trans Ok.itE.symm | exact Ok.itX.trans Ok.itX.symm | exact OkS.itE.trans Ok.itE.symm | exact OkS.itX.trans Ok.itX.symm | exact OkS.itN.trans Ok.it.symm | exact OkS.itR.trans Ok.it.symm | exact Ok.it.trans OkS.itN.symm | exact Ok.it.trans OkS.itR.symm | exact OkS.itN.trans OkS.itN.symm | exact OkS.itE.trans OkS.itE.symm | exact OkS.itX.trans OkS.itX.symm | exact OkS.itR.trans OkS.itR.symm | exact Ok.it.symm | exact OkS.itN.symm | exact OkS.itR.symm | (simp only [alloc, Ok.it, OkS.itN, OkS.itR]; done) | (simp only [Ok.it, OkS.itN, OkS.itR]; exact Iff.rfl))
@[simp] theorem Ok_err {P : α → Store → Prop} : Ok (.err : Rs α) P ↔ False := by (first | exact Iff.rfl | exact Ok.it | exact OkS.itN | exact OkS.itR | exact Ok.itE | exact OkS.itE | exact Ok.itX | exact OkS.itX | exact Ok.itX.trans OkS.itX.symm | exact Ok.itE.trans OkS.itE.symm | exact Ok.itE.trans Ok.itE.symm | exact Ok.itX.trans Ok.itX.symm | exact OkS.itE.trans Ok.itE.symm | exact OkS.itX.trans Ok.itX.symm | exact OkS.itN.trans Ok.it.symm | exact OkS.itR.trans Ok.it.symm | exact Ok.it.trans OkS.itN.symm | exact Ok.it.trans OkS.itR.symm | exact OkS.itN.trans OkS.itN.symm | exact OkS.itE.trans OkS.itE.symm | exact OkS.itX.trans OkS.itX.symm | exact OkS.itR.trans OkS.itR.symm | exact Ok.it.symm | exact OkS.itN.symm | exact OkS.itR.symm | (simp only [alloc, Ok.it, OkS.itN, OkS.itR]; done) | (simp only [Ok.it, OkS.itN, OkS.itR]; exact Iff.rfl))
@[simp] theorem Ok_bnd {m : M α} {k : α → M β} {P : β → Store → Prop} : Ok (M.bnd m k st) P ↔ Ok (m st) fun a s => Ok (k a s) P := by
  unfold M.bnd
  cases m st <;> (first | exact Iff.rfl | exact Ok.it | exact OkS.itN | exact OkS.itR | exact Ok.itE | exact OkS.itE | exact Ok.itX | exact OkS.itX | exact Ok.itX.trans OkS.itX.symm | exact Ok.itE.trans OkS.itE.symm | exact Ok.itE.trans Ok.itE.symm | exact Ok.itX.trans Ok.itX.symm | exact OkS.itE.trans Ok.itE.symm | exact OkS.itX.trans Ok.itX.symm | exact OkS.itN.trans Ok.it.symm | exact OkS.itR.trans Ok.it.symm | exact Ok.it.trans OkS.itN.symm | exact Ok.it.trans OkS.itR.symm | exact OkS.itN.trans OkS.itN.symm | exact OkS.itE.trans OkS.itE.symm | exact OkS.itX.trans OkS.itX.symm | exact OkS.itR.trans OkS.itR.symm | exact Ok.it.symm | exact OkS.itN.symm | exact OkS.itR.symm | (simp only [alloc, Ok.it, OkS.itN, OkS.itR]; done) | (simp only [Ok.it, OkS.itN, OkS.itR]; exact Iff.rfl))
@[simp] theorem Ok_some {a : α} {P : α → Store → Prop} : Ok (M.opt (some a) st) P ↔ P a st := by (first | exact Iff.rfl | exact Ok.it | exact OkS.itN | exact OkS.itR | exact Ok.itE | exact OkS.itE | exact Ok.itX | exact OkS.itX | exact Ok.itX.trans OkS.itX.symm | exact Ok.itE.trans OkS.itE.symm | exact Ok.itE.trans Ok.itE.symm | exact Ok.itX.trans Ok.itX.symm | exact OkS.itE.trans Ok.itE.symm | exact OkS.itX.trans Ok.itX.symm | exact OkS.itN.trans Ok.it.symm | exact OkS.itR.trans Ok.it.symm | exact Ok.it.trans OkS.itN.symm | exact Ok.it.trans OkS.itR.symm | exact OkS.itN.trans OkS.itN.symm | exact OkS.itE.trans OkS.itE.symm | exact OkS.itX.trans OkS.itX.symm | exact OkS.itR.trans OkS.itR.symm | exact Ok.it.symm | exact OkS.itN.symm | exact OkS.itR.symm | (simp only [alloc, Ok.it, OkS.itN, OkS.itR]; done) | (simp only [Ok.it, OkS.itN, OkS.itR]; exact Iff.rfl))
@[simp] theorem OkS_nx {e : Env} : OkS (.nx e st) N R ↔ N e st := by (first | exact Iff.rfl | exact Ok.it | exact OkS.itN | exact OkS.itR | exact Ok.itE | exact OkS.itE | exact Ok.itX | exact OkS.itX | exact Ok.itX.trans OkS.itX.symm | exact Ok.itE.trans OkS.itE.symm | exact Ok.itE.trans Ok.itE.symm | exact Ok.itX.trans Ok.itX.symm | exact OkS.itE.trans Ok.itE.symm | exact OkS.itX.trans Ok.itX.symm | exact OkS.itN.trans Ok.it.symm | exact OkS.itR.trans Ok.it.symm | exact Ok.it.trans OkS.itN.symm | exact Ok.it.trans OkS.itR.symm | exact OkS.itN.trans OkS.itN.symm | exact OkS.itE.trans OkS.itE.symm | exact OkS.itX.trans OkS.itX.symm | exact OkS.itR.trans OkS.itR.symm | exact Ok.it.symm | exact OkS.itN.symm | exact OkS.itR.symm | (simp only [alloc, Ok.it, OkS.itN, OkS.itR]; done) | (simp only [Ok.it, OkS.itN, OkS.itR]; exact Iff.rfl))
@[simp] theorem OkS_rt {d : D} : OkS (.rt d st) N R ↔ R d st := by (first | exact Iff.rfl | exact Ok.it | exact OkS.itN | exact OkS.itR | exact Ok.itE | exact OkS.itE | exact Ok.itX | exact OkS.itX | exact Ok.itX.trans OkS.itX.symm | exact Ok.itE.trans OkS.itE.symm | exact Ok.itE.trans Ok.itE.symm | exact Ok.itX.trans Ok.itX.symm | exact OkS.itE.trans Ok.itE.symm | exact OkS.itX.trans Ok.itX.symm | exact OkS.itN.trans Ok.it.symm | exact OkS.itR.trans Ok.it.symm | exact Ok.it.trans OkS.itN.symm | exact Ok.it.trans OkS.itR.symm | exact OkS.itN.trans OkS.itN.symm | exact OkS.itE.trans OkS.itE.symm | exact OkS.itX.trans OkS.itX.symm | exact OkS.itR.trans OkS.itR.symm | exact Ok.it.symm | exact OkS.itN.symm | exact OkS.itR.symm | (simp only [alloc, Ok.it, OkS.itN, OkS.itR]; done) | (simp only [Ok.it, OkS.itN, OkS.itR]; exact Iff.rfl))
@[simp] theorem OkS_ofM {m : Rs α} {k : α → Store → Os} : OkS (Os.ofM env m k) N R ↔ Ok m fun a s => OkS (k a s) N R := by
  cases m <;> (first | exact Iff.rfl | exact Ok.it | exact OkS.itN | exact OkS.itR | exact Ok.itE | exact OkS.itE | exact Ok.itX | exact OkS.itX | exact Ok.itX.trans OkS.itX.symm | exact Ok.itE.trans OkS.itE.symm | exact Ok.itE.trans Ok.itE.symm | exact Ok.itX.trans Ok.itX.symm | exact OkS.itE.trans Ok.itE.symm | exact OkS.itX.trans Ok.itX.symm | exact OkS.itN.trans Ok.it.symm | exact OkS.itR.trans Ok.it.symm | exact Ok.it.trans OkS.itN.symm | exact Ok.it.trans OkS.itR.symm | exact OkS.itN.trans OkS.itN.symm | exact OkS.itE.trans OkS.itE.symm | exact OkS.itX.trans OkS.itX.symm | exact OkS.itR.trans OkS.itR.symm | exact Ok.it.symm | exact OkS.itN.symm | exact OkS.itR.symm | (simp only [alloc, Ok.it, OkS.itN, OkS.itR]; done) | (simp only [Ok.it, OkS.itN, OkS.itR]; exact Iff.rfl))
@[simp] theorem OkS_nil : OkS (evMs C W [] env st) N R ↔ N env st := by (first | exact Iff.rfl | exact Ok.it | exact OkS.itN | exact OkS.itR | exact Ok.itE | exact OkS.itE | exact Ok.itX | exact OkS.itX | exact Ok.itX.trans OkS.itX.symm | exact Ok.itE.trans OkS.itE.symm | exact Ok.itE.trans Ok.itE.symm | exact Ok.itX.trans Ok.itX.symm | exact OkS.itE.trans Ok.itE.symm | exact OkS.itX.trans Ok.itX.symm | exact OkS.itN.trans Ok.it.symm | exact OkS.itR.trans Ok.it.symm | exact Ok.it.trans OkS.itN.symm | exact Ok.it.trans OkS.itR.symm | exact OkS.itN.trans OkS.itN.symm | exact OkS.itE.trans OkS.itE.symm | exact OkS.itX.trans OkS.itX.symm | exact OkS.itR.trans OkS.itR.symm | exact Ok.it.symm | exact OkS.itN.symm | exact OkS.itR.symm | (simp only [alloc, Ok.it, OkS.itN, OkS.itR]; done) | (simp only [Ok.it, OkS.itN, OkS.itR]; exact Iff.rfl))
@[simp] theorem OkS_cons {m : Sm} {r : List Sm} : OkS (evMs C W (m :: r) env st) N R ↔ OkS (evM C W m env st) (fun e s => OkS (evMs C W r e s) N R) R := by
  show OkS (match evM C W m env st with | .nx env' st' => evMs C W r env' st' | o => o) N R ↔ _
  cases evM C W m env st <;> (first | exact Iff.rfl | exact Ok.it | exact OkS.itN | exact OkS.itR | exact Ok.itE | exact OkS.itE | exact Ok.itX | exact OkS.itX | exact Ok.itX.trans OkS.itX.symm | exact Ok.itE.trans OkS.itE.symm | exact Ok.itE.trans Ok.itE.symm | exact Ok.itX.trans Ok.itX.symm | exact OkS.itE.trans Ok.itE.symm | exact OkS.itX.trans Ok.itX.symm | exact OkS.itN.trans Ok.it.symm | exact OkS.itR.trans Ok.it.symm | exact Ok.it.trans OkS.itN.symm | exact Ok.it.trans OkS.itR.symm | exact OkS.itN.trans OkS.itN.symm | exact OkS.itE.trans OkS.itE.symm | exact OkS.itX.trans OkS.itX.symm | exact OkS.itR.trans OkS.itR.symm | exact Ok.it.symm | exact OkS.itN.symm | exact OkS.itR.symm | (simp only [alloc, Ok.it, OkS.itN, OkS.itR]; done) | (simp only [Ok.it, OkS.itN, OkS.itR]; exact Iff.rfl))
@[simp] theorem OkS_iff {c : Te} {a b : List Sm} : OkS (evM C W (.iff c a b) env st) N R ↔ Ok (evT C c env st) fun t s => OkS (if t then evMs C W a env s else evMs C W b env s) N R := by
  show OkS (Os.ofM _ _ _) _ _ ↔ _; rw [OkS_ofM]
@[simp] theorem OkS_ret {e : Ex} : OkS (evM C W (.ret e) env st) N R ↔ Ok (evE C e env st) R := by
  show OkS (Os.ofM _ _ _) _ _ ↔ _; rw [OkS_ofM]; (first | exact Iff.rfl | exact Ok.it | exact OkS.itN | exact OkS.itR | exact Ok.itE | exact OkS.itE | exact Ok.itX | exact OkS.itX | exact Ok.itX.trans OkS.itX.symm | exact Ok.itE.trans OkS.itE.symm | exact Ok.itE.trans Ok.itE.symm | exact Ok.itX.trans Ok.itX.symm | exact OkS.itE.trans Ok.itE.symm | exact OkS.itX.trans Ok.itX.symm | exact OkS.itN.trans Ok.it.symm | exact OkS.itR.trans Ok.it.symm | exact Ok.it.trans OkS.itN.symm | exact Ok.it.trans OkS.itR.symm | exact OkS.itN.trans OkS.itN.symm | exact OkS.itE.trans OkS.itE.symm | exact OkS.itX.trans OkS.itX.symm | exact OkS.itR.trans OkS.itR.symm | exact Ok.it.symm | exact OkS.itN.symm | exact OkS.itR.symm | (simp only [alloc, Ok.it, OkS.itN, OkS.itR]; done) | (simp only [Ok.it, OkS.itN, OkS.itR]; exact Iff.rfl))
@[simp] theorem OkS_exp {e : Ex} : OkS (evM C W (.exp e) env st) N R ↔ Ok (evE C e env st) fun _ s => N env s := by
  show OkS (Os.ofM _ _ _) _ _ ↔ _; rw [OkS_ofM]; (first | exact Iff.rfl | exact Ok.it | exact OkS.itN | exact OkS.itR | exact Ok.itE | exact OkS.itE | exact Ok.itX | exact OkS.itX | exact Ok.itX.trans OkS.itX.symm | exact Ok.itE.trans OkS.itE.symm | exact Ok.itE.trans Ok.itE.symm | exact Ok.itX.trans Ok.itX.symm | exact OkS.itE.trans Ok.itE.symm | exact OkS.itX.trans Ok.itX.symm | exact OkS.itN.trans Ok.it.symm | exact OkS.itR.trans Ok.it.symm | exact Ok.it.trans OkS.itN.symm | exact Ok.it.trans OkS.itR.symm | exact OkS.itN.trans OkS.itN.symm | exact OkS.itE.trans OkS.itE.symm | exact OkS.itX.trans OkS.itX.symm | exact OkS.itR.trans OkS.itR.symm | exact Ok.it.symm | exact OkS.itN.symm | exact OkS.itR.symm | (simp only [alloc, Ok.it, OkS.itN, OkS.itR]; done) | (simp only [Ok.it, OkS.itN, OkS.itR]; exact Iff.rfl))
@[simp] theorem OkS_asg {t : TgS} {e : Ex} : OkS (evM C W (.asg t e) env st) N R ↔ Ok (evE C e env st) fun d s => OkS (asgT C t d env s) N R := by
  show OkS (Os.ofM _ _ _) _ _ ↔ _; rw [OkS_ofM]
@[simp] theorem OkS_par {is : List Nat} {es : List Ex} : OkS (evM C W (.par is es) env st) N R ↔ Ok (evEs C es env st) fun xs s => OkS (if xs.length = is.length then .nx (setAll is xs env) s else .err) N R := by
  show OkS (Os.ofM _ _ _) _ _ ↔ _; rw [OkS_ofM]
@[simp] theorem OkS_nm {i : Nat} {d : D} : OkS (asgT C (.nm i) d env st) N R ↔ N (env.set i (some d)) st := by (first | exact Iff.rfl | exact Ok.it | exact OkS.itN | exact OkS.itR | exact Ok.itE | exact OkS.itE | exact Ok.itX | exact OkS.itX | exact Ok.itX.trans OkS.itX.symm | exact Ok.itE.trans OkS.itE.symm | exact Ok.itE.trans Ok.itE.symm | exact Ok.itX.trans Ok.itX.symm | exact OkS.itE.trans Ok.itE.symm | exact OkS.itX.trans Ok.itX.symm | exact OkS.itN.trans Ok.it.symm | exact OkS.itR.trans Ok.it.symm | exact Ok.it.trans OkS.itN.symm | exact Ok.it.trans OkS.itR.symm | exact OkS.itN.trans OkS.itN.symm | exact OkS.itE.trans OkS.itE.symm | exact OkS.itX.trans OkS.itX.symm | exact OkS.itR.trans OkS.itR.symm | exact Ok.it.symm | exact OkS.itN.symm | exact OkS.itR.symm | (simp only [alloc, Ok.it, OkS.itN, OkS.itR]; done) | (simp only [Ok.it, OkS.itN, OkS.itR]; exact Iff.rfl))
@[simp] theorem OkS_sub {o i : Ex} {d : D} : OkS (asgT C (.sub o i) d env st) N R ↔ Ok (evE C o env st) fun x s => Ok (evE C i env s) fun y s2 => Ok (setAt x y d s2) fun _ s3 => N env s3 := by
  show OkS (Os.ofM _ _ _) _ _ ↔ _; simp only [OkS_ofM]; (first | exact Iff.rfl | exact Ok.it | exact OkS.itN | exact OkS.itR | exact Ok.itE | exact OkS.itE | exact Ok.itX | exact OkS.itX | exact Ok.itX.trans OkS.itX.symm | exact Ok.itE.trans OkS.itE.symm | exact Ok.itE.trans Ok.itE.symm | exact Ok.itX.trans Ok.itX.symm | exact OkS.itE.trans Ok.itE.symm | exact OkS.itX.trans Ok.itX.symm | exact OkS.itN.trans Ok.it.symm | exact OkS.itR.trans Ok.it.symm | exact Ok.it.trans OkS.itN.symm | exact Ok.it.trans OkS.itR.symm | exact OkS.itN.trans OkS.itN.symm | exact OkS.itE.trans OkS.itE.symm | exact OkS.itX.trans OkS.itX.symm | exact OkS.itR.trans OkS.itR.symm | exact Ok.it.symm | exact OkS.itN.symm | exact OkS.itR.symm | (simp only [alloc, Ok.it, OkS.itN, OkS.itR]; done) | (simp only [Ok.it, OkS.itN, OkS.itR]; exact Iff.rfl))
@[simp] theorem OkS_tp2 {a b : TgS} {x y : D} : OkS (asgT C (.tp [a, b]) (.tup [x, y]) env st) N R ↔ OkS (asgT C a x env st) (fun e s => OkS (asgT C b y e s) N R) R := by
  show OkS (match asgT C a x env st with | .nx e s => (match asgT C b y e s with | .nx e s => .nx e s | o => o) | o => o) N R ↔ _
  cases asgT C a x env st with
  | nx e s => refine Iff.trans ?_ OkS.itN.symm; show OkS (match asgT C b y e s with | .nx e s => .nx e s | o => o) N R ↔ OkS (asgT C b y e s) N R; cases asgT C b y e s <;> (first | exact Iff.rfl | exact Ok.it | exact OkS.itN | exact OkS.itR | exact Ok.itE | exact OkS.itE | exact Ok.itX | exact OkS.itX | exact Ok.itX.trans OkS.itX.symm | exact Ok.itE.trans OkS.itE.symm | exact Ok.itE.trans Ok.itE.symm | exact Ok.itX.trans Ok.itX.symm | exact OkS.itE.trans Ok.itE.symm | exact OkS.itX.trans Ok.itX.symm | exact OkS.itN.trans Ok.it.symm | exact OkS.itR.trans Ok.it.symm | exact Ok.it.trans OkS.itN.symm | exact Ok.it.trans OkS.itR.symm | exact OkS.itN.trans OkS.itN.symm | exact OkS.itE.trans OkS.itE.symm | exact OkS.itX.trans OkS.itX.symm | exact OkS.itR.trans OkS.itR.symm | exact Ok.it.symm | exact OkS.itN.symm | exact OkS.itR.symm | (simp only [alloc, Ok.it, OkS.itN, OkS.itR]; done) | (simp only [Ok.it, OkS.itN, OkS.itR]; exact Iff.rfl))
  | _ => (first | exact Iff.rfl | exact Ok.it | exact OkS.itN | exact OkS.itR | exact Ok.itE | exact OkS.itE | exact Ok.itX | exact OkS.itX | exact Ok.itX.trans OkS.itX.symm | exact Ok.itE.trans OkS.itE.symm | exact Ok.itE.trans Ok.itE.symm | exact Ok.itX.trans Ok.itX.symm | exact OkS.itE.trans Ok.itE.symm | exact OkS.itX.trans Ok.itX.symm | exact OkS.itN.trans Ok.it.symm | exact OkS.itR.trans Ok.it.symm | exact Ok.it.trans OkS.itN.symm | exact Ok.it.trans OkS.itR.symm | exact OkS.itN.trans OkS.itN.symm | exact OkS.itE.trans OkS.itE.symm | exact OkS.itX.trans OkS.itX.symm | exact OkS.itR.trans OkS.itR.symm | exact Ok.it.symm | exact OkS.itN.symm | exact OkS.itR.symm | (simp only [alloc, Ok.it, OkS.itN, OkS.itR]; done) | (simp only [Ok.it, OkS.itN, OkS.itR]; exact Iff.rfl))
theorem Ok_run {F : Fn} {ys : List D} {P : D → Store → Prop} : Ok (runFn C W F ys st) P ↔ OkS (evMs C W F.body (ys.map some ++ List.replicate (F.n - ys.length) none) st) (fun _ s => P .non s) (fun d s => P d s) := by
  unfold runFn
  cases evMs C W F.body _ st <;> (first | exact Iff.rfl | exact Ok.it | exact OkS.itN | exact OkS.itR | exact Ok.itE | exact OkS.itE | exact Ok.itX | exact OkS.itX | exact Ok.itX.trans OkS.itX.symm | exact Ok.itE.trans OkS.itE.symm | exact Ok.itE.trans Ok.itE.symm | exact Ok.itX.trans Ok.itX.symm | exact OkS.itE.trans Ok.itE.symm | exact OkS.itX.trans Ok.itX.symm | exact OkS.itN.trans Ok.it.symm | exact OkS.itR.trans Ok.it.symm | exact Ok.it.trans OkS.itN.symm | exact Ok.it.trans OkS.itR.symm | exact OkS.itN.trans OkS.itN.symm | exact OkS.itE.trans OkS.itE.symm | exact OkS.itX.trans OkS.itX.symm | exact OkS.itR.trans OkS.itR.symm | exact Ok.it.symm | exact OkS.itN.symm | exact OkS.itR.symm | (simp only [alloc, Ok.it, OkS.itN, OkS.itR]; done) | (simp only [Ok.it, OkS.itN, OkS.itR]; exact Iff.rfl))
theorem Ok_call {T : Str → Option Fn} {gc : Str → Option D} {n : Nat} {f : Str} {F : Fn} {xs : List D} {P : D → Store → Prop} (hT : T f = some F) (hl : xs.length = F.ps.length) :
    Ok (callN T gc W (n + 1) f xs [] st) P ↔ OkS (evMs { call := callN T gc W n, gc := gc } W F.body (xs.map some ++ List.replicate (F.n - xs.length) none) st) (fun _ s => P .non s) (fun d s => P d s) := by
  rw [← Ok_run]
  have e : callN T gc W (n + 1) f xs [] = runFn { call := callN T gc W n, gc := gc } W F xs := by
    show (match T f with | none => M.err | some F => if xs.length = F.ps.length then runFn { call := callN T gc W n, gc := gc } W F xs else M.err) = _
    rw [hT]
    exact if_pos hl
  rw [e]
theorem call_kw {T : Str → Option Fn} {gc : Str → Option D} {n : Nat} {f : Str} {F : Fn} {xs ys : List D} {ks : List Str} (hT : T f = some F) (ha : argsOf F.ps ks xs = some ys) : callN T gc W (n + 1) f xs ks = callN T gc W (n + 1) f ys [] := by
  show (match T f with | none => M.err | some F => match argsOf F.ps ks xs with | none => M.err | some ys => if ys.length = F.ps.length then runFn { call := callN T gc W n, gc := gc } W F ys else M.err) = (match T f with | none => M.err | some F => if ys.length = F.ps.length then runFn { call := callN T gc W n, gc := gc } W F ys else M.err)
  rw [hT]
  show (match argsOf F.ps ks xs with | none => M.err | some ys => if ys.length = F.ps.length then runFn { call := callN T gc W n, gc := gc } W F ys else M.err) = _
  rw [ha]
end
section
variable {st : Store} {C : Cl} {env : Env} {P : D → Store → Prop}
@[simp] theorem ev_cst {d : D} : Ok (evE C (.cst d) env st) P ↔ P d st := by (first | exact Iff.rfl | exact Ok.it | exact OkS.itN | exact OkS.itR | exact Ok.itE | exact OkS.itE | exact Ok.itX | exact OkS.itX | exact Ok.itX.trans OkS.itX.symm | exact Ok.itE.trans OkS.itE.symm | exact Ok.itE.trans Ok.itE.symm | exact Ok.itX.trans Ok.itX.symm | exact OkS.itE.trans Ok.itE.symm | exact OkS.itX.trans Ok.itX.symm | exact OkS.itN.trans Ok.it.symm | exact OkS.itR.trans Ok.it.symm | exact Ok.it.trans OkS.itN.symm | exact Ok.it.trans OkS.itR.symm | exact OkS.itN.trans OkS.itN.symm | exact OkS.itE.trans OkS.itE.symm | exact OkS.itX.trans OkS.itX.symm | exact OkS.itR.trans OkS.itR.symm | exact Ok.it.symm | exact OkS.itN.symm | exact OkS.itR.symm | (simp only [alloc, Ok.it, OkS.itN, OkS.itR]; done) | (simp only [Ok.it, OkS.itN, OkS.itR]; exact Iff.rfl))
@[simp] theorem ev_var {i : Nat} : Ok (evE C (.var i) env st) P ↔ Ok (M.opt ((env[i]?).bind id) st) P := by (first | exact Iff.rfl | exact Ok.it | exact OkS.itN | exact OkS.itR | exact Ok.itE | exact OkS.itE | exact Ok.itX | exact OkS.itX | exact Ok.itX.trans OkS.itX.symm | exact Ok.itE.trans OkS.itE.symm | exact Ok.itE.trans Ok.itE.symm | exact Ok.itX.trans Ok.itX.symm | exact OkS.itE.trans Ok.itE.symm | exact OkS.itX.trans Ok.itX.symm | exact OkS.itN.trans Ok.it.symm | exact OkS.itR.trans Ok.it.symm | exact Ok.it.trans OkS.itN.symm | exact Ok.it.trans OkS.itR.symm | exact OkS.itN.trans OkS.itN.symm | exact OkS.itE.trans OkS.itE.symm | exact OkS.itX.trans OkS.itX.symm | exact OkS.itR.trans OkS.itR.symm | exact Ok.it.symm | exact OkS.itN.symm | exact OkS.itR.symm | (simp only [alloc, Ok.it, OkS.itN, OkS.itR]; done) | (simp only [Ok.it, OkS.itN, OkS.itR]; exact Iff.rfl))
@[simp] theorem ev_gc {x : Str} : Ok (evE C (.gc x) env st) P ↔ Ok (M.opt (C.gc x) st) P := by (first | exact Iff.rfl | exact Ok.it | exact OkS.itN | exact OkS.itR | exact Ok.itE | exact OkS.itE | exact Ok.itX | exact OkS.itX | exact Ok.itX.trans OkS.itX.symm | exact Ok.itE.trans OkS.itE.symm | exact Ok.itE.trans Ok.itE.symm | exact Ok.itX.trans Ok.itX.symm | exact OkS.itE.trans Ok.itE.symm | exact OkS.itX.trans Ok.itX.symm | exact OkS.itN.trans Ok.it.symm | exact OkS.itR.trans Ok.it.symm | exact Ok.it.trans OkS.itN.symm | exact Ok.it.trans OkS.itR.symm | exact OkS.itN.trans OkS.itN.symm | exact OkS.itE.trans OkS.itE.symm | exact OkS.itX.trans OkS.itX.symm | exact OkS.itR.trans OkS.itR.symm | exact Ok.it.symm | exact OkS.itN.symm | exact OkS.itR.symm | (simp only [alloc, Ok.it, OkS.itN, OkS.itR]; done) | (simp only [Ok.it, OkS.itN, OkS.itR]; exact Iff.rfl))
@[simp] theorem ev_tup {es : List Ex} : Ok (evE C (.tup es) env st) P ↔ Ok (evEs C es env st) fun xs s => Ok (boxed xs s) P := Ok_bnd
@[simp] theorem ev_new {n : Ne} : Ok (evE C (.new n) env st) P ↔ Ok (evN C n env st) fun xs s => P (.loc s.length) (s ++ [.lst xs]) := by show Ok (M.bnd _ _ _) _ ↔ _; simp only [Ok_bnd, alloc, Ok.it]
@[simp] theorem ev_op2 {o : Op2} {a b : Ex} : Ok (evE C (.op2 o a b) env st) P ↔ Ok (evE C a env st) fun x s => Ok (evE C b env s) fun y s => Ok (op2 o x y s) P := by
  show Ok (M.bnd _ _ _) _ ↔ _; simp only [Ok_bnd]
@[simp] theorem ev_f1 {f : F1} {a : Ex} : Ok (evE C (.f1 f a) env st) P ↔ Ok (evE C a env st) fun x s => Ok (f1 f x s) P := Ok_bnd
@[simp] theorem ev_f2 {f : F2} {a b : Ex} : Ok (evE C (.f2 f a b) env st) P ↔ Ok (evE C a env st) fun x s => Ok (evE C b env s) fun y s => Ok (f2 f x y s) P := by
  show Ok (M.bnd _ _ _) _ ↔ _; simp only [Ok_bnd]
@[simp] theorem ev_fs {f : FS} {a : Ls} : Ok (evE C (.fs f a) env st) P ↔ Ok (evS C a env st) fun x s => Ok (fs f x s) P := Ok_bnd
@[simp] theorem ev_cmp {o : Cp} {a b : Ex} : Ok (evE C (.cmp o a b) env st) P ↔ Ok (evE C a env st) fun x s => Ok (evE C b env s) fun y s => Ok (cmp o x y s) fun c s => P (.bl c) s := by
  show Ok (M.bnd _ _ _) _ ↔ _; simp only [Ok_bnd, Ok_ok, M.ret]
@[simp] theorem ev_chn {o o' : Cp} {a b c : Ex} : Ok (evE C (.chn o o' a b c) env st) P ↔ Ok (evE C a env st) fun x s => Ok (evE C b env s) fun y s => Ok (cmp o x y s) fun t s => if t = true then Ok (evE C c env s) (fun z s => Ok (cmp o' y z s) fun u s => P (.bl u) s) else P (.bl false) s := by
  show Ok (M.bnd _ _ _) _ ↔ _; simp only [Ok_bnd]
  constructor
  · intro h; refine h.imp fun x s h => h.imp fun y s h => h.imp fun t s h => ?_
    cases t
    · simpa using h
    · simpa using h
  · intro h; refine h.imp fun x s h => h.imp fun y s h => h.imp fun t s h => ?_
    cases t
    · simpa using h
    · simpa using h
@[simp] theorem ev_not {a : Ex} : Ok (evE C (.not a) env st) P ↔ Ok (evE C a env st) fun x s => Ok (truthy x s) fun t s => P (.bl (!t)) s := by
  show Ok (M.bnd _ _ _) _ ↔ _; simp only [Ok_bnd, Ok_ok, M.ret]
@[simp] theorem ev_and {a b : Ex} : Ok (evE C (.and a b) env st) P ↔ Ok (evE C a env st) fun x s => Ok (truthy x s) fun t s => if t = true then Ok (evE C b env s) P else P x s := by
  show Ok (M.bnd _ _ _) _ ↔ _; simp only [Ok_bnd]
  constructor
  · intro h; refine h.imp fun x s h => h.imp fun t s h => ?_
    cases t <;> simpa using h
  · intro h; refine h.imp fun x s h => h.imp fun t s h => ?_
    cases t <;> simpa using h
@[simp] theorem ev_or {a b : Ex} : Ok (evE C (.or a b) env st) P ↔ Ok (evE C a env st) fun x s => Ok (truthy x s) fun t s => if t = true then P x s else Ok (evE C b env s) P := by
  show Ok (M.bnd _ _ _) _ ↔ _; simp only [Ok_bnd]
  constructor
  · intro h; refine h.imp fun x s h => h.imp fun t s h => ?_
    cases t <;> simpa using h
  · intro h; refine h.imp fun x s h => h.imp fun t s h => ?_
    cases t <;> simpa using h
@[simp] theorem ev_ite {c : Te} {a b : Ex} : Ok (evE C (.ite c a b) env st) P ↔ Ok (evT C c env st) fun t s => if t = true then Ok (evE C a env s) P else Ok (evE C b env s) P := by
  show Ok (M.bnd _ _ _) _ ↔ _; simp only [Ok_bnd]
  constructor
  · intro h; refine h.imp fun t s h => ?_
    cases t <;> simpa using h
  · intro h; refine h.imp fun t s h => ?_
    cases t <;> simpa using h
@[simp] theorem ev_idx {a i : Ex} : Ok (evE C (.idx a i) env st) P ↔ Ok (evE C a env st) fun x s => Ok (evE C i env s) fun y s => Ok (idx x y s) P := by
  show Ok (M.bnd _ _ _) _ ↔ _; simp only [Ok_bnd]
@[simp] theorem ev_slc {a : Ex} {lo hi : Option Ex} : Ok (evE C (.slc a lo hi) env st) P ↔ Ok (evE C a env st) fun x s => Ok (evO C lo env s) fun l s => Ok (evO C hi env s) fun h s => Ok (slc x l h s) P := by
  show Ok (M.bnd _ _ _) _ ↔ _; simp only [Ok_bnd]
@[simp] theorem ev_rev {a : Ex} : Ok (evE C (.rev a) env st) P ↔ Ok (evE C a env st) fun x s => Ok (rev x s) P := Ok_bnd
@[simp] theorem ev_call {f : Str} {es : List Ex} {ks : List Str} : Ok (evE C (.call f es ks) env st) P ↔ Ok (evEs C es env st) fun xs s => Ok (C.call f xs ks s) P := Ok_bnd
@[simp] theorem ev_meth {m : Me} {o : Ex} {es : List Ex} : Ok (evE C (.meth m o es) env st) P ↔ Ok (evE C o env st) fun x s => Ok (kindIs (mkd m) x s) fun _ s => Ok (evEs C es env s) fun xs s => Ok (meth m (mkd m) x xs s) P := by
  show Ok (M.bnd _ _ _) _ ↔ _; simp only [Ok_bnd]
@[simp] theorem ev_meth0 {m : Me} {o : Ex} : Ok (evE C (.meth0 m o) env st) P ↔ Ok (evE C o env st) fun x s => Ok (kindIs .list x s) fun _ s => Ok (meth0 m .list x s) P := by
  show Ok (M.bnd _ _ _) _ ↔ _; simp only [Ok_bnd]
@[simp] theorem ev_ext {o : Ex} {l : Ls} : Ok (evE C (.ext o l) env st) P ↔ Ok (evE C o env st) fun x s => Ok (kindIs .list x s) fun _ s => Ok (evS C l env s) fun xs s => Ok (extend x xs s) P := by
  show Ok (M.bnd _ _ _) _ ↔ _; simp only [Ok_bnd]
@[simp] theorem ev_dc {k v : Ex} {tg : Tg} {it : Sq} {own : List Nat} : Ok (evE C (.dc k v tg it own) env st) P ↔ Ok (evQ C it env st) fun h s => Ok (compHD h (fun d => (bindTg tg d (wipe env own)).bnd fun env' => (evE C k env').bnd fun a => (evE C v env').bnd fun b => M.ret (a, b)) s) fun kvs s => P (.loc s.length) (s ++ [.dict kvs]) := by
  show Ok (M.bnd _ _ _) _ ↔ _; simp only [Ok_bnd]; (first | exact Iff.rfl | exact Ok.it | exact OkS.itN | exact OkS.itR | exact Ok.itE | exact OkS.itE | exact Ok.itX | exact OkS.itX | exact Ok.itX.trans OkS.itX.symm | exact Ok.itE.trans OkS.itE.symm | exact Ok.itE.trans Ok.itE.symm | exact Ok.itX.trans Ok.itX.symm | exact OkS.itE.trans Ok.itE.symm | exact OkS.itX.trans Ok.itX.symm | exact OkS.itN.trans Ok.it.symm | exact OkS.itR.trans Ok.it.symm | exact Ok.it.trans OkS.itN.symm | exact Ok.it.trans OkS.itR.symm | exact OkS.itN.trans OkS.itN.symm | exact OkS.itE.trans OkS.itE.symm | exact OkS.itX.trans OkS.itX.symm | exact OkS.itR.trans OkS.itR.symm | exact Ok.it.symm | exact OkS.itN.symm | exact OkS.itR.symm | (simp only [alloc, Ok.it, OkS.itN, OkS.itR]; done) | (simp only [Ok.it, OkS.itN, OkS.itR]; exact Iff.rfl))
@[simp] theorem ev_dct {es : List Ex} : Ok (evE C (.dct es) env st) P ↔ Ok (evEs C es env st) fun xs s => Ok (dispB xs s) fun kvs s => P (.loc s.length) (s ++ [.dict kvs]) := by
  show Ok (M.bnd _ _ _) _ ↔ _; simp only [Ok_bnd]; (first | exact Iff.rfl | exact Ok.it | exact OkS.itN | exact OkS.itR | exact Ok.itE | exact OkS.itE | exact Ok.itX | exact OkS.itX | exact Ok.itX.trans OkS.itX.symm | exact Ok.itE.trans OkS.itE.symm | exact Ok.itE.trans Ok.itE.symm | exact Ok.itX.trans Ok.itX.symm | exact OkS.itE.trans Ok.itE.symm | exact OkS.itX.trans Ok.itX.symm | exact OkS.itN.trans Ok.it.symm | exact OkS.itR.trans Ok.it.symm | exact Ok.it.trans OkS.itN.symm | exact Ok.it.trans OkS.itR.symm | exact OkS.itN.trans OkS.itN.symm | exact OkS.itE.trans OkS.itE.symm | exact OkS.itX.trans OkS.itX.symm | exact OkS.itR.trans OkS.itR.symm | exact Ok.it.symm | exact OkS.itN.symm | exact OkS.itR.symm | (simp only [alloc, Ok.it, OkS.itN, OkS.itR]; done) | (simp only [Ok.it, OkS.itN, OkS.itR]; exact Iff.rfl))
@[simp] theorem ev_dctT {k v : Ex} : Ok (evE C (.dctT k v) env st) P ↔ Ok (evE C k env st) fun x s => Ok (evE C v env s) fun y s => Ok (dctB x y s) fun ts s => P (.loc s.length) (s ++ [dtsO ts]) := by
  show Ok (M.bnd _ _ _) _ ↔ _; simp only [Ok_bnd]; (first | exact Iff.rfl | exact Ok.it | exact OkS.itN | exact OkS.itR | exact Ok.itE | exact OkS.itE | exact Ok.itX | exact OkS.itX | exact Ok.itX.trans OkS.itX.symm | exact Ok.itE.trans OkS.itE.symm | exact Ok.itE.trans Ok.itE.symm | exact Ok.itX.trans Ok.itX.symm | exact OkS.itE.trans Ok.itE.symm | exact OkS.itX.trans Ok.itX.symm | exact OkS.itN.trans Ok.it.symm | exact OkS.itR.trans Ok.it.symm | exact Ok.it.trans OkS.itN.symm | exact Ok.it.trans OkS.itR.symm | exact OkS.itN.trans OkS.itN.symm | exact OkS.itE.trans OkS.itE.symm | exact OkS.itX.trans OkS.itX.symm | exact OkS.itR.trans OkS.itR.symm | exact Ok.it.symm | exact OkS.itN.symm | exact OkS.itR.symm | (simp only [alloc, Ok.it, OkS.itN, OkS.itR]; done) | (simp only [Ok.it, OkS.itN, OkS.itR]; exact Iff.rfl))
@[simp] theorem ev_tupS {a : List Ex} {b : Ex} {c : List Ex} : Ok (evE C (.tupS a b c) env st) P ↔ Ok (evEs C a env st) fun xs s => Ok (evE C b env s) fun y s => Ok (itemsOf y s) fun ys s => Ok (evEs C c env s) fun zs s => Ok (boxed (xs ++ (ys ++ zs)) s) P := by
  show Ok (M.bnd _ _ _) _ ↔ _; simp only [Ok_bnd]
@[simp] theorem ev_minN {a : Ls} : Ok (evE C (.minN a) env st) P ↔ Ok (evS C a env st) fun xs s => Ok (minNB xs s) P := Ok_bnd
@[simp] theorem ev_isi {a : Ex} {t : Ty} : Ok (evE C (.isi a t) env st) P ↔ Ok (evE C a env st) fun x s => Ok (isTy x t s) fun b s => P (.bl b) s := by
  show Ok (M.bnd _ _ _) _ ↔ _; simp only [Ok_bnd, Ok_ok, M.ret]
@[simp] theorem ev_fwr {a b : Ex} {p q : Nat} : Ok (evE C (.fwr a b p q) env st) P ↔ Ok (evE C a env st) fun x s => Ok (tupB x s) fun xs s => Ok (fwL (fun d w => (evE C b ((env.set p (some d)).set q (some w))).bnd fun r => truthy r) 0 [] xs s) P := by
  show Ok (M.bnd _ _ _) _ ↔ _; simp only [Ok_bnd]
@[simp] theorem tupB_tup {xs : List D} {P : List D → Store → Prop} : Ok (tupB (.tup xs) st) P ↔ P xs st := Ok.it
@[simp] theorem ev_tupR {lo hi : Ex} : Ok (evE C (.tupR lo hi) env st) P ↔ Ok (evE C lo env st) fun x s => Ok (evE C hi env s) fun y s => Ok (rngB x y s) fun xs s => P (.tup xs) s := by
  show Ok (M.bnd _ _ _) _ ↔ _; simp only [Ok_bnd, Ok_ok, M.ret]
end
section
variable {st : Store} {C : Cl} {env : Env} {P : List D → Store → Prop}
@[simp] theorem evN_lst {es : List Ex} : Ok (evN C (.lst es) env st) P ↔ Ok (evEs C es env st) fun xs s => Ok (listed xs s) P := Ok_bnd
@[simp] theorem evN_fl {f : FL} {a : Ls} : Ok (evN C (.fl f a) env st) P ↔ Ok (evS C a env st) fun xs s => Ok (M.opt (fl f xs) s) P := Ok_bnd
@[simp] theorem evN_sset {a : Ex} : Ok (evN C (.sset a) env st) P ↔ Ok (evE C a env st) fun x s => Ok (kindIs .list x s) fun _ s => Ok (itemsOf x s) fun xs s => Ok (M.opt (ssetL xs) s) P := by
  show Ok (M.bnd _ _ _) _ ↔ _; simp only [Ok_bnd]
@[simp] theorem evN_lstS {a : List Ex} {b : Ex} {c : List Ex} : Ok (evN C (.lstS a b c) env st) P ↔ Ok (evEs C a env st) fun xs s => Ok (evE C b env s) fun y s => Ok (itemsOf y s) fun ys s => Ok (evEs C c env s) fun zs s => Ok (listed (xs ++ (ys ++ zs)) s) P := by
  show Ok (M.bnd _ _ _) _ ↔ _; simp only [Ok_bnd]
@[simp] theorem evN_lc2 {elt : Ex} {tg tg1 : Tg} {it it1 : Sq} {ifs ifs1 : Option Te} {own own1 : List Nat} : Ok (evN C (.lc2 elt tg it ifs tg1 it1 ifs1 own own1) env st) P ↔ Ok (evQ C it env st) fun h s => Ok (compHF h (fun d acc => (bindTg tg d (wipe env own)).bnd fun env' => (evI C ifs env').bnd fun t => if t then (evQ C it1 env').bnd fun h1 => compA h1 (fun d1 => (bindTg tg1 d1 (wipe env' own1)).bnd fun env2 => (evI C ifs1 env2).bnd fun t1 => if t1 then (evE C elt env2).bnd fun v => M.ret (some v) else M.ret none) acc else M.ret acc) s) P := Ok_bnd
@[simp] theorem evN_lc {elt : Ex} {tg : Tg} {it : Sq} {ifs : Option Te} {own : List Nat} : Ok (evN C (.lc elt tg it ifs own) env st) P ↔ Ok (evQ C it env st) fun h s => Ok (compH h (fun d => (bindTg tg d (wipe env own)).bnd fun env' => (evI C ifs env').bnd fun t => if t then (evE C elt env').bnd fun v => M.ret (some v) else M.ret none) s) P := Ok_bnd
@[simp] theorem evN_dsrt {a : Ex} : Ok (evN C (.dsrt a) env st) P ↔ Ok (evE C a env st) fun x s => Ok (dtsB x s) fun ts s => Ok (M.opt (srtT ts) s) P := by
  show Ok (M.bnd _ _ _) _ ↔ _; simp only [Ok_bnd]
@[simp] theorem evN_srtD {a : Ex} : Ok (evN C (.srtD a) env st) P ↔ Ok (evE C a env st) fun x s => Ok (kindIs .list x s) fun _ s => Ok (itemsOf x s) fun xs s => Ok (M.opt (sortDat xs) s) P := by
  show Ok (M.bnd _ _ _) _ ↔ _; simp only [Ok_bnd]
@[simp] theorem evN_revL {a : Ex} : Ok (evN C (.revL a) env st) P ↔ Ok (evE C a env st) fun x s => Ok (kindIs .list x s) fun _ s => Ok (itemsOf x s) fun xs s => P xs.reverse s := by
  show Ok (M.bnd _ _ _) _ ↔ _; simp only [Ok_bnd, Ok_ok, M.ret]
@[simp] theorem evN_rng {lo hi : Ex} : Ok (evN C (.rng lo hi) env st) P ↔ Ok (evE C lo env st) fun x s => Ok (evE C hi env s) fun y s => Ok (rngB x y s) P := by
  show Ok (M.bnd _ _ _) _ ↔ _; simp only [Ok_bnd]
@[simp] theorem evS_val {e : Ex} : Ok (evS C (.val e) env st) P ↔ Ok (evE C e env st) fun x s => Ok (itemsOf x s) P := Ok_bnd
@[simp] theorem evS_new {n : Ne} : Ok (evS C (.new n) env st) P ↔ Ok (evN C n env st) P := by (first | exact Iff.rfl | exact Ok.it | exact OkS.itN | exact OkS.itR | exact Ok.itE | exact OkS.itE | exact Ok.itX | exact OkS.itX | exact Ok.itX.trans OkS.itX.symm | exact Ok.itE.trans OkS.itE.symm | exact Ok.itE.trans Ok.itE.symm | exact Ok.itX.trans Ok.itX.symm | exact OkS.itE.trans Ok.itE.symm | exact OkS.itX.trans Ok.itX.symm | exact OkS.itN.trans Ok.it.symm | exact OkS.itR.trans Ok.it.symm | exact Ok.it.trans OkS.itN.symm | exact Ok.it.trans OkS.itR.symm | exact OkS.itN.trans OkS.itN.symm | exact OkS.itE.trans OkS.itE.symm | exact OkS.itX.trans OkS.itX.symm | exact OkS.itR.trans OkS.itR.symm | exact Ok.it.symm | exact OkS.itN.symm | exact OkS.itR.symm | (simp only [alloc, Ok.it, OkS.itN, OkS.itR]; done) | (simp only [Ok.it, OkS.itN, OkS.itR]; exact Iff.rfl))
@[simp] theorem evEs_nil : Ok (evEs C [] env st) P ↔ P [] st := by (first | exact Iff.rfl | exact Ok.it | exact OkS.itN | exact OkS.itR | exact Ok.itE | exact OkS.itE | exact Ok.itX | exact OkS.itX | exact Ok.itX.trans OkS.itX.symm | exact Ok.itE.trans OkS.itE.symm | exact Ok.itE.trans Ok.itE.symm | exact Ok.itX.trans Ok.itX.symm | exact OkS.itE.trans Ok.itE.symm | exact OkS.itX.trans Ok.itX.symm | exact OkS.itN.trans Ok.it.symm | exact OkS.itR.trans Ok.it.symm | exact Ok.it.trans OkS.itN.symm | exact Ok.it.trans OkS.itR.symm | exact OkS.itN.trans OkS.itN.symm | exact OkS.itE.trans OkS.itE.symm | exact OkS.itX.trans OkS.itX.symm | exact OkS.itR.trans OkS.itR.symm | exact Ok.it.symm | exact OkS.itN.symm | exact OkS.itR.symm | (simp only [alloc, Ok.it, OkS.itN, OkS.itR]; done) | (simp only [Ok.it, OkS.itN, OkS.itR]; exact Iff.rfl))
@[simp] theorem evEs_cons {e : Ex} {es : List Ex} : Ok (evEs C (e :: es) env st) P ↔ Ok (evE C e env st) fun x s => Ok (evEs C es env s) fun xs s => P (x :: xs) s := by
  show Ok (M.bnd _ _ _) _ ↔ _; simp only [Ok_bnd, Ok_ok, M.ret]
end
section
variable {st : Store} {C : Cl} {env : Env}
@[simp] theorem evT_val {e : Ex} {P : Bool → Store → Prop} : Ok (evT C (.val e) env st) P ↔ Ok (evE C e env st) fun x s => Ok (truthy x s) P := Ok_bnd
@[simp] theorem evT_not {a : Te} {P : Bool → Store → Prop} : Ok (evT C (.not a) env st) P ↔ Ok (evT C a env st) fun t s => P (!t) s := by
  show Ok (M.bnd _ _ _) _ ↔ _; simp only [Ok_bnd, Ok_ok, M.ret]
@[simp] theorem evT_and {a b : Te} {P : Bool → Store → Prop} : Ok (evT C (.and a b) env st) P ↔ Ok (evT C a env st) fun t s => if t = true then Ok (evT C b env s) P else P false s := by
  show Ok (M.bnd _ _ _) _ ↔ _; simp only [Ok_bnd]
  constructor
  · intro h; refine h.imp fun t s h => ?_
    cases t <;> simpa using h
  · intro h; refine h.imp fun t s h => ?_
    cases t <;> simpa using h
@[simp] theorem evT_or {a b : Te} {P : Bool → Store → Prop} : Ok (evT C (.or a b) env st) P ↔ Ok (evT C a env st) fun t s => if t = true then P true s else Ok (evT C b env s) P := by
  show Ok (M.bnd _ _ _) _ ↔ _; simp only [Ok_bnd]
  constructor
  · intro h; refine h.imp fun t s h => ?_
    cases t <;> simpa using h
  · intro h; refine h.imp fun t s h => ?_
    cases t <;> simpa using h
@[simp] theorem evI_none {P : Bool → Store → Prop} : Ok (evI C none env st) P ↔ P true st := by (first | exact Iff.rfl | exact Ok.it | exact OkS.itN | exact OkS.itR | exact Ok.itE | exact OkS.itE | exact Ok.itX | exact OkS.itX | exact Ok.itX.trans OkS.itX.symm | exact Ok.itE.trans OkS.itE.symm | exact Ok.itE.trans Ok.itE.symm | exact Ok.itX.trans Ok.itX.symm | exact OkS.itE.trans Ok.itE.symm | exact OkS.itX.trans Ok.itX.symm | exact OkS.itN.trans Ok.it.symm | exact OkS.itR.trans Ok.it.symm | exact Ok.it.trans OkS.itN.symm | exact Ok.it.trans OkS.itR.symm | exact OkS.itN.trans OkS.itN.symm | exact OkS.itE.trans OkS.itE.symm | exact OkS.itX.trans OkS.itX.symm | exact OkS.itR.trans OkS.itR.symm | exact Ok.it.symm | exact OkS.itN.symm | exact OkS.itR.symm | (simp only [alloc, Ok.it, OkS.itN, OkS.itR]; done) | (simp only [Ok.it, OkS.itN, OkS.itR]; exact Iff.rfl))
@[simp] theorem evI_some {t : Te} {P : Bool → Store → Prop} : Ok (evI C (some t) env st) P ↔ Ok (evT C t env st) P := by (first | exact Iff.rfl | exact Ok.it | exact OkS.itN | exact OkS.itR | exact Ok.itE | exact OkS.itE | exact Ok.itX | exact OkS.itX | exact Ok.itX.trans OkS.itX.symm | exact Ok.itE.trans OkS.itE.symm | exact Ok.itE.trans Ok.itE.symm | exact Ok.itX.trans Ok.itX.symm | exact OkS.itE.trans Ok.itE.symm | exact OkS.itX.trans Ok.itX.symm | exact OkS.itN.trans Ok.it.symm | exact OkS.itR.trans Ok.it.symm | exact Ok.it.trans OkS.itN.symm | exact Ok.it.trans OkS.itR.symm | exact OkS.itN.trans OkS.itN.symm | exact OkS.itE.trans OkS.itE.symm | exact OkS.itX.trans OkS.itX.symm | exact OkS.itR.trans OkS.itR.symm | exact Ok.it.symm | exact OkS.itN.symm | exact OkS.itR.symm | (simp only [alloc, Ok.it, OkS.itN, OkS.itR]; done) | (simp only [Ok.it, OkS.itN, OkS.itR]; exact Iff.rfl))
@[simp] theorem evO_none {P : Option Int → Store → Prop} : Ok (evO C none env st) P ↔ P none st := by (first | exact Iff.rfl | exact Ok.it | exact OkS.itN | exact OkS.itR | exact Ok.itE | exact OkS.itE | exact Ok.itX | exact OkS.itX | exact Ok.itX.trans OkS.itX.symm | exact Ok.itE.trans OkS.itE.symm | exact Ok.itE.trans Ok.itE.symm | exact Ok.itX.trans Ok.itX.symm | exact OkS.itE.trans Ok.itE.symm | exact OkS.itX.trans Ok.itX.symm | exact OkS.itN.trans Ok.it.symm | exact OkS.itR.trans Ok.it.symm | exact Ok.it.trans OkS.itN.symm | exact Ok.it.trans OkS.itR.symm | exact OkS.itN.trans OkS.itN.symm | exact OkS.itE.trans OkS.itE.symm | exact OkS.itX.trans OkS.itX.symm | exact OkS.itR.trans OkS.itR.symm | exact Ok.it.symm | exact OkS.itN.symm | exact OkS.itR.symm | (simp only [alloc, Ok.it, OkS.itN, OkS.itR]; done) | (simp only [Ok.it, OkS.itN, OkS.itR]; exact Iff.rfl))
@[simp] theorem evO_some {e : Ex} {P : Option Int → Store → Prop} : Ok (evO C (some e) env st) P ↔ Ok (evE C e env st) fun x s => Ok (intB x s) fun i s => P (some i) s := by
  show Ok (M.bnd _ _ _) _ ↔ _; simp only [Ok_bnd, Ok_ok, M.ret]
variable {P : Hd → Store → Prop}
@[simp] theorem evH_val {e : Ex} : Ok (evH C (.val e) env st) P ↔ Ok (evE C e env st) fun x s => Ok (hdOf x s) P := Ok_bnd
@[simp] theorem evH_new {n : Ne} : Ok (evH C (.new n) env st) P ↔ Ok (evN C n env st) fun xs s => P (.its xs) s := by
  show Ok (M.bnd _ _ _) _ ↔ _; simp only [Ok_bnd, Ok_ok, M.ret]
@[simp] theorem evQ_ls {l : Ls} : Ok (evQ C (.ls l) env st) P ↔ Ok (evH C l env st) P := by (first | exact Iff.rfl | exact Ok.it | exact OkS.itN | exact OkS.itR | exact Ok.itE | exact OkS.itE | exact Ok.itX | exact OkS.itX | exact Ok.itX.trans OkS.itX.symm | exact Ok.itE.trans OkS.itE.symm | exact Ok.itE.trans Ok.itE.symm | exact Ok.itX.trans Ok.itX.symm | exact OkS.itE.trans Ok.itE.symm | exact OkS.itX.trans Ok.itX.symm | exact OkS.itN.trans Ok.it.symm | exact OkS.itR.trans Ok.it.symm | exact Ok.it.trans OkS.itN.symm | exact Ok.it.trans OkS.itR.symm | exact OkS.itN.trans OkS.itN.symm | exact OkS.itE.trans OkS.itE.symm | exact OkS.itX.trans OkS.itX.symm | exact OkS.itR.trans OkS.itR.symm | exact Ok.it.symm | exact OkS.itN.symm | exact OkS.itR.symm | (simp only [alloc, Ok.it, OkS.itN, OkS.itR]; done) | (simp only [Ok.it, OkS.itN, OkS.itR]; exact Iff.rfl))
@[simp] theorem evQ_rng {lo hi : Ex} : Ok (evQ C (.rng lo hi) env st) P ↔ Ok (evE C lo env st) fun x s => Ok (evE C hi env s) fun y s => Ok (rngH x y s) P := by
  show Ok (M.bnd _ _ _) _ ↔ _; simp only [Ok_bnd]
@[simp] theorem evQ_enm {l : Ls} : Ok (evQ C (.enm l) env st) P ↔ Ok (evH C l env st) fun h s => P (.en h) s := by
  show Ok (M.bnd _ _ _) _ ↔ _; simp only [Ok_bnd, Ok_ok, M.ret]
@[simp] theorem evQ_zip {a b : Ex} : Ok (evQ C (.zip a b) env st) P ↔ Ok (evE C a env st) fun x s => Ok (evE C b env s) fun y s => Ok (zipB x y s) P := by
  show Ok (M.bnd _ _ _) _ ↔ _; simp only [Ok_bnd]
@[simp] theorem evQ_prm {l : Ls} {r : Option Ex} : Ok (evQ C (.prm l r) env st) P ↔ Ok (evS C l env st) fun xs s => Ok (evO C r env s) fun k s => Ok (permB xs k s) P := by
  show Ok (M.bnd _ _ _) _ ↔ _; simp only [Ok_bnd]
@[simp] theorem evQ_rng3 {lo hi c : Ex} : Ok (evQ C (.rng3 lo hi c) env st) P ↔ Ok (evE C lo env st) fun x s => Ok (evE C hi env s) fun y s => Ok (evE C c env s) fun z s => Ok (rng3H x y z s) P := by
  show Ok (M.bnd _ _ _) _ ↔ _; simp only [Ok_bnd]
@[simp] theorem evQ_prmR {lo hi : Ex} : Ok (evQ C (.prmR lo hi) env st) P ↔ Ok (evE C lo env st) fun x s => Ok (evE C hi env s) fun y s => Ok (rngB x y s) fun xs s => Ok (permB xs none s) P := by
  show Ok (M.bnd _ _ _) _ ↔ _; simp only [Ok_bnd]
@[simp] theorem evQ_cmb {l : Ls} {r : Ex} : Ok (evQ C (.cmb l r) env st) P ↔ Ok (evS C l env st) fun xs s => Ok (evE C r env s) fun x s => Ok (intB x s) fun k s => Ok (combB xs k s) P := by
  show Ok (M.bnd _ _ _) _ ↔ _; simp only [Ok_bnd]
end
end Cr

set_option maxRecDepth 100000
namespace Cr
open PySem
/-- the store grows; all places but ls keep what they hold -/
def Gr (ls : List Nat) (s t : Store) : Prop := s.length ≤ t.length ∧ ∀ i, i < s.length → i ∉ ls → t[i]? = s[i]?
theorem Gr.refl (ls : List Nat) (s : Store) : Gr ls s s := ⟨Nat.le_refl _, fun _ _ _ => rfl⟩
theorem Gr.trans {ls : List Nat} {a b c : Store} (h : Gr ls a b) (k : Gr ls b c) : Gr ls a c :=
  ⟨Nat.le_trans h.1 k.1, fun i hi hn => (k.2 i (Nat.lt_of_lt_of_le hi h.1) hn).trans (h.2 i hi hn)⟩
theorem Gr.mono {ls ms : List Nat} {a b : Store} (h : Gr ls a b) (k : ∀ i ∈ ls, i ∈ ms) : Gr ms a b := ⟨h.1, fun i hi hn => h.2 i hi fun q => hn (k i q)⟩
theorem Gr.nil {ls : List Nat} {a b : Store} (h : Gr [] a b) : Gr ls a b := h.mono fun _ q => absurd q List.not_mem_nil
theorem Gr.app (ls : List Nat) (s x : Store) : Gr ls s (s ++ x) := ⟨by simp, fun i hi _ => List.getElem?_append_left hi⟩
theorem Gr.set {ls : List Nat} {s : Store} {l : Nat} {o : SO} (h : l ∈ ls) : Gr ls s (s.set l o) :=
  ⟨by simp, fun i hi hn => List.getElem?_set_ne fun e => by subst e; exact hn h⟩
/-- a place that is fresh is none of the old ones -/
theorem Gr.fresh {ls : List Nat} {s t : Store} (h : Gr (s.length :: ls) s t) : Gr ls s t :=
  ⟨h.1, fun i hi hn => h.2 i hi fun q => by
    rcases List.mem_cons.mp q with rfl | q
    · exact Nat.lt_irrefl _ hi
    · exact hn q⟩
theorem Gr.get {ls : List Nat} {s t : Store} (h : Gr ls s t) {i : Nat} {o : SO} (hi : s[i]? = some o) (hn : i ∉ ls) : t[i]? = some o := by
  rw [h.2 i (by
    have := List.getElem?_eq_some_iff.mp hi
    exact this.1) hn, hi]
theorem Gr.lt {ls : List Nat} {s t : Store} (h : Gr ls s t) {i : Nat} (hi : i < s.length) : i < t.length := Nat.lt_of_lt_of_le hi h.1
theorem lt_of_get {s : Store} {i : Nat} {o : SO} (h : s[i]? = some o) : i < s.length := (List.getElem?_eq_some_iff.mp h).1
theorem getL_of {s : Store} {l : Nat} {xs : List D} (h : s[l]? = some (.lst xs)) : getL s l = some xs := by unfold getL; rw [h]
theorem getL_inv {s : Store} {l : Nat} {xs : List D} (h : getL s l = some xs) : s[l]? = some (.lst xs) := by
  unfold getL at h
  split at h
  · rename_i ys e; cases h; exact e
  · cases h
@[simp] theorem getL_app {s : Store} {o : SO} : getL (s ++ [o]) s.length = match o with | .lst xs => some xs | _ => none := by
  unfold getL
  rw [show (s ++ [o])[s.length]? = some o by simp]
  cases o <;> rfl
@[simp] theorem get_app {s : Store} {o : SO} : (s ++ [o])[s.length]? = some o := by simp
theorem get_app_lt {s : Store} {o : SO} {i : Nat} (h : i < s.length) : (s ++ [o])[i]? = s[i]? := List.getElem?_append_left h
theorem set_app {s : Store} {o p : SO} : (s ++ [o]).set s.length p = s ++ [p] := by simp
/-- the head walks the list xs, as long as only places ls change -/
def HdIs (ls : List Nat) (h : Hd) (xs : List D) (st : Store) : Prop := h.len st = some xs.length ∧ ∀ s, Gr ls st s → ∀ i, h.get s i = some xs[i]?
theorem HdIs.its (ls : List Nat) (xs : List D) (st : Store) : HdIs ls (.its xs) xs st := ⟨rfl, fun _ _ _ => rfl⟩
theorem HdIs.ls {ls : List Nat} {l : Nat} {xs : List D} {st : Store} (h : st[l]? = some (.lst xs)) (hn : l ∉ ls) : HdIs ls (.ls l) xs st := by
  refine ⟨?_, fun s g i => ?_⟩
  · show (getL st l).map _ = _; rw [getL_of h]; rfl
  · show (match getL s l with | some xs => some xs[i]? | none => none) = _
    rw [getL_of (g.get h hn)]
theorem rngL_length (i j : Int) : (rngL i j).length = (j - i).toNat := by simp [rngL]
theorem rngL_get (i j : Int) (k : Nat) : (rngL i j)[k]? = if k < (j - i).toNat then some (.int (i + k)) else none := by
  unfold rngL
  by_cases h : k < (j - i).toNat
  · rw [if_pos h, List.getElem?_map, List.getElem?_range h]; rfl
  · rw [if_neg h]; exact List.getElem?_eq_none (by simp; omega)
theorem HdIs.rg (ls : List Nat) (i j : Int) (st : Store) : HdIs ls (.rg i (j - i).toNat) (rngL i j) st :=
  ⟨by show some _ = _; rw [rngL_length], fun s _ k => by show some (if k < _ then some _ else none) = _; rw [rngL_get]⟩
def enumL (xs : List D) : List D := xs.mapIdx fun i d => D.tup [.int i, d]
theorem HdIs.en {ls : List Nat} {h : Hd} {xs : List D} {st : Store} (k : HdIs ls h xs st) : HdIs ls (.en h) (enumL xs) st := by
  refine ⟨?_, fun s g i => ?_⟩
  · show h.len st = _; rw [k.1]; simp [enumL]
  · show (match h.get s i with | some (some d) => some (some (D.tup [.int i, d])) | some none => some none | none => none) = _
    rw [k.2 s g i]
    simp only [enumL, List.getElem?_mapIdx]
    cases xs[i]? <;> rfl
theorem HdIs.mono {ls : List Nat} {h : Hd} {xs : List D} {st s : Store} (k : HdIs ls h xs st) (g : Gr ls st s) (hl : h.len s = some xs.length) : HdIs ls h xs s := ⟨hl, fun t g2 i => k.2 t (g.trans g2) i⟩
/-- a comprehension, by an invariant -/
theorem compN_inv {get : Store → Nat → Option (Option D)} {step : D → M (Option D)} {xs : List D} (inv : Nat → List D → Store → Prop)
    (hg : ∀ i acc s, inv i acc s → get s i = some xs[i]?)
    (hs : ∀ i x acc s, xs[i]? = some x → inv i acc s → acc.length < 100000 ∧ Ok (step x s) fun o s' => match o with | some v => inv (i + 1) (acc ++ [v]) s' | none => inv (i + 1) acc s') :
    ∀ (n i : Nat) (acc : List D) (s : Store), n + i = xs.length → inv i acc s → Ok (compN get step n i acc s) fun r s' => inv xs.length r s'
  | 0, i, acc, s, hn, h => by
    have e := hg i acc s h
    rw [List.getElem?_eq_none (by omega)] at e
    show Ok (match get s i with | some none => .ok acc s | _ => .err) _
    rw [e]
    have : i = xs.length := by omega
    subst this; exact Ok.mk h
  | n + 1, i, acc, s, hn, h => by
    have e := hg i acc s h
    have hi : i < xs.length := by omega
    rw [List.getElem?_eq_getElem hi] at e
    show Ok (match get s i with
      | some none => .ok acc s
      | some (some d) => (match step d s with
        | .ok (some v) st' => if acc.length < 100000 then compN get step n (i + 1) (acc ++ [v]) st' else .err
        | .ok none st' => compN get step n (i + 1) acc st'
        | _ => .err)
      | none => .err) _
    rw [e]
    obtain ⟨hl, q⟩ := hs i _ acc s (List.getElem?_eq_getElem hi) h
    obtain ⟨o, s', e2, q⟩ := q.ex
    show Ok (match step xs[i] s with
        | .ok (some v) st' => if acc.length < 100000 then compN get step n (i + 1) (acc ++ [v]) st' else .err
        | .ok none st' => compN get step n (i + 1) acc st'
        | _ => .err) _
    rw [e2]
    cases o with
    | none => exact compN_inv inv hg hs n (i + 1) acc s' (by omega) q
    | some v =>
      show Ok (if acc.length < 100000 then _ else _) _
      rw [if_pos hl]
      exact compN_inv inv hg hs n (i + 1) (acc ++ [v]) s' (by omega) q
theorem Ok_comp_inv {h : Hd} {step : D → M (Option D)} {xs : List D} {ls : List Nat} {st : Store} (H : HdIs ls h xs st) (hl : xs.length ≤ 100000) (inv : Nat → List D → Store → Prop) (h0 : inv 0 [] st)
    (hs : ∀ i x acc s, xs[i]? = some x → Gr ls st s → inv i acc s → Ok (step x s) fun o s' => Gr ls s s' ∧ match o with | some v => inv (i + 1) (acc ++ [v]) s' | none => inv (i + 1) acc s')
    {P : List D → Store → Prop} (hP : ∀ r s, Gr ls st s → inv xs.length r s → P r s) : Ok (compH h step st) P := by
  show Ok (match h.len st with | some n => compN (fun st i => h.get st i) step n 0 [] st | none => .err) P
  rw [H.1]
  refine (compN_inv (xs := xs) (fun i acc s => Gr ls st s ∧ acc.length ≤ i ∧ i ≤ xs.length ∧ inv i acc s) (fun i acc s q => H.2 s q.1 i) (fun i x acc s hx q => ?_) xs.length 0 [] st rfl ⟨Gr.refl _ _, Nat.le_refl _, Nat.zero_le _, h0⟩).imp fun r s q => hP r s q.1 q.2.2.2
  have hi : i < xs.length := (List.getElem?_eq_some_iff.mp hx).1
  refine ⟨by omega, (hs i x acc s hx q.1 q.2.2.2).imp fun o s' k => ?_⟩
  cases o with
  | none => exact ⟨q.1.trans k.1, by omega, hi, k.2⟩
  | some v => exact ⟨q.1.trans k.1, by simp; omega, hi, k.2⟩
/-- a comprehension whose turns are pure -/
theorem Ok_comp {h : Hd} {step : D → M (Option D)} {xs : List D} {ls : List Nat} {st : Store} (H : HdIs ls h xs st) (hl : xs.length ≤ 100000) (f : D → Option D)
    (hs : ∀ x ∈ xs, ∀ s, Gr ls st s → Ok (step x s) fun o s' => o = f x ∧ Gr ls s s')
    {P : List D → Store → Prop} (hP : ∀ s, Gr ls st s → P (xs.filterMap f) s) : Ok (compH h step st) P := by
  refine Ok_comp_inv H hl (fun i acc s => acc = (xs.take i).filterMap f) (by simp) (fun i x acc s hx g e => ?_) (fun r s g e => ?_)
  · refine (hs x (List.mem_of_getElem? hx) s g).imp fun o s' k => ⟨k.2, ?_⟩
    have hi := List.getElem?_eq_some_iff.mp hx
    obtain ⟨hi, rfl⟩ := hi
    have e2 : (xs.take (i + 1)).filterMap f = (xs.take i).filterMap f ++ (match f xs[i] with | some v => [v] | none => []) := by
      rw [← List.take_concat_get hi, List.concat_eq_append, List.filterMap_append]
      cases e3 : f xs[i] <;> simp [e3]
    obtain ⟨k1, -⟩ := k
    subst k1
    rw [e2, e]
    cases f xs[i] <;> simp
  · rw [e, List.take_length]; exact hP s g
/-- a for, by an invariant -/
theorem forN_inv {get : Store → Nat → Option (Option D)} {body : D → Env → Store → Os} {xs : List D} (inv : Nat → Env → Store → Prop) {R : D → Store → Prop}
    (hg : ∀ i e s, inv i e s → get s i = some xs[i]?)
    (hs : ∀ i x e s, xs[i]? = some x → inv i e s → OkS (body x e s) (fun e' s' => inv (i + 1) e' s') R) :
    ∀ (n i : Nat) (e : Env) (s : Store), n + i = xs.length → inv i e s → OkS (forN get body n i e s) (fun e' s' => inv xs.length e' s') R
  | 0, i, e, s, hn, h => by
    have q := hg i e s h
    rw [List.getElem?_eq_none (by omega)] at q
    show OkS (match get s i with | some none => .nx e s | _ => .err) _ _
    rw [q]
    have : i = xs.length := by omega
    subst this; exact OkS.mkN h
  | n + 1, i, e, s, hn, h => by
    have q := hg i e s h
    have hi : i < xs.length := by omega
    rw [List.getElem?_eq_getElem hi] at q
    show OkS (match get s i with
      | some none => .nx e s
      | some (some d) => (match body d e s with
        | .nx env' st' => forN get body n (i + 1) env' st'
        | o => o)
      | none => .err) _ _
    rw [q]
    have k := hs i _ e s (List.getElem?_eq_getElem hi) h
    show OkS (match body xs[i] e s with
        | .nx env' st' => forN get body n (i + 1) env' st'
        | o => o) _ _
    revert k
    cases body xs[i] e s with
    | nx e' s' => intro k; exact forN_inv inv hg hs n (i + 1) e' s' (by omega) k.ofN
    | rt d s' => intro k; exact OkS.mkR k.ofR
    | exc _ _ _ _ => intro k; exact k.noX.elim
    | err => intro k; exact k.noE.elim
theorem OkS_for_inv {C : Cl} {W : Nat} {tg : Tg} {it : Sq} {b : List Sm} {env : Env} {st : Store} {N : Env → Store → Prop} {R : D → Store → Prop} {ls : List Nat}
    (hq : Ok (evQ C it env st) fun h s => ∃ xs, HdIs ls h xs s ∧ ∃ inv : Nat → Env → Store → Prop, inv 0 env s ∧
      (∀ i x e s', xs[i]? = some x → Gr ls s s' → inv i e s' → OkS (Os.ofM e (bindTg tg x e s') fun env' st' => evMs C W b env' st') (fun e2 s2 => Gr ls s' s2 ∧ inv (i + 1) e2 s2) R) ∧
      (∀ e s', Gr ls s s' → inv xs.length e s' → N e s')) : OkS (evM C W (.for tg it b) env st) N R := by
  show OkS (Os.ofM env (evQ C it env st) fun h st1 => match h.len st1 with | some n => forN (fun st i => h.get st i) (fun d env st => Os.ofM env (bindTg tg d env st) fun env' st' => evMs C W b env' st') n 0 env st1 | none => .err) _ _
  rw [OkS_ofM]
  refine hq.imp fun h s ⟨xs, H, inv, h0, hs, hN⟩ => ?_
  rw [H.1]
  refine (forN_inv (xs := xs) (fun i e s' => Gr ls s s' ∧ inv i e s') (fun i e s' q => H.2 s' q.1 i) (fun i x e s' hx q => ?_) xs.length 0 env s rfl ⟨Gr.refl _ _, h0⟩).imp (fun e s' q => hN e s' q.1 q.2) fun d s' q => q
  exact (hs i x e s' hx q.1 q.2).imp (fun e2 s2 k => ⟨q.1.trans k.1, k.2⟩) fun d s' q => q
/-- a while, by an invariant over the turns that are left -/
theorem OkS_whl_inv {C : Cl} {W : Nat} {c : Te} {b : List Sm} {env : Env} {st : Store} {N : Env → Store → Prop} {R : D → Store → Prop} (inv : Nat → Env → Store → Prop) (n : Nat) (hn : n < W) (h0 : inv n env st)
    (hs : ∀ i e s, inv i e s → Ok (evT C c e s) fun t s1 => if t = true then 0 < i ∧ OkS (evMs C W b e s1) (fun e2 s2 => inv (i - 1) e2 s2) R else N e s1) : OkS (evM C W (.whl c b) env st) N R := by
  show OkS (whlN (evT C c) (fun env st => evMs C W b env st) W env st) N R
  have main : ∀ (m i : Nat) (e : Env) (s : Store), i < m → inv i e s → OkS (whlN (evT C c) (fun env st => evMs C W b env st) m e s) N R := by
    intro m
    induction m with
    | zero => intro i e s h; omega
    | succ m ih =>
      intro i e s hi q
      show OkS (Os.ofM e (evT C c e s) fun t st1 => if t then (match evMs C W b e st1 with
      | .nx env' st' => whlN (evT C c) (fun env st => evMs C W b env st) m env' st'
      | o => o) else .nx e st1) N R
      rw [OkS_ofM]
      refine (hs i e s q).imp fun t s1 k => ?_
      cases t with
      | false => simpa using k
      | true =>
        rw [if_pos rfl] at k ⊢
        obtain ⟨hi2, k⟩ := k
        revert k
        cases evMs C W b e s1 with
        | nx e' s' => intro k; exact ih (i - 1) e' s' (by omega) k.ofN
        | rt d s' => intro k; exact OkS.mkR k.ofR
        | exc _ _ _ _ => intro k; exact k.noX.elim
        | err => intro k; exact k.noE.elim
  exact main W n env st hn h0
/-- first_wrong where each one is right -/
theorem Ok_fwL_all {step : D → D → M Bool} {xs : List D} {st : Store} {P : D → Store → Prop} (h : ∀ (ahead r : List D) (d : D) (s : Store), xs = ahead ++ d :: r → Gr [] st s → Ok (step d (.tup ahead) s) fun b s' => b = true ∧ Gr [] s s') (hP : ∀ s, Gr [] st s → P .non s) :
    Ok (fwL step 0 [] xs st) P := by
  have go : ∀ (r ahead : List D) (i : Nat) (s : Store), xs = ahead ++ r → Gr [] st s → Ok (fwL step i ahead r s) P := by
    intro r
    induction r with
    | nil =>
      intro ahead i s _ g
      show Ok (.ok .non s) P
      exact Ok.mk (hP s g)
    | cons d r ih =>
      intro ahead i s e g
      show Ok (((step d (.tup ahead)).bnd fun t => if t then fwL step (i + 1) (ahead ++ [d]) r else M.ret (.int i)) s) P
      rw [Ok_bnd]
      refine (h ahead r d s e g).imp fun b s' ⟨hb, g2⟩ => ?_
      subst hb
      exact ih (ahead ++ [d]) (i + 1) s' (by rw [e]; simp) (g.trans g2)
  exact go xs [] 0 st rfl (Gr.refl _ _)
end Cr

set_option maxRecDepth 100000
namespace Cr
open PySem PyProof.Rows
theorem piled_le {B : Nat} : ∀ {xs : List PyData}, (∀ x ∈ xs, x.shown.length ≤ B) → piled (PyData.shownAll xs) ≤ xs.length * (B + 2)
  | [], _ => Nat.zero_le _
  | x :: xs, h => by
    have h1 := h x (List.mem_cons_self)
    have h2 := piled_le (xs := xs) fun y hy => h y (List.mem_cons_of_mem _ hy)
    show piled (x.shown :: PyData.shownAll xs) ≤ _
    rw [piled_cons, List.length_cons, Nat.succ_mul]
    omega
theorem tupleText_le (ts : List Str) : (tupleText ts).length ≤ piled ts + 3 := by
  unfold tupleText
  rw [strLen_append, strLen_append]
  have e1 : ((("(" : String) : Str)).length = 1 := rfl
  have e3 : (((if ts.length == 1 then ",)" else ")" : String) : Str)).length ≤ 2 := by split <;> decide
  rw [e1]
  by_cases h : ts = []
  · subst h; have : (Str.join ", " []).length = 0 := rfl
    omega
  · have := join_length_add ts h
    omega
theorem listText_le : ∀ ts : List Str, (listText ts).length ≤ piled ts + 3
  | [] => by decide
  | t :: r => by
    have h := textFrom_length_pos r 1 (("[" : Str) ++ (if (0 : Nat) > 0 then ", " else "" : String) ++ t) (Nat.succ_pos 0)
    have e : ((("[" : Str) ++ (if (0 : Nat) > 0 then ", " else "" : String) ++ t)).length = 1 + t.length := by
      rw [strLen_append, strLen_append]; rfl
    have hX : (listText (t :: r)).length = (textFrom 0 "[" (t :: r)).length + 1 := by
      show (textFrom 0 "[" (t :: r) ++ "]").length = _
      rw [strLen_append]; rfl
    have hY : (textFrom 0 "[" (t :: r)).length = (textFrom 1 (("[" : Str) ++ (if (0 : Nat) > 0 then ", " else "" : String) ++ t) r).length := rfl
    rw [hX, hY, h, e, piled_cons]; omega
/-- the value reads as data p, whose text has at most B signs -/
structure Nc (st : Store) (d : D) (p : PyData) (B k : Nat) : Prop where
  rd : ∀ n, k ≤ n → pd st n d = some p
  sh : p.showable = true
  ln : p.shown.length ≤ B
  lay : p.canLay0 = true
  dp : p.depth ≤ k
structure NcL (st : Store) (ds : List D) (ps : List PyData) (B k : Nat) : Prop where
  rd : ∀ n, k ≤ n → ds.mapM (pd st n) = some ps
  sh : PyData.showableAll ps = true
  ln : piled (PyData.shownAll ps) ≤ B
  lay : PyData.canLayAll0 ps = true
  dp : PyData.depthAll ps ≤ k
section
variable {st : Store}
theorem Nc.mono {d : D} {p : PyData} {B k B' k' : Nat} (h : Nc st d p B k) (hB : B ≤ B') (hk : k ≤ k') : Nc st d p B' k' :=
  ⟨fun n hn => h.rd n (Nat.le_trans hk hn), h.sh, Nat.le_trans h.ln hB, h.lay, Nat.le_trans h.dp hk⟩
theorem Nc.bl (b : Bool) : Nc st (.bl b) (.bool b) 5 1 := ⟨fun n hn => by cases n with | zero => omega | succ n => rfl, rfl, by cases b <;> decide, rfl, Nat.zero_le _⟩
theorem Nc.non : Nc st .non .none 5 1 := ⟨fun n hn => by cases n with | zero => omega | succ n => rfl, rfl, by decide, rfl, Nat.zero_le _⟩
theorem Nc.int {i : Int} {m : Nat} (h0 : 0 ≤ i) (hm : 0 < m) (hm2 : m ≤ 100) (h : i < 10 ^ m) : Nc st (.int i) (.int i) m 1 := by
  refine ⟨fun n hn => by cases n with | zero => omega | succ n => rfl, ?_, toString_length_le h0 hm h, rfl, Nat.zero_le _⟩
  show decide (i.natAbs.log2 < 1920) = true
  apply decide_eq_true
  have hi : i.natAbs < 10 ^ m := by
    have e : ((i.natAbs : Nat) : Int) = i := Int.natAbs_of_nonneg h0
    have : ((i.natAbs : Nat) : Int) < ((10 ^ m : Nat) : Int) := by rw [e]; exact_mod_cast h
    exact_mod_cast this
  have h2 : i.natAbs < 2 ^ 1920 := Nat.lt_of_lt_of_le hi (Nat.le_trans (Nat.pow_le_pow_right (by decide) hm2) (by decide +kernel))
  by_cases hz : i.natAbs = 0
  · rw [hz]; decide
  · exact (Nat.log2_lt hz).mpr h2
theorem NcL.nil : NcL st [] [] 0 0 := ⟨fun _ _ => by simp, rfl, Nat.le_refl _, rfl, Nat.le_refl _⟩
theorem NcL.cons {d : D} {p : PyData} {ds : List D} {ps : List PyData} {B k B' k' : Nat} (h : Nc st d p B k) (r : NcL st ds ps B' k') : NcL st (d :: ds) (p :: ps) (B + 2 + B') (max k k') := by
  refine ⟨fun n hn => ?_, ?_, ?_, ?_, ?_⟩
  · rw [List.mapM_cons, h.rd n (by omega), r.rd n (by omega)]; rfl
  · show (p.showable && PyData.showableAll ps) = true; rw [h.sh, r.sh]; rfl
  · show piled (p.shown :: _) ≤ _; rw [piled_cons]; have := h.ln; have := r.ln; omega
  · show (p.canLay0 && PyData.canLayAll0 ps) = true; rw [h.lay, r.lay]; rfl
  · show max p.depth (PyData.depthAll ps) ≤ _; have := h.dp; have := r.dp; omega
theorem NcL.map {α : Type} {f : α → D} {g : α → PyData} {B k : Nat} : ∀ {xs : List α}, (∀ x ∈ xs, Nc st (f x) (g x) B k) → NcL st (xs.map f) (xs.map g) (xs.length * (B + 2)) k
  | [], _ => ⟨fun _ _ => by simp, rfl, Nat.zero_le _, rfl, Nat.zero_le _⟩
  | x :: xs, h => by
    have := NcL.cons (h x List.mem_cons_self) (NcL.map (xs := xs) fun y hy => h y (List.mem_cons_of_mem _ hy))
    rw [Nat.max_self] at this
    rw [List.length_cons, Nat.succ_mul, Nat.add_comm]
    exact this
theorem Nc.tup {ds : List D} {ps : List PyData} {B k : Nat} (h : NcL st ds ps B k) : Nc st (.tup ds) (.tuple ps) (B + 3) (k + 1) := by
  refine ⟨fun n hn => ?_, h.sh, ?_, h.lay, Nat.succ_le_succ h.dp⟩
  · cases n with
    | zero => omega
    | succ n => show (ds.mapM (pd st n)).map _ = _; rw [h.rd n (by omega)]; rfl
  · exact Nat.le_trans (tupleText_le _) (by have := h.ln; omega)
theorem Nc.lst {l : Nat} {ds : List D} {ps : List PyData} {B k : Nat} (hl : getL st l = some ds) (h : NcL st ds ps B k) : Nc st (.loc l) (.list ps) (B + 3) (k + 1) := by
  refine ⟨fun n hn => ?_, h.sh, ?_, h.lay, Nat.succ_le_succ h.dp⟩
  · cases n with
    | zero => omega
    | succ n => show (match getL st l with | some xs => (xs.mapM (pd st n)).map PyData.list | none => none) = _; rw [hl]; show (ds.mapM (pd st n)).map _ = _; rw [h.rd n (by omega)]; rfl
  · exact Nat.le_trans (listText_le _) (by have := h.ln; omega)
/-- tuples of numbers -/
def tI (ns : List Int) : D := .tup (ilist ns)
def pI (ns : List Int) : PyData := .tuple (ns.map .int)
theorem Nc.ints {ns : List Int} {m : Nat} (hm : 0 < m) (hm2 : m ≤ 100) (h : ∀ i ∈ ns, 0 ≤ i ∧ i < 10 ^ m) : Nc st (tI ns) (pI ns) (ns.length * (m + 2) + 3) 2 :=
  Nc.tup (NcL.map fun x hx => Nc.int (h x hx).1 hm hm2 (h x hx).2)
theorem Nc.pdS {d : D} {p : PyData} {B k : Nat} (h : Nc st d p B k) (hk : k ≤ 30) : Cr.pdS st d = some p := by
  have hs : SeqAt.shaped p = true := by
    show (p.canLay0 && decide (p.depth ≤ 64)) = true
    rw [h.lay, decide_eq_true (by have := h.dp; omega)]; rfl
  show (match pd st 30 d with | some p => if SeqAt.shaped p then some p else none | none => none) = _
  rw [h.rd 30 hk]
  exact if_pos hs
theorem Nc.repr {d : D} {p : PyData} {B k : Nat} (h : Nc st d p B k) (hk : k ≤ 30) (hB : B ≤ 100000) : f1 .repr d st = .ok (.str p.shown) st := by
  have e : f1 .repr d st = (match Cr.pdS st d with
    | some p => if p.showable && decide (p.shown.length ≤ 100000) then .ok (.str p.shown) st else .err
    | none => .err) := by
    cases d <;> rfl
  rw [e, h.pdS hk]
  refine if_pos ?_
  rw [h.sh, decide_eq_true (Nat.le_trans h.ln hB)]; rfl
theorem eqB_of {a b : D} {p q : PyData} {B k B' k' : Nat} (h : Nc st a p B k) (h' : Nc st b q B' k') (hk : k ≤ 30) (hk' : k' ≤ 30) : eqB st a b = some (PyData.eqv p q) := by
  have e : (match Cr.pdS st a, Cr.pdS st b with | some p, some q => some (PyData.eqv p q) | _, _ => none) = some (PyData.eqv p q) := by rw [h.pdS hk, h'.pdS hk']
  cases a with
  | str x =>
    cases b with
    | str y =>
      have h1 := h.rd (k + 1) (by omega)
      have h2 := h'.rd (k' + 1) (by omega)
      cases h1; cases h2
      show some (decide (x = y)) = some (x == y)
      congr 1
    | _ => exact e
  | _ => exact e
theorem eqv_int (i j : Int) : PyData.eqv (.int i) (.int j) = decide (i = j) := by
  unfold PyData.eqv
  by_cases h : i = j
  · subst h; simp
  · rw [decide_eq_false h]; exact beq_eq_false_iff_ne.mpr h
theorem eqvAll_ints : ∀ ns ms : List Int, PyData.eqvAll (ns.map .int) (ms.map .int) = decide (ns = ms)
  | [], [] => rfl
  | [], _ :: _ => rfl
  | _ :: _, [] => rfl
  | a :: r, b :: t => by
    show (PyData.eqv (.int a) (.int b) && PyData.eqvAll (r.map .int) (t.map .int)) = _
    rw [eqv_int, eqvAll_ints r t]
    by_cases h : a = b <;> by_cases h2 : r = t <;> simp [h, h2]
theorem eqv_pI (ns ms : List Int) : PyData.eqv (pI ns) (pI ms) = decide (ns = ms) := by
  unfold pI; rw [PyData.eqv]; exact eqvAll_ints ns ms
theorem any_ints (i : Int) (ns : List Int) : ((ns.map PyData.int).any fun z => PyData.eqv z (.int i)) = decide (i ∈ ns) := by
  induction ns with
  | nil => rfl
  | cons a r ih =>
    rw [List.map_cons, List.any_cons, eqv_int, ih]
    by_cases h : a = i
    · subst h; simp
    · have h' : ¬ i = a := fun e => h e.symm
      simp [h, h']
theorem any_pI (ns : List Int) (xs : List (List Int)) : ((xs.map pI).any fun z => PyData.eqv z (pI ns)) = decide (ns ∈ xs) := by
  induction xs with
  | nil => rfl
  | cons a r ih =>
    rw [List.map_cons, List.any_cons, eqv_pI, ih]
    by_cases h : a = ns
    · subst h; simp
    · have h' : ¬ ns = a := fun e => h e.symm
      simp [h, h']
theorem find_ints (i : Int) (ns : List Int) : ((ns.map PyData.int).findIdx? fun z => PyData.eqv z (.int i)) = ns.findIdx? (· == i) := by
  induction ns with
  | nil => rfl
  | cons a r ih =>
    rw [List.map_cons, List.findIdx?_cons, List.findIdx?_cons, eqv_int, ih]
    rfl
theorem inB_tup {a : D} {ds : List D} {p : PyData} {ps : List PyData} {B k B' k' : Nat} (h : Nc st a p B k) (h' : NcL st ds ps B' k') (hk : k ≤ 30) (hk' : k' < 30) : inB st a (.tup ds) = some (ps.any fun z => PyData.eqv z p) := by
  unfold inB; rw [h.pdS hk, (Nc.tup h').pdS hk']
theorem inB_lst {a : D} {l : Nat} {ds : List D} {p : PyData} {ps : List PyData} {B k B' k' : Nat} (h : Nc st a p B k) (hl : getL st l = some ds) (h' : NcL st ds ps B' k') (hk : k ≤ 30) (hk' : k' < 30) : inB st a (.loc l) = some (ps.any fun z => PyData.eqv z p) := by
  unfold inB; rw [h.pdS hk, (Nc.lst hl h').pdS hk']
theorem findIx_tup {a : D} {ds : List D} {p : PyData} {ps : List PyData} {B k B' k' : Nat} (h : Nc st a p B k) (h' : NcL st ds ps B' k') (hk : k ≤ 30) (hk' : k' < 30) : findIx st a (.tup ds) = ps.findIdx? fun z => PyData.eqv z p := by
  unfold findIx; rw [h.pdS hk, (Nc.tup h').pdS hk']
end
end Cr

set_option maxRecDepth 100000
namespace Cr
open PySem PyProof.Rows
theorem compD_inv {get : Store → Nat → Option (Option D)} {step : D → M (D × D)} {xs : List D} (inv : Nat → List (D × D) → Store → Prop)
    (hg : ∀ i acc s, inv i acc s → get s i = some xs[i]?)
    (hs : ∀ i x acc s, xs[i]? = some x → inv i acc s → acc.length < 100000 ∧ Ok (step x s) fun o s' => keyD o.1 = true ∧ inv (i + 1) (dput o.1 o.2 acc) s') :
    ∀ (n i : Nat) (acc : List (D × D)) (s : Store), n + i = xs.length → inv i acc s → Ok (compD get step n i acc s) fun r s' => inv xs.length r s'
  | 0, i, acc, s, hn, h => by
    have e := hg i acc s h
    rw [List.getElem?_eq_none (by omega)] at e
    show Ok (match get s i with | some none => .ok acc s | _ => .err) _
    rw [e]
    have : i = xs.length := by omega
    subst this; exact Ok.mk h
  | n + 1, i, acc, s, hn, h => by
    have e := hg i acc s h
    have hi : i < xs.length := by omega
    rw [List.getElem?_eq_getElem hi] at e
    obtain ⟨hl, q⟩ := hs i _ acc s (List.getElem?_eq_getElem hi) h
    obtain ⟨⟨k, v⟩, s', e2, q1, q2⟩ := q.ex
    show Ok (match get s i with
      | some none => .ok acc s
      | some (some d) => (match step d s with
        | .ok (k, v) st' => if keyD k && decide (acc.length < 100000) then compD get step n (i + 1) (dput k v acc) st' else .err
        | _ => .err)
      | none => .err) _
    rw [e]
    show Ok (match step xs[i] s with
        | .ok (k, v) st' => if keyD k && decide (acc.length < 100000) then compD get step n (i + 1) (dput k v acc) st' else .err
        | _ => .err) _
    rw [e2]
    show Ok (if _ then _ else _) _
    rw [if_pos (by rw [q1, decide_eq_true hl]; rfl)]
    exact compD_inv inv hg hs n (i + 1) (dput k v acc) s' (by omega) q2
theorem dput_new {k v : D} {kvs : List (D × D)} (h : ∀ p ∈ kvs, sameK k p.1 = false) : dput k v kvs = kvs ++ [(k, v)] := by
  unfold dput
  refine if_neg ?_
  rw [List.any_eq_true]
  rintro ⟨p, hp, e⟩
  rw [h p hp] at e; cases e
/-- {thing: spot for spot, thing in enumerate(line)} of numbers that all differ -/
def spotsOf (k : Nat) : List Int → List (D × D)
  | [] => []
  | t :: r => (.int t, .int k) :: spotsOf (k + 1) r
theorem spotsOf_app : ∀ (k : Nat) (a b : List Int), spotsOf k (a ++ b) = spotsOf k a ++ spotsOf (k + a.length) b
  | k, [], b => rfl
  | k, t :: a, b => by
    show (_, _) :: spotsOf (k + 1) (a ++ b) = _
    rw [spotsOf_app (k + 1) a b]
    show _ = (_, _) :: (spotsOf (k + 1) a ++ _)
    rw [List.length_cons, show k + (a.length + 1) = k + 1 + a.length by omega]
theorem spotsOf_len : ∀ (k : Nat) (a : List Int), (spotsOf k a).length = a.length
  | _, [] => rfl
  | k, _ :: a => congrArg (· + 1) (spotsOf_len (k + 1) a)
theorem spotsOf_mem : ∀ {k : Nat} {a : List Int} {p : D × D}, p ∈ spotsOf k a → ∃ t ∈ a, p.1 = .int t
  | _, [], _, h => absurd h List.not_mem_nil
  | k, t :: a, p, h => by
    rcases List.mem_cons.mp h with rfl | h
    · exact ⟨t, List.mem_cons_self, rfl⟩
    · obtain ⟨u, hu, e⟩ := spotsOf_mem h
      exact ⟨u, List.mem_cons_of_mem _ hu, e⟩
/-- the place of a number -/
def at_ (t : Int) : List Int → Nat
  | [] => 0
  | u :: r => if t = u then 0 else at_ t r + 1
theorem dget_spots (st : Store) (t : Int) : ∀ (k : Nat) (a : List Int), t ∈ a → dget st (.int t) (spotsOf k a) = some (.int ((k + at_ t a : Nat) : Int))
  | _, [], h => absurd h List.not_mem_nil
  | k, u :: a, h => by
    show (if t = u then some (D.int k) else dget st (.int t) (spotsOf (k + 1) a)) = _
    unfold at_
    by_cases e : t = u
    · rw [if_pos e, if_pos e]; rfl
    · rw [if_neg e, if_neg e, dget_spots st t (k + 1) a (by
        rcases List.mem_cons.mp h with h | h
        · exact absurd h e
        · exact h)]
      congr 3; omega
theorem ilist_get (ns : List Int) (i : Nat) : (ilist ns)[i]? = (ns[i]?).map .int := by simp [ilist]
theorem ilist_len (ns : List Int) : (ilist ns).length = ns.length := by simp [ilist]
theorem intsOf_ilist : ∀ ns : List Int, intsOf (ilist ns) = some ns
  | [] => rfl
  | n :: ns => by show (intsOf (ilist ns)).map _ = _; rw [intsOf_ilist ns]; rfl
theorem boolsOf_map : ∀ bs : List Bool, boolsOf (bs.map .bl) = some bs
  | [] => rfl
  | b :: bs => by show (boolsOf (bs.map .bl)).map _ = _; rw [boolsOf_map bs]; rfl
/-- the dict of a line's spots -/
theorem Ok_spots {st : Store} {h : Hd} {line : List Int} {step : D → M (D × D)} {P : List (D × D) → Store → Prop} (H : HdIs [] h (enumL (ilist line)) st) (nd : line.Nodup) (hl : line.length < 100000)
    (hs : ∀ (i : Nat) (t : Int) s, line[i]? = some t → Ok (step (.tup [.int i, .int t]) s) fun o s' => o = (.int t, .int i) ∧ s' = s) (hP : P (spotsOf 0 line) st) : Ok (compHD h step st) P := by
  show Ok (match h.len st with | some n => compD (fun st i => h.get st i) step n 0 [] st | none => .err) P
  rw [H.1]
  refine (compD_inv (xs := enumL (ilist line)) (fun i acc s => s = st ∧ i ≤ line.length ∧ acc = spotsOf 0 (line.take i)) (fun i acc s q => by rw [q.1]; exact H.2 st (Gr.refl _ _) i) (fun i x acc s hx q => ?_) _ 0 [] st rfl ⟨rfl, Nat.zero_le _, by simp [spotsOf]⟩).imp fun r s q => ?_
  · obtain ⟨rfl, q1, rfl⟩ := q
    have hi : i < line.length := by
      have := (List.getElem?_eq_some_iff.mp hx).1
      simpa [enumL, ilist] using this
    have e : x = .tup [.int i, .int line[i]] := by
      simp only [enumL, List.getElem?_mapIdx, ilist_get, List.getElem?_eq_getElem hi, Option.map_some] at hx
      exact (Option.some.inj hx).symm
    subst e
    obtain ⟨o, s', e1, e2, e3⟩ := (hs i _ s (List.getElem?_eq_getElem hi)).ex
    rw [e1, e2, e3]
    refine ⟨by rw [spotsOf_len, List.length_take]; omega, Ok.mk ⟨rfl, rfl, hi, ?_⟩⟩
    show dput (.int line[i]) (.int i) _ = _
    rw [dput_new]
    · rw [← List.take_concat_get hi, List.concat_eq_append, spotsOf_app, List.length_take, Nat.min_eq_left q1, Nat.zero_add]; rfl
    · intro p hp
      obtain ⟨t, ht, e⟩ := spotsOf_mem hp
      rw [e]
      show decide (line[i] = t) = false
      apply decide_eq_false
      intro e2
      subst e2
      obtain ⟨j, hj, e3⟩ := List.getElem_of_mem ht
      rw [List.length_take] at hj
      rw [List.getElem_take] at e3
      exact List.pairwise_iff_getElem.mp nd j i (by omega) hi (by omega) e3
  · obtain ⟨rfl, -, rfl⟩ := q
    have e : (enumL (ilist line)).length = line.length := by simp [enumL, ilist]
    rw [e, List.take_length]; exact hP
end Cr

set_option maxRecDepth 100000
namespace Cr
open PySem PyProof.Rows
section
variable {st : Store} {PB : Bool → Store → Prop} {P : D → Store → Prop} {PL : List D → Store → Prop} {PH : Hd → Store → Prop} {PU : Unit → Store → Prop} {PI : Int → Store → Prop} {PE : Env → Store → Prop}
@[simp] theorem tr_bl {b : Bool} : Ok (Cr.truthy (.bl b) st) PB ↔ PB b st := by first | exact Ok.it | exact Iff.rfl
@[simp] theorem tr_non : Ok (Cr.truthy .non st) PB ↔ PB false st := by first | exact Ok.it | exact Iff.rfl
@[simp] theorem tr_int {i : Int} : Ok (Cr.truthy (.int i) st) PB ↔ PB (i != 0) st := by first | exact Ok.it | exact Iff.rfl
@[simp] theorem tr_tup {xs : List D} : Ok (Cr.truthy (.tup xs) st) PB ↔ PB (!xs.isEmpty) st := by first | exact Ok.it | exact Iff.rfl
@[simp] theorem o_add {i j : Int} : Ok (op2 .add (.int i) (.int j) st) P ↔ P (.int (i + j)) st := by first | exact Ok.it | exact Iff.rfl
@[simp] theorem o_sub {i j : Int} : Ok (op2 .sub (.int i) (.int j) st) P ↔ P (.int (i - j)) st := by first | exact Ok.it | exact Iff.rfl
theorem Ok_ite {α : Type} {c : Prop} [Decidable c] {a b : Rs α} {P : α → Store → Prop} : Ok (if c then a else b) P ↔ if c then Ok a P else Ok b P := by split <;> rfl
theorem OkS_ite {c : Prop} [Decidable c] {a b : Os} {N : Env → Store → Prop} {R : D → Store → Prop} : OkS (if c then a else b) N R ↔ if c then OkS a N R else OkS b N R := by split <;> rfl
theorem o_mod {i j : Int} (h : 0 < j) : Ok (op2 .mod (.int i) (.int j) st) P ↔ P (.int (i % j)) st := by
  show Ok (if 0 < j then _ else _) _ ↔ _; rw [if_pos h]; first | rfl | exact Ok.it
theorem o_fdiv {i j : Int} (h : 0 < j) (h2 : j < 2 ^ 29) : Ok (op2 .fdiv (.int i) (.int j) st) P ↔ P (.int (i / j)) st := by
  show Ok (if 0 < j ∧ j < 2 ^ 29 then _ else _) _ ↔ _; rw [if_pos ⟨h, h2⟩]; first | rfl | exact Ok.it
theorem o_mul {i j : Int} (h : (bigOk i || bigOk j || (wideOk i && wideOk j)) = true) : Ok (op2 .mul (.int i) (.int j) st) P ↔ P (.int (i * j)) st := by
  show Ok (if _ then _ else _) _ ↔ _; rw [if_pos h]; first | rfl | exact Ok.it
theorem o_pow {i j : Int} (h : 0 ≤ j ∧ j ≤ 100000 ∧ bigOk i) : Ok (op2 .pow (.int i) (.int j) st) P ↔ P (.int (i ^ j.toNat)) st := by
  show Ok (if _ then _ else _) _ ↔ _; rw [if_pos h]; first | rfl | exact Ok.it
theorem o_addT {xs ys : List D} (h : xs.length + ys.length ≤ 100000) : Ok (op2 .add (.tup xs) (.tup ys) st) P ↔ P (.tup (xs ++ ys)) st := by
  show Ok (if _ then _ else _) _ ↔ _; rw [if_pos h]; first | rfl | exact Ok.it
theorem eqB_ints {i j : Int} : eqB st (.int i) (.int j) = some (decide (i = j)) := by
  show some (PyData.eqv (.int i) (.int j)) = _; rw [eqv_int]
theorem eqB_strs {x y : Str} : eqB st (.str x) (.str y) = some (decide (x = y)) := rfl
@[simp] theorem c_lt {i j : Int} : Ok (cmp .lt (.int i) (.int j) st) PB ↔ PB (decide (i < j)) st := by first | exact Ok.it | exact Iff.rfl
@[simp] theorem c_gt {i j : Int} : Ok (cmp .gt (.int i) (.int j) st) PB ↔ PB (decide (j < i)) st := by first | exact Ok.it | exact Iff.rfl
@[simp] theorem c_le {i j : Int} : Ok (cmp .le (.int i) (.int j) st) PB ↔ PB (decide (i ≤ j)) st := by first | exact Ok.it | exact Iff.rfl
@[simp] theorem c_ge {i j : Int} : Ok (cmp .ge (.int i) (.int j) st) PB ↔ PB (decide (j ≤ i)) st := by first | exact Ok.it | exact Iff.rfl
theorem c_eq {a b : D} {v : Bool} (h : eqB st a b = some v) : Ok (cmp .eq a b st) PB ↔ PB v st := by
  show Ok (match eqB st a b with | some c => .ok c st | none => .err) _ ↔ _; rw [h]; first | rfl | exact Ok.it
theorem c_ne {a b : D} {v : Bool} (h : eqB st a b = some v) : Ok (cmp .ne a b st) PB ↔ PB (!v) st := by
  show Ok (match (eqB st a b).map (!·) with | some c => .ok c st | none => .err) _ ↔ _; rw [h]; first | rfl | exact Ok.it
theorem c_in {a b : D} {v : Bool} (h : inB st a b = some v) : Ok (cmp .isIn a b st) PB ↔ PB v st := by
  show Ok (match inB st a b with | some c => .ok c st | none => .err) _ ↔ _; rw [h]; first | rfl | exact Ok.it
theorem c_nin {a b : D} {v : Bool} (h : inB st a b = some v) : Ok (cmp .notIn a b st) PB ↔ PB (!v) st := by
  show Ok (match (inB st a b).map (!·) with | some c => .ok c st | none => .err) _ ↔ _; rw [h]; first | rfl | exact Ok.it
@[simp] theorem c_eqI {i j : Int} : Ok (cmp .eq (.int i) (.int j) st) PB ↔ PB (decide (i = j)) st := c_eq eqB_ints
@[simp] theorem c_neI {i j : Int} : Ok (cmp .ne (.int i) (.int j) st) PB ↔ PB (!decide (i = j)) st := c_ne eqB_ints
@[simp] theorem c_eqS {x y : Str} : Ok (cmp .eq (.str x) (.str y) st) PB ↔ PB (decide (x = y)) st := c_eq eqB_strs
@[simp] theorem c_neS {x y : Str} : Ok (cmp .ne (.str x) (.str y) st) PB ↔ PB (!decide (x = y)) st := c_ne eqB_strs
@[simp] theorem f_len {xs : List D} : Ok (f1 .len (.tup xs) st) P ↔ P (.int xs.length) st := by first | exact Ok.it | exact Iff.rfl
@[simp] theorem f_lenLit {xs : List Int} : Ok (f1 .len (.lit xs) st) P ↔ P (.int xs.length) st := by first | exact Ok.it | exact Iff.rfl
theorem f_lenL {l : Nat} {xs : List D} (h : getL st l = some xs) : Ok (f1 .len (.loc l) st) P ↔ P (.int xs.length) st := by
  show Ok (match getL st l with | some xs => .ok (D.int xs.length) st | none => .err) _ ↔ _; rw [h]; first | rfl | exact Ok.it
@[simp] theorem f_abs {i : Int} : Ok (f1 .abs (.int i) st) P ↔ P (.int (if i < 0 then -i else i)) st := by first | exact Ok.it | exact Iff.rfl
theorem f_lenSet {ns : List Int} (h : ns.length < 1000) : Ok (f1 .lenSet (.tup (ilist ns)) st) P ↔ P (.int (lenNub ns)) st := by
  show Ok (match intsOf (ilist ns) with | some ns => if ns.length < 1000 then .ok (D.int (lenNub ns)) st else .err | none => .err) _ ↔ _
  rw [intsOf_ilist]
  show Ok (if ns.length < 1000 then _ else _) _ ↔ _
  rw [if_pos h]; first | rfl | exact Ok.it
@[simp] theorem f_tuple {xs : List D} : Ok (fs .tuple xs st) P ↔ P (.tup xs) st := by first | exact Ok.it | exact Iff.rfl
theorem f_all {bs : List Bool} : Ok (fs .all (bs.map .bl) st) P ↔ P (.bl (bs.all id)) st := by
  show Ok (match boolsOf (bs.map .bl) with | some bs => .ok (D.bl (bs.all id)) st | none => .err) _ ↔ _
  rw [boolsOf_map]; first | rfl | exact Ok.it
theorem f_any {bs : List Bool} : Ok (fs .any (bs.map .bl) st) P ↔ P (.bl (bs.any id)) st := by
  show Ok (match boolsOf (bs.map .bl) with | some bs => .ok (D.bl (bs.any id)) st | none => .err) _ ↔ _
  rw [boolsOf_map]; first | rfl | exact Ok.it
theorem f_sum {ns : List Int} : Ok (fs .sum (ilist ns) st) P ↔ P (.int ns.sum) st := by
  show Ok (match intsOf (ilist ns) with | some ns => .ok (D.int ns.sum) st | none => .err) _ ↔ _
  rw [intsOf_ilist]; first | rfl | exact Ok.it
theorem f_max {n : Int} {ns : List Int} : Ok (fs .max (ilist (n :: ns)) st) P ↔ P (.int (maxI n ns)) st := by
  show Ok (match intsOf (ilist (n :: ns)) with | some (n :: ns) => .ok (D.int (maxI n ns)) st | _ => .err) _ ↔ _
  rw [intsOf_ilist]; first | rfl | exact Ok.it
theorem f_min {n : Int} {ns : List Int} : Ok (fs .min (ilist (n :: ns)) st) P ↔ P (.int (minI n ns)) st := by
  show Ok (match intsOf (ilist (n :: ns)) with | some (n :: ns) => .ok (D.int (minI n ns)) st | _ => match dataMin (ilist (n :: ns)) with | some d => .ok d st | none => .err) _ ↔ _
  rw [intsOf_ilist]; first | rfl | exact Ok.it
@[simp] theorem f2_max {i j : Int} : Ok (f2 .max (.int i) (.int j) st) P ↔ P (.int (if j > i then j else i)) st := by first | exact Ok.it | exact Iff.rfl
@[simp] theorem f2_min {i j : Int} : Ok (f2 .min (.int i) (.int j) st) P ↔ P (.int (if j < i then j else i)) st := by first | exact Ok.it | exact Iff.rfl
theorem f2_divmod {i j : Int} (h : 0 < j) (h2 : j < 2 ^ 29) : Ok (f2 .divmod (.int i) (.int j) st) P ↔ P (.tup [.int (i / j), .int (i % j)]) st := by
  show Ok (if 0 < j ∧ j < 2 ^ 29 then _ else _) _ ↔ _; rw [if_pos ⟨h, h2⟩]; first | rfl | exact Ok.it
theorem x_tup {xs : List D} {k : Int} {v : D} (h : atL xs k = some v) : Ok (idx (.tup xs) (.int k) st) P ↔ P v st := by
  show Ok (match atL xs k with | some v => .ok v st | none => .err) _ ↔ _; rw [h]; first | rfl | exact Ok.it
theorem x_loc {l : Nat} {xs : List D} {k : Int} {v : D} (hl : st[l]? = some (.lst xs)) (h : atL xs k = some v) : Ok (idx (.loc l) (.int k) st) P ↔ P v st := by
  show Ok (match st[l]?, D.int k with
    | some (.lst xs), .int k => (match atL xs k with
      | some v => .ok v st
      | none => .err)
    | some (.dict kvs), k => (match dget st k kvs with
      | some v => .ok v st
      | none => .err)
    | _, _ => .err) _ ↔ _
  rw [hl]
  show Ok (match atL xs k with | some v => .ok v st | none => .err) _ ↔ _; rw [h]; first | rfl | exact Ok.it
theorem idx_dict {l : Nat} {kvs : List (D × D)} {k : D} (hl : st[l]? = some (.dict kvs)) : idx (.loc l) k st = match dget st k kvs with
      | some v => .ok v st
      | none => .err := by
  cases k <;> (simp only [idx, hl] <;> (cases dget st _ kvs <;> rfl))
theorem x_dict {l : Nat} {kvs : List (D × D)} {k v : D} (hl : st[l]? = some (.dict kvs)) (h : dget st k kvs = some v) : Ok (idx (.loc l) k st) P ↔ P v st := by
  rw [idx_dict hl, h]; first | rfl | exact Ok.it
theorem atL_nat {α : Type} {xs : List α} {i : Nat} {v : α} (h : xs[i]? = some v) : atL xs (i : Int) = some v := by
  have hi := (List.getElem?_eq_some_iff.mp h).1
  unfold atL ixN
  rw [if_pos (by omega), if_pos (by omega)]
  exact h
theorem atL_of {α : Type} {xs : List α} {i : Int} {v : α} (h0 : 0 ≤ i) (h : xs[i.toNat]? = some v) : atL xs i = some v := by
  have := atL_nat h
  rwa [Int.toNat_of_nonneg h0] at this
@[simp] theorem s_tup {xs : List D} {lo hi : Option Int} : Ok (slc (.tup xs) lo hi st) P ↔ P (.tup (cut xs lo hi)) st := by first | exact Ok.it | exact Iff.rfl
@[simp] theorem s_lit {ns : List Int} {lo hi : Option Int} : Ok (slc (.lit ns) lo hi st) P ↔ P (.loc st.length) (st ++ [.lst (ilist (cut ns lo hi))]) := by first | exact Ok.it | exact Iff.rfl
@[simp] theorem r_tup {xs : List D} : Ok (rev (.tup xs) st) P ↔ P (.tup xs.reverse) st := by first | exact Ok.it | exact Iff.rfl
theorem bx {xs : List D} (h : xs.length ≤ 100000) : Ok (boxed xs st) P ↔ P (.tup xs) st := by
  unfold boxed; rw [if_pos h]; first | rfl | exact Ok.it
theorem ltd {xs : List D} (h : xs.length ≤ 100000) : Ok (listed xs st) PL ↔ PL xs st := by
  unfold listed; rw [if_pos h]; first | rfl | exact Ok.it
@[simp] theorem it_tup {xs : List D} : Ok (itemsOf (.tup xs) st) PL ↔ PL xs st := by first | exact Ok.it | exact Iff.rfl
@[simp] theorem it_lit {xs : List Int} : Ok (itemsOf (.lit xs) st) PL ↔ PL (ilist xs) st := by first | exact Ok.it | exact Iff.rfl
theorem itM_loc {l : Nat} {xs : List D} (h : getL st l = some xs) : Ok (itemsOf (.loc l) st) PL ↔ PL xs st := by
  show Ok (match getL st l with | some xs => .ok xs st | none => .err) _ ↔ _; rw [h]; first | rfl | exact Ok.it
@[simp] theorem hd_tup {xs : List D} : Ok (hdOf (.tup xs) st) PH ↔ PH (.its xs) st := by first | exact Ok.it | exact Iff.rfl
theorem hdM_loc {l : Nat} {xs : List D} (h : getL st l = some xs) : Ok (hdOf (.loc l) st) PH ↔ PH (.ls l) st := by
  show Ok (match getL st l with | some _ => .ok (Hd.ls l) st | none => .err) _ ↔ _; rw [h]; first | rfl | exact Ok.it
theorem rg_h {i j : Int} (h : rngOk i = true) (h2 : rngOk j = true) : Ok (rngH (.int i) (.int j) st) PH ↔ PH (.rg i (j - i).toNat) st := by
  show Ok ((if rngOk i && rngOk j then M.ret (Hd.rg i (j - i).toNat) else M.err : M Hd) st) _ ↔ _
  rw [h, h2]; first | rfl | exact Ok.it
theorem rg_b {i j : Int} (h : rngOk i = true) (h2 : rngOk j = true) (h3 : (j - i).toNat ≤ 100000) : Ok (rngB (.int i) (.int j) st) PL ↔ PL (rngL i j) st := by
  show Ok ((if rngOk i && rngOk j && decide ((j - i).toNat ≤ 100000) then M.ret (rngL i j) else M.err : M _) st) _ ↔ _
  rw [h, h2, decide_eq_true h3]; first | rfl | exact Ok.it
theorem rngOk_of {i : Int} (h : -1000000 ≤ i) (h2 : i ≤ 1000000) : rngOk i = true := by
  unfold rngOk; exact decide_eq_true ⟨by omega, by omega⟩
@[simp] theorem ib {i : Int} : Ok (intB (.int i) st) PI ↔ PI i st := by first | exact Ok.it | exact Iff.rfl
@[simp] theorem ki_tup {xs : List D} : Ok (kindIs .tuple (.tup xs) st) PU ↔ PU () st := by first | exact Ok.it | exact Iff.rfl
theorem ki_loc {l : Nat} {xs : List D} (h : st[l]? = some (.lst xs)) : Ok (kindIs .list (.loc l) st) PU ↔ PU () st := by
  show Ok (match st[l]? with | some (.lst _) => .ok () st | _ => .err) _ ↔ _; rw [h]; first | rfl | exact Ok.it
theorem m_append {l : Nat} {xs : List D} {v : D} (h : st[l]? = some (.lst xs)) (h2 : xs.length < 100000) : Ok (meth .append .list (.loc l) [v] st) P ↔ P .non (st.set l (.lst (xs ++ [v]))) := by
  show Ok (match st[l]? with | some (.lst xs) => if xs.length < 100000 then .ok D.non (st.set l (.lst (xs ++ [v]))) else .err | _ => .err) _ ↔ _
  rw [h]; show Ok (if xs.length < 100000 then _ else _) _ ↔ _; rw [if_pos h2]; first | rfl | exact Ok.it
theorem m_extend {l : Nat} {xs ys : List D} (h : st[l]? = some (.lst xs)) (h2 : xs.length + ys.length ≤ 100000) : Ok (extend (.loc l) ys st) P ↔ P .non (st.set l (.lst (xs ++ ys))) := by
  show Ok (match st[l]? with | some (.lst xs) => if xs.length + ys.length ≤ 100000 then .ok D.non (st.set l (.lst (xs ++ ys))) else .err | _ => .err) _ ↔ _
  rw [h]; show Ok (if xs.length + ys.length ≤ 100000 then _ else _) _ ↔ _; rw [if_pos h2]; first | rfl | exact Ok.it
theorem m_pop {l : Nat} {xs : List D} {i : Int} {v : D} (h : st[l]? = some (.lst xs)) (h0 : 0 ≤ i) (h1 : xs[i.toNat]? = some v) : Ok (meth .pop .list (.loc l) [.int i] st) P ↔ P v (st.set l (.lst (xs.eraseIdx i.toNat))) := by
  show Ok (match st[l]? with
    | some (.lst xs) => (match ixN xs.length i with
      | some j => (match xs[j]? with
        | some v => .ok v (st.set l (.lst (xs.eraseIdx j)))
        | none => .err)
      | none => .err)
    | _ => .err) _ ↔ _
  rw [h]
  have hi := (List.getElem?_eq_some_iff.mp h1).1
  have e : ixN xs.length i = some i.toNat := by unfold ixN; rw [if_pos h0, if_pos (by omega)]
  show Ok (match ixN xs.length i with
      | some j => (match xs[j]? with
        | some v => .ok v (st.set l (.lst (xs.eraseIdx j)))
        | none => .err)
      | none => .err) _ ↔ _
  rw [e]
  show Ok (match xs[i.toNat]? with
        | some v => .ok v (st.set l (.lst (xs.eraseIdx i.toNat)))
        | none => .err) _ ↔ _
  rw [h1]; first | rfl | exact Ok.it
theorem m_index {xs : List D} {v : D} {k : Nat} (h : findIx st v (.tup xs) = some k) : Ok (meth .index .tuple (.tup xs) [v] st) P ↔ P (.int k) st := by
  show Ok (match findIx st v (.tup xs) with | some k => .ok (D.int k) st | none => .err) _ ↔ _; rw [h]; first | rfl | exact Ok.it
theorem sa_loc {l : Nat} {xs : List D} {i : Int} {v : D} (h : st[l]? = some (.lst xs)) (h0 : 0 ≤ i) (h1 : i < xs.length) : Ok (setAt (.loc l) (.int i) v st) PU ↔ PU () (st.set l (.lst (xs.set i.toNat v))) := by
  show Ok (match st[l]? with
    | some (.lst xs) => (match ixN xs.length i with
      | some j => .ok () (st.set l (.lst (xs.set j v)))
      | none => .err)
    | _ => .err) _ ↔ _
  rw [h]
  have e : ixN xs.length i = some i.toNat := by unfold ixN; rw [if_pos h0, if_pos h1]
  show Ok (match ixN xs.length i with
      | some j => .ok () (st.set l (.lst (xs.set j v)))
      | none => .err) _ ↔ _
  rw [e]; first | rfl | exact Ok.it
@[simp] theorem bt_nm {i : Nat} {d : D} {env : Env} : Ok (bindTg (.nm i) d env st) PE ↔ PE (env.set i (some d)) st := by first | exact Ok.it | exact Iff.rfl
theorem bt_tp {is : List Nat} {xs : List D} {env : Env} (h : xs.length = is.length) : Ok (bindTg (.tp is) (.tup xs) env st) PE ↔ PE ((is.zip xs).foldl (fun e p => e.set p.1 (some p.2)) env) st := by
  show Ok ((if xs.length = is.length then M.ret _ else M.err : M Env) st) _ ↔ _; rw [if_pos h]; first | rfl | exact Ok.it
theorem bt_tn {i : Nat} {is : List Nat} {x : D} {xs : List D} {env : Env} (h : xs.length = is.length) : Ok (bindTg (.tn i is) (.tup [x, .tup xs]) env st) PE ↔ PE ((is.zip xs).foldl (fun e p => e.set p.1 (some p.2)) (env.set i (some x))) st := by
  show Ok ((if xs.length = is.length then M.ret _ else M.err : M Env) st) PE ↔ _; rw [if_pos h]; first | rfl | exact Ok.it
theorem tupsOf_il : ∀ ts : List (List Int), tupsOf (ts.map fun t => D.tup (ilist t)) = some ts
  | [] => rfl
  | t :: r => by
    have e : tupI? (.tup (ilist t)) = some t := intsOf_ilist t
    show (match tupI? (.tup (ilist t)), tupsOf (r.map fun t => D.tup (ilist t)) with | some n, some ns => some (n :: ns) | _, _ => none) = _
    rw [e, tupsOf_il r]
theorem dtsOf_dtsO (ts : List (List Int)) : dtsOf (dtsO ts) = some ts := by
  show tupsOf ((ts.map fun t => ((Str.ofString ""), D.tup (ilist t))).map (·.2)) = _
  rw [List.map_map]
  exact tupsOf_il ts
theorem sa_dts {l : Nat} {ts : List (List Int)} {ns : List Int} (h : st[l]? = some (dtsO ts)) (hl : ts.length < 100000) : Ok (setAt (.loc l) (.tup (ilist ns)) (.bl true) st) PU ↔ PU () (st.set l (dtsO (putTs ts ns))) := by
  have e : setAt (.loc l) (.tup (ilist ns)) (.bl true) st = .ok () (st.set l (dtsO (putTs ts ns))) := by
    simp only [setAt, h, intsOf_ilist, dtsOf_dtsO]
    rw [if_pos hl]
  rw [e]
  exact Ok.it
theorem dct_ok {ns : List Int} {PT : List (List Int) → Store → Prop} : Ok (dctB (.tup (ilist ns)) (.bl true) st) PT ↔ PT [ns] st := by
  show Ok (M.opt ((intsOf (ilist ns)).map fun ns => [ns]) st) PT ↔ _
  rw [intsOf_ilist]
  exact Ok.it
theorem dts_ok {l : Nat} {ts : List (List Int)} {PT : List (List Int) → Store → Prop} (h : st[l]? = some (dtsO ts)) : Ok (dtsB (.loc l) st) PT ↔ PT ts st := by
  have e : dtsB (.loc l) st = .ok ts st := by simp only [dtsB, h, Option.bind_some, dtsOf_dtsO]
  rw [e]
  exact Ok.it
theorem f_repr {d : D} {p : PyData} {B k : Nat} (h : Nc st d p B k) (hk : k ≤ 30) (hB : B ≤ 100000) : Ok (f1 .repr d st) P ↔ P (.str p.shown) st := by rw [h.repr hk hB]; first | rfl | exact Ok.it
theorem pm_b {xs : List D} (h : xs.length ≤ 5) : Ok (permB xs none st) PH ↔ PH (.its ((perms xs.length xs).map .tup)) st := by
  show Ok ((if xs.length ≤ 5 then M.ret _ else M.err : M Hd) st) _ ↔ _; rw [if_pos h]; first | rfl | exact Ok.it
end
theorem Ok_compM {h : Hd} {step : D → M (Option D)} {xs : List D} {ls : List Nat} {st : Store} (H : HdIs ls h xs st) (hl : xs.length ≤ 100000) (f : D → D)
    (hs : ∀ x ∈ xs, ∀ s, Gr ls st s → Ok (step x s) fun o s' => o = some (f x) ∧ Gr ls s s')
    {P : List D → Store → Prop} (hP : ∀ s, Gr ls st s → P (xs.map f) s) : Ok (compH h step st) P :=
  Ok_comp H hl (fun x => some (f x)) hs (by rw [List.filterMap_eq_map']; exact hP)
/-- over the images of a list: each turn's value, or none -/
theorem Ok_compG {α : Type} {h : Hd} {step : D → M (Option D)} {as : List α} {g : α → D} {ls : List Nat} {st : Store} (H : HdIs ls h (as.map g) st) (hl : as.length ≤ 100000) (f : α → Option D)
    (hs : ∀ a ∈ as, ∀ s, Gr ls st s → Ok (step (g a) s) fun o s' => o = f a ∧ Gr ls s s')
    {P : List D → Store → Prop} (hP : ∀ s, Gr ls st s → P (as.filterMap f) s) : Ok (compH h step st) P := by
  refine Ok_comp_inv H (by simpa using hl) (fun i acc s => acc = (as.take i).filterMap f) (by simp) (fun i x acc s hx gr e => ?_) (fun r s gr e => ?_)
  · rw [List.getElem?_map] at hx
    have hi : i < as.length := by
      rcases Nat.lt_or_ge i as.length with hi | hi
      · exact hi
      · rw [List.getElem?_eq_none hi] at hx; cases hx
    rw [List.getElem?_eq_getElem hi] at hx
    cases hx
    refine (hs as[i] (List.getElem_mem hi) s gr).imp fun o s' k => ⟨k.2, ?_⟩
    have e2 : (as.take (i + 1)).filterMap f = (as.take i).filterMap f ++ (match f as[i] with | some v => [v] | none => []) := by
      rw [← List.take_concat_get hi, List.concat_eq_append, List.filterMap_append]
      cases e3 : f as[i] <;> simp [e3]
    obtain ⟨k1, -⟩ := k
    subst k1
    rw [e2, e]
    cases f as[i] <;> simp
  · rw [e, List.length_map, List.take_length]; exact hP s gr
theorem Ok_compGM {α : Type} {h : Hd} {step : D → M (Option D)} {as : List α} {g : α → D} {ls : List Nat} {st : Store} (H : HdIs ls h (as.map g) st) (hl : as.length ≤ 100000) (f : α → D)
    (hs : ∀ a ∈ as, ∀ s, Gr ls st s → Ok (step (g a) s) fun o s' => o = some (f a) ∧ Gr ls s s')
    {P : List D → Store → Prop} (hP : ∀ s, Gr ls st s → P (as.map f) s) : Ok (compH h step st) P :=
  Ok_compG H hl (fun x => some (f x)) hs (by rw [List.filterMap_eq_map']; exact hP)
theorem filterMap_if_aux {α β : Type} {p : α → Bool} {g : α → β} : ∀ as : List α, as.filterMap (fun x => if p x then some (g x) else none) = (as.filter p).map g
  | [] => rfl
  | a :: r => by
    rw [List.filterMap_cons, List.filter_cons]
    have := filterMap_if_aux (p := p) (g := g) r
    cases p a <;> simp [this]
/-- over the images of a list, those that pass -/
theorem Ok_compGF {α : Type} {h : Hd} {step : D → M (Option D)} {as : List α} {g : α → D} {ls : List Nat} {st : Store} (H : HdIs ls h (as.map g) st) (hl : as.length ≤ 100000) (p : α → Bool)
    (hs : ∀ a ∈ as, ∀ s, Gr ls st s → Ok (step (g a) s) fun o s' => o = (if p a then some (g a) else none) ∧ Gr ls s s')
    {P : List D → Store → Prop} (hP : ∀ s, Gr ls st s → P ((as.filter p).map g) s) : Ok (compH h step st) P := by
  refine Ok_compG H hl (fun x => if p x then some (g x) else none) hs ?_
  rw [filterMap_if_aux]; exact hP
/-- .. that goes on with what is there -/
theorem Ok_compA {α : Type} {h : Hd} {step : D → M (Option D)} {as : List α} {g : α → D} {ls : List Nat} {st : Store} {acc : List D} (H : HdIs ls h (as.map g) st) (hl : acc.length + as.length ≤ 100000) (f : α → Option D)
    (hs : ∀ a ∈ as, ∀ s, Gr ls st s → Ok (step (g a) s) fun o s' => o = f a ∧ Gr ls s s')
    {P : List D → Store → Prop} (hP : ∀ s, Gr ls st s → P (acc ++ as.filterMap f) s) : Ok (compA h step acc st) P := by
  show Ok (match h.len st with | some n => compN (fun st i => h.get st i) step n 0 acc st | none => .err) P
  rw [H.1]
  refine (compN_inv (xs := as.map g) (fun i ac s => Gr ls st s ∧ ac = acc ++ (as.take i).filterMap f) (fun i ac s q => H.2 s q.1 i) (fun i x ac s hx q => ?_) (as.map g).length 0 acc st rfl ⟨Gr.refl _ _, by simp⟩).imp fun r s q => ?_
  · rw [List.getElem?_map] at hx
    have hi : i < as.length := by
      rcases Nat.lt_or_ge i as.length with hi | hi
      · exact hi
      · rw [List.getElem?_eq_none hi] at hx; cases hx
    rw [List.getElem?_eq_getElem hi] at hx
    cases hx
    have hfl : ((as.take i).filterMap f).length ≤ i := Nat.le_trans (List.length_filterMap_le f _) (by rw [List.length_take]; omega)
    refine ⟨by rw [q.2, List.length_append]; omega, (hs as[i] (List.getElem_mem hi) s q.1).imp fun o s' k => ?_⟩
    have e2 : (as.take (i + 1)).filterMap f = (as.take i).filterMap f ++ (match f as[i] with | some v => [v] | none => []) := by
      rw [← List.take_concat_get hi, List.concat_eq_append, List.filterMap_append]
      cases e3 : f as[i] <;> simp [e3]
    obtain ⟨k1, k2⟩ := k
    subst k1
    rw [e2, q.2]
    cases f as[i]
    · exact ⟨q.1.trans k2, by simp⟩
    · exact ⟨q.1.trans k2, by simp⟩
  · obtain ⟨q1, q2⟩ := q
    rw [q2, List.length_map, List.take_length]
    exact hP s q1
theorem compF_inv {get : Store → Nat → Option (Option D)} {step : D → List D → M (List D)} {xs : List D} (inv : Nat → List D → Store → Prop)
    (hg : ∀ i acc s, inv i acc s → get s i = some xs[i]?)
    (hs : ∀ i x acc s, xs[i]? = some x → inv i acc s → Ok (step x acc s) fun r s' => inv (i + 1) r s') :
    ∀ (n i : Nat) (acc : List D) (s : Store), n + i = xs.length → inv i acc s → Ok (compF get step n i acc s) fun r s' => inv xs.length r s'
  | 0, i, acc, s, hn, h => by
    have e := hg i acc s h
    rw [List.getElem?_eq_none (by omega)] at e
    show Ok (match get s i with | some none => .ok acc s | _ => .err) _
    rw [e]
    have : i = xs.length := by omega
    subst this; exact Ok.mk h
  | n + 1, i, acc, s, hn, h => by
    have e := hg i acc s h
    have hi : i < xs.length := by omega
    rw [List.getElem?_eq_getElem hi] at e
    show Ok (match get s i with
      | some none => .ok acc s
      | some (some d) => (match step d acc s with
        | .ok acc' st' => compF get step n (i + 1) acc' st'
        | _ => .err)
      | none => .err) _
    rw [e]
    obtain ⟨o, s', e2, q⟩ := (hs i _ acc s (List.getElem?_eq_getElem hi) h).ex
    show Ok (match step xs[i] acc s with
        | .ok acc' st' => compF get step n (i + 1) acc' st'
        | _ => .err) _
    rw [e2]
    exact compF_inv inv hg hs n (i + 1) o s' (by omega) q
/-- two fors in one comprehension: what each outer turn makes -/
theorem Ok_compHF {α : Type} {h : Hd} {step : D → List D → M (List D)} {as : List α} {g : α → D} {ls : List Nat} {st : Store} (H : HdIs ls h (as.map g) st) (L : Nat) (f : α → List D) (hf : ∀ a ∈ as, (f a).length ≤ L)
    (hs : ∀ a ∈ as, ∀ acc s, Gr ls st s → acc.length ≤ as.length * L → Ok (step (g a) acc s) fun r s' => r = acc ++ f a ∧ Gr ls s s')
    {P : List D → Store → Prop} (hP : ∀ s, Gr ls st s → P (as.flatMap f) s) : Ok (compHF h step st) P := by
  show Ok (match h.len st with | some n => compF (fun st i => h.get st i) step n 0 [] st | none => .err) P
  rw [H.1]
  refine (compF_inv (xs := as.map g) (fun i ac s => Gr ls st s ∧ ac = (as.take i).flatMap f ∧ ac.length ≤ i * L) (fun i ac s q => H.2 s q.1 i) (fun i x ac s hx q => ?_) (as.map g).length 0 [] st rfl ⟨Gr.refl _ _, by simp, by simp⟩).imp fun r s q => ?_
  · rw [List.getElem?_map] at hx
    have hi : i < as.length := by
      rcases Nat.lt_or_ge i as.length with hi | hi
      · exact hi
      · rw [List.getElem?_eq_none hi] at hx; cases hx
    rw [List.getElem?_eq_getElem hi] at hx
    cases hx
    obtain ⟨q1, q2, q3⟩ := q
    refine (hs as[i] (List.getElem_mem hi) ac s q1 (Nat.le_trans q3 (Nat.mul_le_mul_right _ (Nat.le_of_lt hi)))).imp fun o s' k => ?_
    obtain ⟨k1, k2⟩ := k
    subst k1
    refine ⟨q1.trans k2, ?_, ?_⟩
    · rw [← List.take_concat_get hi, List.concat_eq_append, List.flatMap_append, q2]; simp
    · have := hf as[i] (List.getElem_mem hi)
      rw [List.length_append, Nat.succ_mul]; omega
  · obtain ⟨q1, q2, q3⟩ := q
    rw [q2, List.length_map, List.take_length]
    exact hP s q1
theorem all_ilist {m : List Int} {f : Int → Bool} : (m.map fun i => D.bl (f i)) = (m.map f).map .bl := by rw [List.map_map]; first | rfl | exact Ok.it
theorem sIx_some (n d k : Nat) : sIx n d (some ((k : Nat) : Int)) = min k n := by
  unfold sIx
  simp only []
  rw [if_neg (by omega)]
  omega
theorem cut_take {α : Type} (xs : List α) (k : Nat) : cut xs none (some ((k : Nat) : Int)) = xs.take k := by
  unfold cut
  rw [sIx_some, show sIx xs.length 0 none = 0 from rfl, List.drop_zero, Nat.sub_zero]
  rw [List.take_eq_take_iff]; omega
theorem cut_drop {α : Type} (xs : List α) (k : Nat) : cut xs (some ((k : Nat) : Int)) none = xs.drop k := by
  unfold cut
  rw [sIx_some, show sIx xs.length xs.length none = xs.length from rfl]
  by_cases h : k ≤ xs.length
  · rw [Nat.min_eq_left h, List.take_of_length_le (by rw [List.length_drop]; omega)]
  · rw [Nat.min_eq_right (by omega), List.drop_of_length_le (Nat.le_refl _), List.drop_of_length_le (by omega)]; simp
def mxL : List Int → Int
  | [] => 0
  | n :: ns => maxI n ns
def mnL : List Int → Int
  | [] => 0
  | n :: ns => minI n ns
theorem f_mxL {st : Store} {P : D → Store → Prop} {ns : List Int} (h : ns ≠ []) : Ok (fs .max (ilist ns) st) P ↔ P (.int (mxL ns)) st := by
  cases ns with
  | nil => exact absurd rfl h
  | cons n ns => exact f_max
theorem f_mnL {st : Store} {P : D → Store → Prop} {ns : List Int} (h : ns ≠ []) : Ok (fs .min (ilist ns) st) P ↔ P (.int (mnL ns)) st := by
  cases ns with
  | nil => exact absurd rfl h
  | cons n ns => exact f_min
theorem ilist_take (ns : List Int) (k : Nat) : (ilist ns).take k = ilist (ns.take k) := by simp [ilist, List.map_take]
theorem ilist_drop (ns : List Int) (k : Nat) : (ilist ns).drop k = ilist (ns.drop k) := by simp [ilist, List.map_drop]
theorem Gr.lt_get {s t : Store} {o : SO} (g : Gr [] (s ++ [o]) t) : t[s.length]? = some o := g.get (by simp) List.not_mem_nil
theorem getL_appL {s : Store} {xs : List D} : getL (s ++ [.lst xs]) s.length = some xs := getL_app
theorem o_mulL {st : Store} {P : D → Store → Prop} {i j : Int} (h : i.natAbs < 2 ^ 64) : Ok (op2 .mul (.int i) (.int j) st) P ↔ P (.int (i * j)) st :=
  o_mul (by rw [show bigOk i = true from decide_eq_true h]; rfl)
theorem o_mulR {st : Store} {P : D → Store → Prop} {i j : Int} (h : j.natAbs < 2 ^ 64) : Ok (op2 .mul (.int i) (.int j) st) P ↔ P (.int (i * j)) st :=
  o_mul (by rw [show bigOk j = true from decide_eq_true h, Bool.or_true]; rfl)
theorem Gr.setNew {ls : List Nat} {a b : Store} (h : Gr ls a b) {q : Nat} (hq : a.length ≤ q) {o : SO} : Gr ls a (b.set q o) :=
  ⟨by rw [List.length_set]; exact h.1, fun i hi hn => by rw [List.getElem?_set_ne (by omega)]; exact h.2 i hi hn⟩
theorem ints01 : ∀ m : Nat, ∀ i ∈ (List.range m).map (fun (k : Nat) => (k : Int)), 0 ≤ i ∧ i < m := by
  intro m i hi
  obtain ⟨k, hk, rfl⟩ := List.mem_map.mp hi
  have := List.mem_range.mp hk
  omega
@[simp] theorem mkd_pop : mkd .pop = .list := rfl
@[simp] theorem mkd_append : mkd .append = .list := rfl
@[simp] theorem mkd_extend : mkd .extend = .list := rfl
@[simp] theorem mkd_index : mkd .index = .tuple := rfl
theorem eraseIdx_mapC {α β : Type} (f : α → β) : ∀ (xs : List α) (i : Nat), (xs.map f).eraseIdx i = (xs.eraseIdx i).map f
  | [], _ => rfl
  | _ :: _, 0 => rfl
  | x :: xs, i + 1 => by
    show f x :: (xs.map f).eraseIdx i = f x :: _
    rw [eraseIdx_mapC f xs i]
theorem perm_erase {α : Type} : ∀ {xs : List α} {i : Nat} (h : i < xs.length), (xs[i] :: xs.eraseIdx i).Perm xs
  | _ :: _, 0, _ => List.Perm.refl _
  | x :: xs, i + 1, h => by
    have := perm_erase (xs := xs) (i := i) (Nat.lt_of_succ_lt_succ h)
    exact (List.Perm.swap _ _ _).trans (this.cons x)
end Cr

set_option maxRecDepth 100000
namespace Law
open PySem L2 Cr
def top (i : Nat) : Stmt := PySem.Challenge.pw_calmrolls_k60_whole_poll_words.main.body.getD i (.Pass ⟨0, 0, 0, 0⟩)
def g_is_whole : Cr.Fn := { ps := ["value"], n := 1, body := [
  .ret (.and (.isi (.var 0) .int) (.not (.isi (.var 0) .bool)))] }
def g_is_between : Cr.Fn := { ps := ["value", "least", "most"], n := 3, body := [
  .ret (.and (.call "is_whole" [.var 0] []) (.chn .le .le (.var 1) (.var 0) (.var 2)))] }
def g_is_tuple_of : Cr.Fn := { ps := ["value", "many"], n := 2, body := [
  .ret (.and (.isi (.var 0) .tuple) (.cmp .eq (.f1 .len (.var 0)) (.var 1)))] }
def g_is_row : Cr.Fn := { ps := ["value", "least", "most"], n := 3, body := [
  .ret (.and (.isi (.var 0) .tuple) (.chn .le .le (.var 1) (.f1 .len (.var 0)) (.var 2)))] }
def g_is_things : Cr.Fn := { ps := ["value"], n := 1, body := [
  .ret (.call "is_between" [.var 0, .gc "FEWEST_THINGS", .gc "MOST_THINGS"] [])] }
def g_check_things : Cr.Fn := { ps := ["things"], n := 1, body := [
  .iff (.not (.val (.call "is_things" [.var 0] []))) [.rse "" []] []] }
def g_is_thing : Cr.Fn := { ps := ["things", "value"], n := 2, body := [
  .ret (.call "is_between" [.var 1, .cst (.int 0), .op2 .sub (.var 0) (.cst (.int 1))] [])] }
def g_check_thing : Cr.Fn := { ps := ["things", "value"], n := 2, body := [
  .iff (.not (.val (.call "is_thing" [.var 0, .var 1] []))) [.rse "" []] []] }
def g_is_order : Cr.Fn := { ps := ["things", "value"], n := 3, body := [
  .iff (.or (.not (.val (.call "is_tuple_of" [.var 1, .var 0] []))) (.not (.val (.fs .all (.new (.lc (.call "is_thing" [.var 0, .var 2] []) (.nm 2) (.ls (.val (.var 1))) none [2])))))) [.ret (.cst (.bl false))] [],
  .ret (.cmp .eq (.f1 .lenSet (.var 1)) (.var 0))] }
def g_is_ahead : Cr.Fn := { ps := ["order", "one", "other"], n := 3, body := [
  .ret (.cmp .lt (.meth .index (.var 0) [.var 1]) (.meth .index (.var 0) [.var 2]))] }
def g_wrong_order : Cr.Fn := { ps := ["things", "value"], n := 4, body := [
  .ret (.fwr (.var 1) (.and (.call "is_order" [.var 0, .var 2] []) (.or (.cmp .eq (.var 3) (.tup [])) (.cmp .lt (.idx (.var 3) (.f1 .neg (.cst (.int 1)))) (.var 2)))) 2 3)] }
def g_check_orders : Cr.Fn := { ps := ["things", "value"], n := 3, body := [
  .iff (.not (.val (.call "is_row" [.var 1, .cst (.int 1), .gc "MOST_ORDERS_rolls"] []))) [.rse "" []] [],
  .asg (.nm 2) (.call "wrong_order" [.var 0, .var 1] []),
  .iff (.val (.cmp .notN (.var 2) (.cst .non))) [.rse "" []] []] }
def g_check_roll : Cr.Fn := { ps := ["things", "roll"], n := 2, body := [
  .exp (.call "check_things" [.var 0] []),
  .exp (.call "check_orders" [.var 0, .var 1] [])] }
def g_wrong_many : Cr.Fn := { ps := ["value"], n := 3, body := [
  .ret (.fwr (.var 0) (.call "is_between" [.var 1, .cst (.int 0), .gc "MOST_PEOPLE"] []) 1 2)] }
def g_check_crowd : Cr.Fn := { ps := ["roll", "value"], n := 3, body := [
  .iff (.not (.val (.call "is_tuple_of" [.var 1, .f1 .len (.var 0)] []))) [.rse "" []] [],
  .asg (.nm 2) (.call "wrong_many" [.var 1] []),
  .iff (.or (.val (.cmp .notN (.var 2) (.cst .non))) (.val (.cmp .eq (.fs .sum (.val (.var 1))) (.cst (.int 0))))) [.rse "" []] []] }
def g_check_crowded : Cr.Fn := { ps := ["things", "roll", "crowd"], n := 3, body := [
  .exp (.call "check_roll" [.var 0, .var 1] []),
  .exp (.call "check_crowd" [.var 1, .var 2] [])] }
def g_margin_by : Cr.Fn := { ps := ["roll", "crowd", "one", "other"], n := 6, body := [
  .ret (.fs .sum (.new (.lc (.ite (.val (.call "is_ahead" [.var 4, .var 2, .var 3] [])) (.var 5) (.f1 .neg (.var 5))) (.tp [4, 5]) (.zip (.var 0) (.var 1)) none [4, 5])))] }
def g_beats_by : Cr.Fn := { ps := ["roll", "crowd", "one", "other"], n := 4, body := [
  .ret (.cmp .gt (.call "margin_by" [.var 0, .var 1, .var 2, .var 3] []) (.cst (.int 0)))] }
def g_beats : Cr.Fn := { ps := ["things", "roll", "crowd", "thing", "other"], n := 5, body := [
  .exp (.call "check_crowded" [.var 0, .var 1, .var 2] []),
  .exp (.call "check_thing" [.var 0, .var 3] []),
  .iff (.or (.not (.val (.call "is_thing" [.var 0, .var 4] []))) (.val (.cmp .eq (.var 4) (.var 3)))) [.rse "" []] [],
  .ret (.call "beats_by" [.var 1, .var 2, .var 3, .var 4] [])] }
def g_is_limit : Cr.Fn := { ps := ["value"], n := 1, body := [
  .iff (.or (.not (.val (.call "is_tuple_of" [.var 0, .cst (.int 2)] []))) (.not (.val (.call "is_between" [.idx (.var 0) (.cst (.int 0)), .cst (.int 0), .gc "MOST_EACH"] [])))) [.ret (.cst (.bl false))] [],
  .ret (.call "is_between" [.idx (.var 0) (.cst (.int 1)), .idx (.var 0) (.cst (.int 0)), .gc "MOST_EACH"] [])] }
def g_wrong_limit : Cr.Fn := { ps := ["value"], n := 3, body := [
  .ret (.fwr (.var 0) (.call "is_limit" [.var 1] []) 1 2)] }
def g_is_in_all : Cr.Fn := { ps := ["value"], n := 1, body := [
  .ret (.call "is_between" [.var 0, .cst (.int 1), .gc "MOST_TOLD"] [])] }
def g_crowds_by : Cr.Fn := { ps := ["poll", "people"], n := 14, body := [
  .asg (.nm 2) (.new (.lst [.tup []])),
  .for (.tn 3 [4, 5]) (.enm (.val (.var 0))) [.par [6, 7] [.slc (.var 0) (some (.op2 .add (.var 3) (.cst (.int 1)))) none, .new (.lst [])], .asg (.tp [.nm 8, .nm 9]) (.tup [.fs .sum (.new (.lc (.idx (.var 12) (.cst (.int 0))) (.nm 12) (.ls (.val (.var 6))) none [12])), .fs .sum (.new (.lc (.idx (.var 12) (.cst (.int 1))) (.nm 12) (.ls (.val (.var 6))) none [12]))]), .for (.nm 10) (.ls (.val (.var 2))) [.asg (.nm 11) (.op2 .sub (.var 1) (.fs .sum (.val (.var 10)))), .exp (.ext (.var 7) (.new (.lc (.tupS [] (.var 10) [.var 13]) (.nm 13) (.rng (.var 4) (.op2 .add (.var 5) (.cst (.int 1)))) (some (.val (.chn .le .le (.var 8) (.op2 .sub (.var 11) (.var 13)) (.var 9)))) [13])))], .asg (.nm 2) (.var 7)],
  .ret (.var 2)] }
def g_word_by : Cr.Fn := { ps := ["roll", "poll", "people", "one", "other"], n := 7, body := [
  .asg (.nm 5) (.new (.lc (.call "beats_by" [.var 0, .var 6, .var 3, .var 4] []) (.nm 6) (.ls (.val (.call "crowds_by" [.var 1, .var 2] []))) none [6])),
  .iff (.val (.cmp .eq (.var 5) (.new (.lst [])))) [.ret (.gc "NONE")] [],
  .iff (.val (.cmp .notIn (.cst (.bl false)) (.var 5))) [.ret (.gc "SURELY")] [],
  .ret (.ite (.val (.cmp .isIn (.cst (.bl true)) (.var 5))) (.gc "MAYBE") (.gc "NEVER"))] }
def g_check_polled : Cr.Fn := { ps := ["things", "roll", "poll", "people_in_all"], n := 5, body := [
  .exp (.call "check_things" [.var 0] []),
  .exp (.call "check_roll" [.var 0, .var 1] []),
  .iff (.val (.cmp .gt (.f1 .len (.var 1)) (.gc "MOST_ORDERS_striking"))) [.rse "" []] [],
  .iff (.not (.val (.call "is_tuple_of" [.var 2, .f1 .len (.var 1)] []))) [.rse "" []] [],
  .asg (.nm 4) (.call "wrong_limit" [.var 2] []),
  .iff (.val (.cmp .notN (.var 4) (.cst .non))) [.rse "" []] [],
  .iff (.not (.val (.call "is_in_all" [.var 3] []))) [.rse "" []] []] }
def g_word : Cr.Fn := { ps := ["things", "roll", "poll", "people_in_all", "thing", "other"], n := 6, body := [
  .exp (.call "check_polled" [.var 0, .var 1, .var 2, .var 3] []),
  .exp (.call "check_thing" [.var 0, .var 4] []),
  .exp (.call "check_thing" [.var 0, .var 5] []),
  .iff (.val (.cmp .eq (.var 4) (.var 5))) [.rse "" []] [],
  .ret (.call "word_by" [.var 1, .var 2, .var 3, .var 4, .var 5] [])] }
def g__law_bag : Cr.Fn := { ps := ["script", "lap"], n := 5, body := [
  .asg (.nm 2) (.op2 .add (.cst (.int 52027)) (.op2 .mul (.cst (.int 8009)) (.var 1))),
  .for (.nm 3) (.ls (.val (.slc (.var 0) none (some (.cst (.int 16)))))) [.asg (.nm 2) (.op2 .mod (.f1 .int (.op2 .add (.op2 .add (.op2 .mul (.var 2) (.cst (.int 48271))) (.op2 .mod (.f1 .int (.var 3)) (.cst (.int 2147483629)))) (.cst (.int 23)))) (.cst (.int 2147483647)))],
  .asg (.nm 4) (.ite (.val (.cmp .lt (.var 1) (.f1 .len (.var 0)))) (.f1 .int (.idx (.var 0) (.var 1))) (.cst (.int 0))),
  .asg (.nm 2) (.op2 .mod (.f1 .int (.op2 .add (.op2 .add (.op2 .mul (.var 2) (.cst (.int 31))) (.op2 .mul (.op2 .mod (.f1 .int (.var 4)) (.cst (.int 2147483629))) (.cst (.int 17)))) (.cst (.int 3)))) (.cst (.int 2147483647))),
  .ret (.new (.lst [.ite (.or (.val (.cmp .lt (.var 4) (.cst (.int 0)))) (.val (.cmp .ge (.var 4) (.op2 .pow (.cst (.int 10)) (.cst (.int 15)))))) (.f1 .abs (.var 4)) (.cst (.int 0)), .var 2, .cst (.int 0)]))] }
def g__law_take : Cr.Fn := { ps := ["bag", "top"], n := 3, body := [
  .iff (.val (.cmp .gt (.idx (.var 0) (.cst (.int 0))) (.cst (.int 0)))) [.asg (.tp [.sub (.var 0) (.cst (.int 0)), .nm 2]) (.f2 .divmod (.idx (.var 0) (.cst (.int 0))) (.var 1)), .ret (.var 2)] [],
  .asg (.sub (.var 0) (.cst (.int 2))) (.op2 .add (.idx (.var 0) (.cst (.int 2))) (.cst (.int 1))),
  .asg (.sub (.var 0) (.cst (.int 1))) (.op2 .mod (.f1 .int (.op2 .add (.op2 .add (.op2 .mul (.idx (.var 0) (.cst (.int 1))) (.cst (.int 16807))) (.op2 .mul (.cst (.int 4099)) (.idx (.var 0) (.cst (.int 2))))) (.cst (.int 1)))) (.cst (.int 2147483647))),
  .ret (.op2 .mod (.f1 .int (.op2 .fdiv (.idx (.var 0) (.cst (.int 1))) (.cst (.int 911)))) (.var 1))] }
def g__law_pull : Cr.Fn := { ps := ["bag", "some"], n := 2, body := [
  .ret (.idx (.var 1) (.call "_law_take" [.var 0, .f1 .len (.var 1)] []))] }
def g__law_orders : Cr.Fn := { ps := ["things"], n := 6, body := [
  .asg (.nm 1) (.new (.lst [.tup []])),
  .for (.nm 2) (.rng (.cst (.int 0)) (.var 0)) [.asg (.nm 3) (.new (.lst [])), .for (.nm 4) (.ls (.val (.var 1))) [.asg (.nm 3) (.op2 .add (.var 3) (.new (.lc (.op2 .add (.var 4) (.tup [.var 5])) (.nm 5) (.rng (.cst (.int 0)) (.var 0)) (some (.val (.cmp .notIn (.var 5) (.var 4)))) [5])))], .asg (.nm 1) (.var 3)],
  .ret (.var 1)] }
def g__law_roll : Cr.Fn := { ps := ["bag", "things", "most"], n := 6, body := [
  .par [3, 4] [.new (.lst []), .call "_law_orders" [.var 1] []],
  .for (.nm 5) (.rng (.cst (.int 0)) (.op2 .add (.cst (.int 1)) (.call "_law_take" [.var 0, .var 2] []))) [.exp (.meth .append (.var 3) [.call "_law_pull" [.var 0, .var 4] []])],
  .ret (.fs .tuple (.new (.sset (.var 3))))] }
def g__law_crowd : Cr.Fn := { ps := ["bag", "roll", "most"], n := 5, body := [
  .asg (.nm 3) (.new (.lc (.call "_law_take" [.var 0, .op2 .add (.var 2) (.cst (.int 1))] []) (.nm 4) (.ls (.val (.var 1))) none [4])),
  .asg (.sub (.var 3) (.call "_law_take" [.var 0, .f1 .len (.var 1)] [])) (.op2 .add (.cst (.int 1)) (.call "_law_take" [.var 0, .var 2] [])),
  .ret (.fs .tuple (.val (.var 3)))] }
def g__law_beats : Cr.Fn := { ps := ["roll", "crowd", "one", "two"], n := 7, body := [
  .asg (.nm 4) (.fs .sum (.new (.lc (.var 6) (.tp [5, 6]) (.zip (.var 0) (.var 1)) (some (.val (.cmp .lt (.meth .index (.var 5) [.var 2]) (.meth .index (.var 5) [.var 3])))) [5, 6]))),
  .ret (.cmp .gt (.op2 .mul (.cst (.int 2)) (.var 4)) (.fs .sum (.val (.var 1))))] }
def g__law_poll : Cr.Fn := { ps := ["bag", "roll"], n := 5, body := [
  .asg (.nm 2) (.new (.lst [])),
  .for (.nm 3) (.ls (.val (.var 1))) [.asg (.nm 4) (.call "_law_take" [.var 0, .cst (.int 4)] []), .exp (.meth .append (.var 2) [.tup [.var 4, .f2 .min (.cst (.int 5)) (.op2 .add (.var 4) (.call "_law_take" [.var 0, .cst (.int 3)] []))]])],
  .ret (.fs .tuple (.val (.var 2)))] }
def g__law_crowds : Cr.Fn := { ps := ["poll", "people"], n := 8, body := [
  .asg (.nm 2) (.new (.lst [.tup []])),
  .for (.tp [3, 4]) (.ls (.val (.var 0))) [.asg (.nm 5) (.new (.lst [])), .for (.nm 6) (.ls (.val (.var 2))) [.asg (.nm 5) (.op2 .add (.var 5) (.new (.lc (.op2 .add (.var 6) (.tup [.var 7])) (.nm 7) (.rng (.var 3) (.op2 .add (.var 4) (.cst (.int 1)))) none [7])))], .asg (.nm 2) (.var 5)],
  .ret (.new (.lc (.var 6) (.nm 6) (.ls (.val (.var 2))) (some (.val (.cmp .eq (.fs .sum (.val (.var 6))) (.var 1)))) [6]))] }
def g__law_word : Cr.Fn := { ps := ["roll", "poll", "people", "one", "two"], n := 7, body := [
  .asg (.nm 5) (.new (.lc (.call "_law_beats" [.var 0, .var 6, .var 3, .var 4] []) (.nm 6) (.ls (.val (.call "_law_crowds" [.var 1, .var 2] []))) none [6])),
  .ret (.ite (.val (.cmp .eq (.var 5) (.new (.lst [])))) (.cst (.str "none")) (.ite (.val (.cmp .notIn (.cst (.bl false)) (.var 5))) (.cst (.str "surely")) (.ite (.val (.cmp .notIn (.cst (.bl true)) (.var 5))) (.cst (.str "never")) (.cst (.str "maybe")))))] }
def g__law_right : Cr.Fn := { ps := ["bag"], n := 15, body := [
  .asg (.nm 1) (.op2 .add (.cst (.int 3)) (.call "_law_take" [.var 0, .cst (.int 2)] [])),
  .asg (.nm 2) (.call "_law_roll" [.var 0, .var 1, .cst (.int 5)] []),
  .asg (.nm 3) (.call "_law_poll" [.var 0, .var 2] []),
  .asg (.nm 4) (.op2 .add (.fs .sum (.new (.lc (.var 12) (.tp [12, 13]) (.ls (.val (.var 3))) none [12, 13]))) (.call "_law_take" [.var 0, .cst (.int 5)] [])),
  .asg (.nm 4) (.f2 .min (.cst (.int 25)) (.f2 .max (.cst (.int 1)) (.var 4))),
  .par [5, 6] [.call "_law_take" [.var 0, .var 1] [], .call "_law_take" [.var 0, .op2 .sub (.var 1) (.cst (.int 1))] []],
  .asg (.nm 6) (.op2 .add (.var 6) (.f1 .int (.cmp .ge (.var 6) (.var 5)))),
  .asg (.nm 7) (.call "_law_word" [.var 2, .var 3, .var 4, .var 5, .var 6] []),
  .asg (.nm 8) (.new (.lst [.call "word" [.var 1, .var 2, .var 3, .var 4, .var 5, .var 6] []])),
  .asg (.nm 8) (.op2 .add (.var 8) (.new (.lst [.call "word" [.var 6, .var 5, .var 4, .var 3, .var 2, .var 1] ["other", "thing", "people_in_all", "poll", "roll", "things"]]))),
  .iff (.val (.cmp .ne (.f1 .repr (.var 8)) (.f1 .repr (.new (.lst [.var 7, .var 7]))))) [.ret (.cst (.bl false))] [],
  .iff (.and (.val (.cmp .eq (.var 7) (.cst (.str "surely")))) (.val (.cmp .ne (.call "word" [.var 1, .var 2, .var 3, .var 4, .var 6, .var 5] []) (.cst (.str "never"))))) [.ret (.cst (.bl false))] [],
  .iff (.val (.cmp .ne (.cmp .eq (.var 7) (.cst (.str "none"))) (.cmp .eq (.call "_law_crowds" [.var 3, .var 4] []) (.new (.lst []))))) [.ret (.cst (.bl false))] [],
  .asg (.nm 9) (.call "_law_crowd" [.var 0, .var 2, .cst (.int 4)] []),
  .asg (.nm 10) (.fs .tuple (.new (.lc (.tup [.var 14, .var 14]) (.nm 14) (.ls (.val (.var 9))) none [14]))),
  .asg (.nm 11) (.call "word" [.var 1, .var 2, .var 10, .fs .sum (.val (.var 9)), .var 5, .var 6] []),
  .iff (.val (.cmp .ne (.var 11) (.ite (.val (.call "beats" [.var 1, .var 2, .var 9, .var 5, .var 6] [])) (.cst (.str "surely")) (.cst (.str "never"))))) [.ret (.cst (.bl false))] [],
  .ret (.cmp .isIn (.call "word" [.var 1, .var 2, .var 10, .cst (.int 25), .var 5, .var 6] []) (.tup [.cst (.str "none"), .var 11]))] }
def g_law : Cr.Fn := { ps := ["script"], n := 4, body := [
  .for (.nm 1) (.rng (.cst (.int 0)) (.f2 .max (.cst (.int 2)) (.f2 .min (.f1 .len (.var 0)) (.cst (.int 3))))) [.asg (.nm 2) (.call "_law_bag" [.var 0, .var 1] []), .iff (.not (.val (.fs .all (.new (.lc (.call "_law_right" [.var 2] []) (.nm 3) (.rng (.cst (.int 0)) (.cst (.int 10))) none [3]))))) [.ret (.cst (.bl false))] []],
  .ret (.cst (.bl true))] }
def tab : List (Str × Cr.Fn) := [(("is_whole" : Str), g_is_whole), (("is_between" : Str), g_is_between), (("is_tuple_of" : Str), g_is_tuple_of), (("is_row" : Str), g_is_row), (("is_things" : Str), g_is_things), (("check_things" : Str), g_check_things), (("is_thing" : Str), g_is_thing), (("check_thing" : Str), g_check_thing), (("is_order" : Str), g_is_order), (("is_ahead" : Str), g_is_ahead), (("wrong_order" : Str), g_wrong_order), (("check_orders" : Str), g_check_orders), (("check_roll" : Str), g_check_roll), (("wrong_many" : Str), g_wrong_many), (("check_crowd" : Str), g_check_crowd), (("check_crowded" : Str), g_check_crowded), (("margin_by" : Str), g_margin_by), (("beats_by" : Str), g_beats_by), (("beats" : Str), g_beats), (("is_limit" : Str), g_is_limit), (("wrong_limit" : Str), g_wrong_limit), (("is_in_all" : Str), g_is_in_all), (("crowds_by" : Str), g_crowds_by), (("word_by" : Str), g_word_by), (("check_polled" : Str), g_check_polled), (("word" : Str), g_word), (("_law_bag" : Str), g__law_bag), (("_law_take" : Str), g__law_take), (("_law_pull" : Str), g__law_pull), (("_law_orders" : Str), g__law_orders), (("_law_roll" : Str), g__law_roll), (("_law_crowd" : Str), g__law_crowd), (("_law_beats" : Str), g__law_beats), (("_law_poll" : Str), g__law_poll), (("_law_crowds" : Str), g__law_crowds), (("_law_word" : Str), g__law_word), (("_law_right" : Str), g__law_right), (("law" : Str), g_law)]
def T (f : Str) : Option Cr.Fn := tab.lookup f
def gcs : List (Str × D) := [(("FEWEST_THINGS" : Str), .int 3), (("MOST_THINGS" : Str), .int 5), (("MOST_ORDERS_rolls" : Str), .int 24), (("MOST_PEOPLE" : Str), .int 99), (("MOST_ORDERS_striking" : Str), .int 5), (("MOST_EACH" : Str), .int 5), (("MOST_TOLD" : Str), .int 25), (("SURELY" : Str), .str "surely"), (("MAYBE" : Str), .str "maybe"), (("NEVER" : Str), .str "never"), (("NONE" : Str), .str "none")]
def gc (x : Str) : Option D := gcs.lookup x
def fns : List (Str × Nat × List (List Str)) := [(("is_whole" : Str), 1, []), (("is_between" : Str), 3, []), (("is_tuple_of" : Str), 2, []), (("is_row" : Str), 3, []), (("is_things" : Str), 1, []), (("check_things" : Str), 1, []), (("is_thing" : Str), 2, []), (("check_thing" : Str), 2, []), (("is_order" : Str), 2, []), (("is_ahead" : Str), 3, []), (("wrong_order" : Str), 2, []), (("check_orders" : Str), 2, []), (("check_roll" : Str), 2, []), (("wrong_many" : Str), 1, []), (("check_crowd" : Str), 2, []), (("check_crowded" : Str), 3, []), (("margin_by" : Str), 4, []), (("beats_by" : Str), 4, []), (("beats" : Str), 5, []), (("is_limit" : Str), 1, []), (("wrong_limit" : Str), 1, []), (("is_in_all" : Str), 1, []), (("crowds_by" : Str), 2, []), (("word_by" : Str), 5, []), (("check_polled" : Str), 4, []), (("word" : Str), 6, [[("other" : Str), ("thing" : Str), ("people_in_all" : Str), ("poll" : Str), ("roll" : Str), ("things" : Str)]]), (("_law_bag" : Str), 2, []), (("_law_take" : Str), 2, []), (("_law_pull" : Str), 2, []), (("_law_orders" : Str), 1, []), (("_law_roll" : Str), 3, []), (("_law_crowd" : Str), 3, []), (("_law_beats" : Str), 4, []), (("_law_poll" : Str), 2, []), (("_law_crowds" : Str), 2, []), (("_law_word" : Str), 5, []), (("_law_right" : Str), 1, []), (("law" : Str), 1, [])]
def im : List (Str × String) := []
theorem sc_is_whole : FnScope ["value"] ["value"] (defScope (top 7)) := ⟨rfl, rfl, rfl, by decide +kernel, rfl, by decide +kernel, by decide +kernel⟩
theorem ck_is_whole : ckMs g_is_whole.body { N := ["value"], sc := defScope (top 7), fns := fns, im := im, st := true, fw := false } (defBody (top 7)) = true := by decide +kernel
theorem d_is_whole {K : PySem.W.Frag} {mg : Str → Option Value} {a : Addr} {od an : Option Addr} {sl : Array (Option Value)} {oc kV dc pm cd ct : Value} (h : mg "is_whole" = some (.ref a))
    (l : K.lookup a = some ⟨oc, od, .func (PySem.W.fnOf "is_whole" "is_whole" (defArgs (top 7)) (defBody (top 7)) (defScope (top 7)) .none kV dc pm an cd ct), sl⟩) (c : PySem.W.codeIn K cd "is_whole" = true) (k : PySem.W.keepIn K (.ref a) = true) {ts : List (Str × Addr × Addr)} :
    DefOk K mg ts fns im false "is_whole" g_is_whole [] := by
  refine ⟨a, oc, od, sl, "is_whole", "is_whole", defArgs (top 7), defBody (top 7), defScope (top 7), .none, kV, dc, pm, an, cd, ct, ["value"], h, k, l, c, sc_is_whole, rfl, ck_is_whole, fun h => absurd h Bool.false_ne_true, fun us hl => ?_, fun ks hk => ?_⟩
  · match us, hl with
    | [a0], _ => rfl
  · cases hk
theorem sc_is_between : FnScope ["value", "least", "most"] ["value", "least", "most"] (defScope (top 8)) := ⟨rfl, rfl, rfl, by decide +kernel, rfl, by decide +kernel, by decide +kernel⟩
theorem ck_is_between : ckMs g_is_between.body { N := ["value", "least", "most"], sc := defScope (top 8), fns := fns, im := im, st := true, fw := false } (defBody (top 8)) = true := by decide +kernel
theorem d_is_between {K : PySem.W.Frag} {mg : Str → Option Value} {a : Addr} {od an : Option Addr} {sl : Array (Option Value)} {oc kV dc pm cd ct : Value} (h : mg "is_between" = some (.ref a))
    (l : K.lookup a = some ⟨oc, od, .func (PySem.W.fnOf "is_between" "is_between" (defArgs (top 8)) (defBody (top 8)) (defScope (top 8)) .none kV dc pm an cd ct), sl⟩) (c : PySem.W.codeIn K cd "is_between" = true) (k : PySem.W.keepIn K (.ref a) = true) {ts : List (Str × Addr × Addr)} :
    DefOk K mg ts fns im false "is_between" g_is_between [] := by
  refine ⟨a, oc, od, sl, "is_between", "is_between", defArgs (top 8), defBody (top 8), defScope (top 8), .none, kV, dc, pm, an, cd, ct, ["value", "least", "most"], h, k, l, c, sc_is_between, rfl, ck_is_between, fun h => absurd h Bool.false_ne_true, fun us hl => ?_, fun ks hk => ?_⟩
  · match us, hl with
    | [a0, a1, a2], _ => rfl
  · cases hk
theorem sc_is_tuple_of : FnScope ["value", "many"] ["value", "many"] (defScope (top 9)) := ⟨rfl, rfl, rfl, by decide +kernel, rfl, by decide +kernel, by decide +kernel⟩
theorem ck_is_tuple_of : ckMs g_is_tuple_of.body { N := ["value", "many"], sc := defScope (top 9), fns := fns, im := im, st := true, fw := false } (defBody (top 9)) = true := by decide +kernel
theorem d_is_tuple_of {K : PySem.W.Frag} {mg : Str → Option Value} {a : Addr} {od an : Option Addr} {sl : Array (Option Value)} {oc kV dc pm cd ct : Value} (h : mg "is_tuple_of" = some (.ref a))
    (l : K.lookup a = some ⟨oc, od, .func (PySem.W.fnOf "is_tuple_of" "is_tuple_of" (defArgs (top 9)) (defBody (top 9)) (defScope (top 9)) .none kV dc pm an cd ct), sl⟩) (c : PySem.W.codeIn K cd "is_tuple_of" = true) (k : PySem.W.keepIn K (.ref a) = true) {ts : List (Str × Addr × Addr)} :
    DefOk K mg ts fns im false "is_tuple_of" g_is_tuple_of [] := by
  refine ⟨a, oc, od, sl, "is_tuple_of", "is_tuple_of", defArgs (top 9), defBody (top 9), defScope (top 9), .none, kV, dc, pm, an, cd, ct, ["value", "many"], h, k, l, c, sc_is_tuple_of, rfl, ck_is_tuple_of, fun h => absurd h Bool.false_ne_true, fun us hl => ?_, fun ks hk => ?_⟩
  · match us, hl with
    | [a0, a1], _ => rfl
  · cases hk
theorem sc_is_row : FnScope ["value", "least", "most"] ["value", "least", "most"] (defScope (top 10)) := ⟨rfl, rfl, rfl, by decide +kernel, rfl, by decide +kernel, by decide +kernel⟩
theorem ck_is_row : ckMs g_is_row.body { N := ["value", "least", "most"], sc := defScope (top 10), fns := fns, im := im, st := true, fw := false } (defBody (top 10)) = true := by decide +kernel
theorem d_is_row {K : PySem.W.Frag} {mg : Str → Option Value} {a : Addr} {od an : Option Addr} {sl : Array (Option Value)} {oc kV dc pm cd ct : Value} (h : mg "is_row" = some (.ref a))
    (l : K.lookup a = some ⟨oc, od, .func (PySem.W.fnOf "is_row" "is_row" (defArgs (top 10)) (defBody (top 10)) (defScope (top 10)) .none kV dc pm an cd ct), sl⟩) (c : PySem.W.codeIn K cd "is_row" = true) (k : PySem.W.keepIn K (.ref a) = true) {ts : List (Str × Addr × Addr)} :
    DefOk K mg ts fns im false "is_row" g_is_row [] := by
  refine ⟨a, oc, od, sl, "is_row", "is_row", defArgs (top 10), defBody (top 10), defScope (top 10), .none, kV, dc, pm, an, cd, ct, ["value", "least", "most"], h, k, l, c, sc_is_row, rfl, ck_is_row, fun h => absurd h Bool.false_ne_true, fun us hl => ?_, fun ks hk => ?_⟩
  · match us, hl with
    | [a0, a1, a2], _ => rfl
  · cases hk
theorem sc_is_things : FnScope ["value"] ["value"] (defScope (top 17)) := ⟨rfl, rfl, rfl, by decide +kernel, rfl, by decide +kernel, by decide +kernel⟩
theorem ck_is_things : ckMs g_is_things.body { N := ["value"], sc := defScope (top 17), fns := fns, im := im, st := true, fw := false } (defBody (top 17)) = true := by decide +kernel
theorem d_is_things {K : PySem.W.Frag} {mg : Str → Option Value} {a : Addr} {od an : Option Addr} {sl : Array (Option Value)} {oc kV dc pm cd ct : Value} (h : mg "is_things" = some (.ref a))
    (l : K.lookup a = some ⟨oc, od, .func (PySem.W.fnOf "is_things" "is_things" (defArgs (top 17)) (defBody (top 17)) (defScope (top 17)) .none kV dc pm an cd ct), sl⟩) (c : PySem.W.codeIn K cd "is_things" = true) (k : PySem.W.keepIn K (.ref a) = true) {ts : List (Str × Addr × Addr)} :
    DefOk K mg ts fns im false "is_things" g_is_things [] := by
  refine ⟨a, oc, od, sl, "is_things", "is_things", defArgs (top 17), defBody (top 17), defScope (top 17), .none, kV, dc, pm, an, cd, ct, ["value"], h, k, l, c, sc_is_things, rfl, ck_is_things, fun h => absurd h Bool.false_ne_true, fun us hl => ?_, fun ks hk => ?_⟩
  · match us, hl with
    | [a0], _ => rfl
  · cases hk
theorem sc_check_things : FnScope ["things"] ["things"] (defScope (top 18)) := ⟨rfl, rfl, rfl, by decide +kernel, rfl, by decide +kernel, by decide +kernel⟩
theorem ck_check_things : ckMs g_check_things.body { N := ["things"], sc := defScope (top 18), fns := fns, im := im, st := true, fw := false } (defBody (top 18)) = true := by decide +kernel
theorem d_check_things {K : PySem.W.Frag} {mg : Str → Option Value} {a : Addr} {od an : Option Addr} {sl : Array (Option Value)} {oc kV dc pm cd ct : Value} (h : mg "check_things" = some (.ref a))
    (l : K.lookup a = some ⟨oc, od, .func (PySem.W.fnOf "check_things" "check_things" (defArgs (top 18)) (defBody (top 18)) (defScope (top 18)) .none kV dc pm an cd ct), sl⟩) (c : PySem.W.codeIn K cd "check_things" = true) (k : PySem.W.keepIn K (.ref a) = true) {ts : List (Str × Addr × Addr)} :
    DefOk K mg ts fns im false "check_things" g_check_things [] := by
  refine ⟨a, oc, od, sl, "check_things", "check_things", defArgs (top 18), defBody (top 18), defScope (top 18), .none, kV, dc, pm, an, cd, ct, ["things"], h, k, l, c, sc_check_things, rfl, ck_check_things, fun h => absurd h Bool.false_ne_true, fun us hl => ?_, fun ks hk => ?_⟩
  · match us, hl with
    | [a0], _ => rfl
  · cases hk
theorem sc_is_thing : FnScope ["things", "value"] ["things", "value"] (defScope (top 19)) := ⟨rfl, rfl, rfl, by decide +kernel, rfl, by decide +kernel, by decide +kernel⟩
theorem ck_is_thing : ckMs g_is_thing.body { N := ["things", "value"], sc := defScope (top 19), fns := fns, im := im, st := true, fw := false } (defBody (top 19)) = true := by decide +kernel
theorem d_is_thing {K : PySem.W.Frag} {mg : Str → Option Value} {a : Addr} {od an : Option Addr} {sl : Array (Option Value)} {oc kV dc pm cd ct : Value} (h : mg "is_thing" = some (.ref a))
    (l : K.lookup a = some ⟨oc, od, .func (PySem.W.fnOf "is_thing" "is_thing" (defArgs (top 19)) (defBody (top 19)) (defScope (top 19)) .none kV dc pm an cd ct), sl⟩) (c : PySem.W.codeIn K cd "is_thing" = true) (k : PySem.W.keepIn K (.ref a) = true) {ts : List (Str × Addr × Addr)} :
    DefOk K mg ts fns im false "is_thing" g_is_thing [] := by
  refine ⟨a, oc, od, sl, "is_thing", "is_thing", defArgs (top 19), defBody (top 19), defScope (top 19), .none, kV, dc, pm, an, cd, ct, ["things", "value"], h, k, l, c, sc_is_thing, rfl, ck_is_thing, fun h => absurd h Bool.false_ne_true, fun us hl => ?_, fun ks hk => ?_⟩
  · match us, hl with
    | [a0, a1], _ => rfl
  · cases hk
theorem sc_check_thing : FnScope ["things", "value"] ["things", "value"] (defScope (top 20)) := ⟨rfl, rfl, rfl, by decide +kernel, rfl, by decide +kernel, by decide +kernel⟩
theorem ck_check_thing : ckMs g_check_thing.body { N := ["things", "value"], sc := defScope (top 20), fns := fns, im := im, st := true, fw := false } (defBody (top 20)) = true := by decide +kernel
theorem d_check_thing {K : PySem.W.Frag} {mg : Str → Option Value} {a : Addr} {od an : Option Addr} {sl : Array (Option Value)} {oc kV dc pm cd ct : Value} (h : mg "check_thing" = some (.ref a))
    (l : K.lookup a = some ⟨oc, od, .func (PySem.W.fnOf "check_thing" "check_thing" (defArgs (top 20)) (defBody (top 20)) (defScope (top 20)) .none kV dc pm an cd ct), sl⟩) (c : PySem.W.codeIn K cd "check_thing" = true) (k : PySem.W.keepIn K (.ref a) = true) {ts : List (Str × Addr × Addr)} :
    DefOk K mg ts fns im false "check_thing" g_check_thing [] := by
  refine ⟨a, oc, od, sl, "check_thing", "check_thing", defArgs (top 20), defBody (top 20), defScope (top 20), .none, kV, dc, pm, an, cd, ct, ["things", "value"], h, k, l, c, sc_check_thing, rfl, ck_check_thing, fun h => absurd h Bool.false_ne_true, fun us hl => ?_, fun ks hk => ?_⟩
  · match us, hl with
    | [a0, a1], _ => rfl
  · cases hk
theorem sc_is_order : FnScope ["things", "value", "thing"] ["things", "value"] (defScope (top 21)) := ⟨rfl, rfl, rfl, by decide +kernel, rfl, by decide +kernel, by decide +kernel⟩
theorem ck_is_order : ckMs g_is_order.body { N := ["things", "value", "thing"], sc := defScope (top 21), fns := fns, im := im, st := true, fw := false } (defBody (top 21)) = true := by decide +kernel
theorem d_is_order {K : PySem.W.Frag} {mg : Str → Option Value} {a : Addr} {od an : Option Addr} {sl : Array (Option Value)} {oc kV dc pm cd ct : Value} (h : mg "is_order" = some (.ref a))
    (l : K.lookup a = some ⟨oc, od, .func (PySem.W.fnOf "is_order" "is_order" (defArgs (top 21)) (defBody (top 21)) (defScope (top 21)) .none kV dc pm an cd ct), sl⟩) (c : PySem.W.codeIn K cd "is_order" = true) (k : PySem.W.keepIn K (.ref a) = true) {ts : List (Str × Addr × Addr)} :
    DefOk K mg ts fns im false "is_order" g_is_order [] := by
  refine ⟨a, oc, od, sl, "is_order", "is_order", defArgs (top 21), defBody (top 21), defScope (top 21), .none, kV, dc, pm, an, cd, ct, ["things", "value", "thing"], h, k, l, c, sc_is_order, rfl, ck_is_order, fun h => absurd h Bool.false_ne_true, fun us hl => ?_, fun ks hk => ?_⟩
  · match us, hl with
    | [a0, a1], _ => rfl
  · cases hk
theorem sc_is_ahead : FnScope ["order", "one", "other"] ["order", "one", "other"] (defScope (top 22)) := ⟨rfl, rfl, rfl, by decide +kernel, rfl, by decide +kernel, by decide +kernel⟩
theorem ck_is_ahead : ckMs g_is_ahead.body { N := ["order", "one", "other"], sc := defScope (top 22), fns := fns, im := im, st := true, fw := false } (defBody (top 22)) = true := by decide +kernel
theorem d_is_ahead {K : PySem.W.Frag} {mg : Str → Option Value} {a : Addr} {od an : Option Addr} {sl : Array (Option Value)} {oc kV dc pm cd ct : Value} (h : mg "is_ahead" = some (.ref a))
    (l : K.lookup a = some ⟨oc, od, .func (PySem.W.fnOf "is_ahead" "is_ahead" (defArgs (top 22)) (defBody (top 22)) (defScope (top 22)) .none kV dc pm an cd ct), sl⟩) (c : PySem.W.codeIn K cd "is_ahead" = true) (k : PySem.W.keepIn K (.ref a) = true) {ts : List (Str × Addr × Addr)} :
    DefOk K mg ts fns im false "is_ahead" g_is_ahead [] := by
  refine ⟨a, oc, od, sl, "is_ahead", "is_ahead", defArgs (top 22), defBody (top 22), defScope (top 22), .none, kV, dc, pm, an, cd, ct, ["order", "one", "other"], h, k, l, c, sc_is_ahead, rfl, ck_is_ahead, fun h => absurd h Bool.false_ne_true, fun us hl => ?_, fun ks hk => ?_⟩
  · match us, hl with
    | [a0, a1, a2], _ => rfl
  · cases hk
theorem sc_wrong_order : FnScope ["things", "value", "order", "ahead"] ["things", "value"] (defScope (top 23)) := ⟨rfl, rfl, rfl, by decide +kernel, rfl, by decide +kernel, by decide +kernel⟩
theorem ck_wrong_order : ckMs g_wrong_order.body { N := ["things", "value", "order", "ahead"], sc := defScope (top 23), fns := fns, im := im, st := true, fw := true } (defBody (top 23)) = true := by decide +kernel
theorem d_wrong_order {K : PySem.W.Frag} {mg : Str → Option Value} {a : Addr} {od an : Option Addr} {sl : Array (Option Value)} {oc kV dc pm cd ct : Value} (h : mg "wrong_order" = some (.ref a))
    (l : K.lookup a = some ⟨oc, od, .func (PySem.W.fnOf "wrong_order" "wrong_order" (defArgs (top 23)) (defBody (top 23)) (defScope (top 23)) .none kV dc pm an cd ct), sl⟩) (c : PySem.W.codeIn K cd "wrong_order" = true) (k : PySem.W.keepIn K (.ref a) = true) {ts : List (Str × Addr × Addr)} (ht : ∃ c P, cd = .ref c ∧ (("wrong_order" : Str), c, P) ∈ ts) :
    DefOk K mg ts fns im true "wrong_order" g_wrong_order [] := by
  refine ⟨a, oc, od, sl, "wrong_order", "wrong_order", defArgs (top 23), defBody (top 23), defScope (top 23), .none, kV, dc, pm, an, cd, ct, ["things", "value", "order", "ahead"], h, k, l, c, sc_wrong_order, rfl, ck_wrong_order, fun _ => ht, fun us hl => ?_, fun ks hk => ?_⟩
  · match us, hl with
    | [a0, a1], _ => rfl
  · cases hk
theorem sc_check_orders : FnScope ["things", "value", "wrong"] ["things", "value"] (defScope (top 24)) := ⟨rfl, rfl, rfl, by decide +kernel, rfl, by decide +kernel, by decide +kernel⟩
theorem ck_check_orders : ckMs g_check_orders.body { N := ["things", "value", "wrong"], sc := defScope (top 24), fns := fns, im := im, st := true, fw := false } (defBody (top 24)) = true := by decide +kernel
theorem d_check_orders {K : PySem.W.Frag} {mg : Str → Option Value} {a : Addr} {od an : Option Addr} {sl : Array (Option Value)} {oc kV dc pm cd ct : Value} (h : mg "check_orders" = some (.ref a))
    (l : K.lookup a = some ⟨oc, od, .func (PySem.W.fnOf "check_orders" "check_orders" (defArgs (top 24)) (defBody (top 24)) (defScope (top 24)) .none kV dc pm an cd ct), sl⟩) (c : PySem.W.codeIn K cd "check_orders" = true) (k : PySem.W.keepIn K (.ref a) = true) {ts : List (Str × Addr × Addr)} :
    DefOk K mg ts fns im false "check_orders" g_check_orders [] := by
  refine ⟨a, oc, od, sl, "check_orders", "check_orders", defArgs (top 24), defBody (top 24), defScope (top 24), .none, kV, dc, pm, an, cd, ct, ["things", "value", "wrong"], h, k, l, c, sc_check_orders, rfl, ck_check_orders, fun h => absurd h Bool.false_ne_true, fun us hl => ?_, fun ks hk => ?_⟩
  · match us, hl with
    | [a0, a1], _ => rfl
  · cases hk
theorem sc_check_roll : FnScope ["things", "roll"] ["things", "roll"] (defScope (top 25)) := ⟨rfl, rfl, rfl, by decide +kernel, rfl, by decide +kernel, by decide +kernel⟩
theorem ck_check_roll : ckMs g_check_roll.body { N := ["things", "roll"], sc := defScope (top 25), fns := fns, im := im, st := true, fw := false } (defBody (top 25)) = true := by decide +kernel
theorem d_check_roll {K : PySem.W.Frag} {mg : Str → Option Value} {a : Addr} {od an : Option Addr} {sl : Array (Option Value)} {oc kV dc pm cd ct : Value} (h : mg "check_roll" = some (.ref a))
    (l : K.lookup a = some ⟨oc, od, .func (PySem.W.fnOf "check_roll" "check_roll" (defArgs (top 25)) (defBody (top 25)) (defScope (top 25)) .none kV dc pm an cd ct), sl⟩) (c : PySem.W.codeIn K cd "check_roll" = true) (k : PySem.W.keepIn K (.ref a) = true) {ts : List (Str × Addr × Addr)} :
    DefOk K mg ts fns im false "check_roll" g_check_roll [] := by
  refine ⟨a, oc, od, sl, "check_roll", "check_roll", defArgs (top 25), defBody (top 25), defScope (top 25), .none, kV, dc, pm, an, cd, ct, ["things", "roll"], h, k, l, c, sc_check_roll, rfl, ck_check_roll, fun h => absurd h Bool.false_ne_true, fun us hl => ?_, fun ks hk => ?_⟩
  · match us, hl with
    | [a0, a1], _ => rfl
  · cases hk
theorem sc_wrong_many : FnScope ["value", "many", "ahead"] ["value"] (defScope (top 26)) := ⟨rfl, rfl, rfl, by decide +kernel, rfl, by decide +kernel, by decide +kernel⟩
theorem ck_wrong_many : ckMs g_wrong_many.body { N := ["value", "many", "ahead"], sc := defScope (top 26), fns := fns, im := im, st := true, fw := true } (defBody (top 26)) = true := by decide +kernel
theorem d_wrong_many {K : PySem.W.Frag} {mg : Str → Option Value} {a : Addr} {od an : Option Addr} {sl : Array (Option Value)} {oc kV dc pm cd ct : Value} (h : mg "wrong_many" = some (.ref a))
    (l : K.lookup a = some ⟨oc, od, .func (PySem.W.fnOf "wrong_many" "wrong_many" (defArgs (top 26)) (defBody (top 26)) (defScope (top 26)) .none kV dc pm an cd ct), sl⟩) (c : PySem.W.codeIn K cd "wrong_many" = true) (k : PySem.W.keepIn K (.ref a) = true) {ts : List (Str × Addr × Addr)} (ht : ∃ c P, cd = .ref c ∧ (("wrong_many" : Str), c, P) ∈ ts) :
    DefOk K mg ts fns im true "wrong_many" g_wrong_many [] := by
  refine ⟨a, oc, od, sl, "wrong_many", "wrong_many", defArgs (top 26), defBody (top 26), defScope (top 26), .none, kV, dc, pm, an, cd, ct, ["value", "many", "ahead"], h, k, l, c, sc_wrong_many, rfl, ck_wrong_many, fun _ => ht, fun us hl => ?_, fun ks hk => ?_⟩
  · match us, hl with
    | [a0], _ => rfl
  · cases hk
theorem sc_check_crowd : FnScope ["roll", "value", "wrong"] ["roll", "value"] (defScope (top 27)) := ⟨rfl, rfl, rfl, by decide +kernel, rfl, by decide +kernel, by decide +kernel⟩
theorem ck_check_crowd : ckMs g_check_crowd.body { N := ["roll", "value", "wrong"], sc := defScope (top 27), fns := fns, im := im, st := true, fw := false } (defBody (top 27)) = true := by decide +kernel
theorem d_check_crowd {K : PySem.W.Frag} {mg : Str → Option Value} {a : Addr} {od an : Option Addr} {sl : Array (Option Value)} {oc kV dc pm cd ct : Value} (h : mg "check_crowd" = some (.ref a))
    (l : K.lookup a = some ⟨oc, od, .func (PySem.W.fnOf "check_crowd" "check_crowd" (defArgs (top 27)) (defBody (top 27)) (defScope (top 27)) .none kV dc pm an cd ct), sl⟩) (c : PySem.W.codeIn K cd "check_crowd" = true) (k : PySem.W.keepIn K (.ref a) = true) {ts : List (Str × Addr × Addr)} :
    DefOk K mg ts fns im false "check_crowd" g_check_crowd [] := by
  refine ⟨a, oc, od, sl, "check_crowd", "check_crowd", defArgs (top 27), defBody (top 27), defScope (top 27), .none, kV, dc, pm, an, cd, ct, ["roll", "value", "wrong"], h, k, l, c, sc_check_crowd, rfl, ck_check_crowd, fun h => absurd h Bool.false_ne_true, fun us hl => ?_, fun ks hk => ?_⟩
  · match us, hl with
    | [a0, a1], _ => rfl
  · cases hk
theorem sc_check_crowded : FnScope ["things", "roll", "crowd"] ["things", "roll", "crowd"] (defScope (top 28)) := ⟨rfl, rfl, rfl, by decide +kernel, rfl, by decide +kernel, by decide +kernel⟩
theorem ck_check_crowded : ckMs g_check_crowded.body { N := ["things", "roll", "crowd"], sc := defScope (top 28), fns := fns, im := im, st := true, fw := false } (defBody (top 28)) = true := by decide +kernel
theorem d_check_crowded {K : PySem.W.Frag} {mg : Str → Option Value} {a : Addr} {od an : Option Addr} {sl : Array (Option Value)} {oc kV dc pm cd ct : Value} (h : mg "check_crowded" = some (.ref a))
    (l : K.lookup a = some ⟨oc, od, .func (PySem.W.fnOf "check_crowded" "check_crowded" (defArgs (top 28)) (defBody (top 28)) (defScope (top 28)) .none kV dc pm an cd ct), sl⟩) (c : PySem.W.codeIn K cd "check_crowded" = true) (k : PySem.W.keepIn K (.ref a) = true) {ts : List (Str × Addr × Addr)} :
    DefOk K mg ts fns im false "check_crowded" g_check_crowded [] := by
  refine ⟨a, oc, od, sl, "check_crowded", "check_crowded", defArgs (top 28), defBody (top 28), defScope (top 28), .none, kV, dc, pm, an, cd, ct, ["things", "roll", "crowd"], h, k, l, c, sc_check_crowded, rfl, ck_check_crowded, fun h => absurd h Bool.false_ne_true, fun us hl => ?_, fun ks hk => ?_⟩
  · match us, hl with
    | [a0, a1, a2], _ => rfl
  · cases hk
theorem sc_margin_by : FnScope ["roll", "crowd", "one", "other", "order", "many"] ["roll", "crowd", "one", "other"] (defScope (top 29)) := ⟨rfl, rfl, rfl, by decide +kernel, rfl, by decide +kernel, by decide +kernel⟩
theorem ck_margin_by : ckMs g_margin_by.body { N := ["roll", "crowd", "one", "other", "order", "many"], sc := defScope (top 29), fns := fns, im := im, st := true, fw := false } (defBody (top 29)) = true := by decide +kernel
theorem d_margin_by {K : PySem.W.Frag} {mg : Str → Option Value} {a : Addr} {od an : Option Addr} {sl : Array (Option Value)} {oc kV dc pm cd ct : Value} (h : mg "margin_by" = some (.ref a))
    (l : K.lookup a = some ⟨oc, od, .func (PySem.W.fnOf "margin_by" "margin_by" (defArgs (top 29)) (defBody (top 29)) (defScope (top 29)) .none kV dc pm an cd ct), sl⟩) (c : PySem.W.codeIn K cd "margin_by" = true) (k : PySem.W.keepIn K (.ref a) = true) {ts : List (Str × Addr × Addr)} :
    DefOk K mg ts fns im false "margin_by" g_margin_by [] := by
  refine ⟨a, oc, od, sl, "margin_by", "margin_by", defArgs (top 29), defBody (top 29), defScope (top 29), .none, kV, dc, pm, an, cd, ct, ["roll", "crowd", "one", "other", "order", "many"], h, k, l, c, sc_margin_by, rfl, ck_margin_by, fun h => absurd h Bool.false_ne_true, fun us hl => ?_, fun ks hk => ?_⟩
  · match us, hl with
    | [a0, a1, a2, a3], _ => rfl
  · cases hk
theorem sc_beats_by : FnScope ["roll", "crowd", "one", "other"] ["roll", "crowd", "one", "other"] (defScope (top 30)) := ⟨rfl, rfl, rfl, by decide +kernel, rfl, by decide +kernel, by decide +kernel⟩
theorem ck_beats_by : ckMs g_beats_by.body { N := ["roll", "crowd", "one", "other"], sc := defScope (top 30), fns := fns, im := im, st := true, fw := false } (defBody (top 30)) = true := by decide +kernel
theorem d_beats_by {K : PySem.W.Frag} {mg : Str → Option Value} {a : Addr} {od an : Option Addr} {sl : Array (Option Value)} {oc kV dc pm cd ct : Value} (h : mg "beats_by" = some (.ref a))
    (l : K.lookup a = some ⟨oc, od, .func (PySem.W.fnOf "beats_by" "beats_by" (defArgs (top 30)) (defBody (top 30)) (defScope (top 30)) .none kV dc pm an cd ct), sl⟩) (c : PySem.W.codeIn K cd "beats_by" = true) (k : PySem.W.keepIn K (.ref a) = true) {ts : List (Str × Addr × Addr)} :
    DefOk K mg ts fns im false "beats_by" g_beats_by [] := by
  refine ⟨a, oc, od, sl, "beats_by", "beats_by", defArgs (top 30), defBody (top 30), defScope (top 30), .none, kV, dc, pm, an, cd, ct, ["roll", "crowd", "one", "other"], h, k, l, c, sc_beats_by, rfl, ck_beats_by, fun h => absurd h Bool.false_ne_true, fun us hl => ?_, fun ks hk => ?_⟩
  · match us, hl with
    | [a0, a1, a2, a3], _ => rfl
  · cases hk
theorem sc_beats : FnScope ["things", "roll", "crowd", "thing", "other"] ["things", "roll", "crowd", "thing", "other"] (defScope (top 31)) := ⟨rfl, rfl, rfl, by decide +kernel, rfl, by decide +kernel, by decide +kernel⟩
theorem ck_beats : ckMs g_beats.body { N := ["things", "roll", "crowd", "thing", "other"], sc := defScope (top 31), fns := fns, im := im, st := true, fw := false } (defBody (top 31)) = true := by decide +kernel
theorem d_beats {K : PySem.W.Frag} {mg : Str → Option Value} {a : Addr} {od an : Option Addr} {sl : Array (Option Value)} {oc kV dc pm cd ct : Value} (h : mg "beats" = some (.ref a))
    (l : K.lookup a = some ⟨oc, od, .func (PySem.W.fnOf "beats" "beats" (defArgs (top 31)) (defBody (top 31)) (defScope (top 31)) .none kV dc pm an cd ct), sl⟩) (c : PySem.W.codeIn K cd "beats" = true) (k : PySem.W.keepIn K (.ref a) = true) {ts : List (Str × Addr × Addr)} :
    DefOk K mg ts fns im false "beats" g_beats [] := by
  refine ⟨a, oc, od, sl, "beats", "beats", defArgs (top 31), defBody (top 31), defScope (top 31), .none, kV, dc, pm, an, cd, ct, ["things", "roll", "crowd", "thing", "other"], h, k, l, c, sc_beats, rfl, ck_beats, fun h => absurd h Bool.false_ne_true, fun us hl => ?_, fun ks hk => ?_⟩
  · match us, hl with
    | [a0, a1, a2, a3, a4], _ => rfl
  · cases hk
theorem sc_is_limit : FnScope ["value"] ["value"] (defScope (top 40)) := ⟨rfl, rfl, rfl, by decide +kernel, rfl, by decide +kernel, by decide +kernel⟩
theorem ck_is_limit : ckMs g_is_limit.body { N := ["value"], sc := defScope (top 40), fns := fns, im := im, st := true, fw := false } (defBody (top 40)) = true := by decide +kernel
theorem d_is_limit {K : PySem.W.Frag} {mg : Str → Option Value} {a : Addr} {od an : Option Addr} {sl : Array (Option Value)} {oc kV dc pm cd ct : Value} (h : mg "is_limit" = some (.ref a))
    (l : K.lookup a = some ⟨oc, od, .func (PySem.W.fnOf "is_limit" "is_limit" (defArgs (top 40)) (defBody (top 40)) (defScope (top 40)) .none kV dc pm an cd ct), sl⟩) (c : PySem.W.codeIn K cd "is_limit" = true) (k : PySem.W.keepIn K (.ref a) = true) {ts : List (Str × Addr × Addr)} :
    DefOk K mg ts fns im false "is_limit" g_is_limit [] := by
  refine ⟨a, oc, od, sl, "is_limit", "is_limit", defArgs (top 40), defBody (top 40), defScope (top 40), .none, kV, dc, pm, an, cd, ct, ["value"], h, k, l, c, sc_is_limit, rfl, ck_is_limit, fun h => absurd h Bool.false_ne_true, fun us hl => ?_, fun ks hk => ?_⟩
  · match us, hl with
    | [a0], _ => rfl
  · cases hk
theorem sc_wrong_limit : FnScope ["value", "each", "ahead"] ["value"] (defScope (top 41)) := ⟨rfl, rfl, rfl, by decide +kernel, rfl, by decide +kernel, by decide +kernel⟩
theorem ck_wrong_limit : ckMs g_wrong_limit.body { N := ["value", "each", "ahead"], sc := defScope (top 41), fns := fns, im := im, st := true, fw := true } (defBody (top 41)) = true := by decide +kernel
theorem d_wrong_limit {K : PySem.W.Frag} {mg : Str → Option Value} {a : Addr} {od an : Option Addr} {sl : Array (Option Value)} {oc kV dc pm cd ct : Value} (h : mg "wrong_limit" = some (.ref a))
    (l : K.lookup a = some ⟨oc, od, .func (PySem.W.fnOf "wrong_limit" "wrong_limit" (defArgs (top 41)) (defBody (top 41)) (defScope (top 41)) .none kV dc pm an cd ct), sl⟩) (c : PySem.W.codeIn K cd "wrong_limit" = true) (k : PySem.W.keepIn K (.ref a) = true) {ts : List (Str × Addr × Addr)} (ht : ∃ c P, cd = .ref c ∧ (("wrong_limit" : Str), c, P) ∈ ts) :
    DefOk K mg ts fns im true "wrong_limit" g_wrong_limit [] := by
  refine ⟨a, oc, od, sl, "wrong_limit", "wrong_limit", defArgs (top 41), defBody (top 41), defScope (top 41), .none, kV, dc, pm, an, cd, ct, ["value", "each", "ahead"], h, k, l, c, sc_wrong_limit, rfl, ck_wrong_limit, fun _ => ht, fun us hl => ?_, fun ks hk => ?_⟩
  · match us, hl with
    | [a0], _ => rfl
  · cases hk
theorem sc_is_in_all : FnScope ["value"] ["value"] (defScope (top 42)) := ⟨rfl, rfl, rfl, by decide +kernel, rfl, by decide +kernel, by decide +kernel⟩
theorem ck_is_in_all : ckMs g_is_in_all.body { N := ["value"], sc := defScope (top 42), fns := fns, im := im, st := true, fw := false } (defBody (top 42)) = true := by decide +kernel
theorem d_is_in_all {K : PySem.W.Frag} {mg : Str → Option Value} {a : Addr} {od an : Option Addr} {sl : Array (Option Value)} {oc kV dc pm cd ct : Value} (h : mg "is_in_all" = some (.ref a))
    (l : K.lookup a = some ⟨oc, od, .func (PySem.W.fnOf "is_in_all" "is_in_all" (defArgs (top 42)) (defBody (top 42)) (defScope (top 42)) .none kV dc pm an cd ct), sl⟩) (c : PySem.W.codeIn K cd "is_in_all" = true) (k : PySem.W.keepIn K (.ref a) = true) {ts : List (Str × Addr × Addr)} :
    DefOk K mg ts fns im false "is_in_all" g_is_in_all [] := by
  refine ⟨a, oc, od, sl, "is_in_all", "is_in_all", defArgs (top 42), defBody (top 42), defScope (top 42), .none, kV, dc, pm, an, cd, ct, ["value"], h, k, l, c, sc_is_in_all, rfl, ck_is_in_all, fun h => absurd h Bool.false_ne_true, fun us hl => ?_, fun ks hk => ?_⟩
  · match us, hl with
    | [a0], _ => rfl
  · cases hk
theorem sc_crowds_by : FnScope ["poll", "people", "rows", "at", "low", "high", "rest", "longer", "least", "most", "row", "still", "pair", "own"] ["poll", "people"] (defScope (top 43)) := ⟨rfl, rfl, rfl, by decide +kernel, rfl, by decide +kernel, by decide +kernel⟩
theorem ck_crowds_by : ckMs g_crowds_by.body { N := ["poll", "people", "rows", "at", "low", "high", "rest", "longer", "least", "most", "row", "still", "pair", "own"], sc := defScope (top 43), fns := fns, im := im, st := true, fw := false } (defBody (top 43)) = true := by decide +kernel
theorem d_crowds_by {K : PySem.W.Frag} {mg : Str → Option Value} {a : Addr} {od an : Option Addr} {sl : Array (Option Value)} {oc kV dc pm cd ct : Value} (h : mg "crowds_by" = some (.ref a))
    (l : K.lookup a = some ⟨oc, od, .func (PySem.W.fnOf "crowds_by" "crowds_by" (defArgs (top 43)) (defBody (top 43)) (defScope (top 43)) .none kV dc pm an cd ct), sl⟩) (c : PySem.W.codeIn K cd "crowds_by" = true) (k : PySem.W.keepIn K (.ref a) = true) {ts : List (Str × Addr × Addr)} :
    DefOk K mg ts fns im false "crowds_by" g_crowds_by [] := by
  refine ⟨a, oc, od, sl, "crowds_by", "crowds_by", defArgs (top 43), defBody (top 43), defScope (top 43), .none, kV, dc, pm, an, cd, ct, ["poll", "people", "rows", "at", "low", "high", "rest", "longer", "least", "most", "row", "still", "pair", "own"], h, k, l, c, sc_crowds_by, rfl, ck_crowds_by, fun h => absurd h Bool.false_ne_true, fun us hl => ?_, fun ks hk => ?_⟩
  · match us, hl with
    | [a0, a1], _ => rfl
  · cases hk
theorem sc_word_by : FnScope ["roll", "poll", "people", "one", "other", "told", "crowd"] ["roll", "poll", "people", "one", "other"] (defScope (top 44)) := ⟨rfl, rfl, rfl, by decide +kernel, rfl, by decide +kernel, by decide +kernel⟩
theorem ck_word_by : ckMs g_word_by.body { N := ["roll", "poll", "people", "one", "other", "told", "crowd"], sc := defScope (top 44), fns := fns, im := im, st := true, fw := false } (defBody (top 44)) = true := by decide +kernel
theorem d_word_by {K : PySem.W.Frag} {mg : Str → Option Value} {a : Addr} {od an : Option Addr} {sl : Array (Option Value)} {oc kV dc pm cd ct : Value} (h : mg "word_by" = some (.ref a))
    (l : K.lookup a = some ⟨oc, od, .func (PySem.W.fnOf "word_by" "word_by" (defArgs (top 44)) (defBody (top 44)) (defScope (top 44)) .none kV dc pm an cd ct), sl⟩) (c : PySem.W.codeIn K cd "word_by" = true) (k : PySem.W.keepIn K (.ref a) = true) {ts : List (Str × Addr × Addr)} :
    DefOk K mg ts fns im false "word_by" g_word_by [] := by
  refine ⟨a, oc, od, sl, "word_by", "word_by", defArgs (top 44), defBody (top 44), defScope (top 44), .none, kV, dc, pm, an, cd, ct, ["roll", "poll", "people", "one", "other", "told", "crowd"], h, k, l, c, sc_word_by, rfl, ck_word_by, fun h => absurd h Bool.false_ne_true, fun us hl => ?_, fun ks hk => ?_⟩
  · match us, hl with
    | [a0, a1, a2, a3, a4], _ => rfl
  · cases hk
theorem sc_check_polled : FnScope ["things", "roll", "poll", "people_in_all", "wrong"] ["things", "roll", "poll", "people_in_all"] (defScope (top 45)) := ⟨rfl, rfl, rfl, by decide +kernel, rfl, by decide +kernel, by decide +kernel⟩
theorem ck_check_polled : ckMs g_check_polled.body { N := ["things", "roll", "poll", "people_in_all", "wrong"], sc := defScope (top 45), fns := fns, im := im, st := true, fw := false } (defBody (top 45)) = true := by decide +kernel
theorem d_check_polled {K : PySem.W.Frag} {mg : Str → Option Value} {a : Addr} {od an : Option Addr} {sl : Array (Option Value)} {oc kV dc pm cd ct : Value} (h : mg "check_polled" = some (.ref a))
    (l : K.lookup a = some ⟨oc, od, .func (PySem.W.fnOf "check_polled" "check_polled" (defArgs (top 45)) (defBody (top 45)) (defScope (top 45)) .none kV dc pm an cd ct), sl⟩) (c : PySem.W.codeIn K cd "check_polled" = true) (k : PySem.W.keepIn K (.ref a) = true) {ts : List (Str × Addr × Addr)} :
    DefOk K mg ts fns im false "check_polled" g_check_polled [] := by
  refine ⟨a, oc, od, sl, "check_polled", "check_polled", defArgs (top 45), defBody (top 45), defScope (top 45), .none, kV, dc, pm, an, cd, ct, ["things", "roll", "poll", "people_in_all", "wrong"], h, k, l, c, sc_check_polled, rfl, ck_check_polled, fun h => absurd h Bool.false_ne_true, fun us hl => ?_, fun ks hk => ?_⟩
  · match us, hl with
    | [a0, a1, a2, a3], _ => rfl
  · cases hk
theorem sc_word : FnScope ["things", "roll", "poll", "people_in_all", "thing", "other"] ["things", "roll", "poll", "people_in_all", "thing", "other"] (defScope (top 46)) := ⟨rfl, rfl, rfl, by decide +kernel, rfl, by decide +kernel, by decide +kernel⟩
theorem ck_word : ckMs g_word.body { N := ["things", "roll", "poll", "people_in_all", "thing", "other"], sc := defScope (top 46), fns := fns, im := im, st := true, fw := false } (defBody (top 46)) = true := by decide +kernel
theorem d_word {K : PySem.W.Frag} {mg : Str → Option Value} {a : Addr} {od an : Option Addr} {sl : Array (Option Value)} {oc kV dc pm cd ct : Value} (h : mg "word" = some (.ref a))
    (l : K.lookup a = some ⟨oc, od, .func (PySem.W.fnOf "word" "word" (defArgs (top 46)) (defBody (top 46)) (defScope (top 46)) .none kV dc pm an cd ct), sl⟩) (c : PySem.W.codeIn K cd "word" = true) (k : PySem.W.keepIn K (.ref a) = true) {ts : List (Str × Addr × Addr)} :
    DefOk K mg ts fns im false "word" g_word [["other", "thing", "people_in_all", "poll", "roll", "things"]] := by
  refine ⟨a, oc, od, sl, "word", "word", defArgs (top 46), defBody (top 46), defScope (top 46), .none, kV, dc, pm, an, cd, ct, ["things", "roll", "poll", "people_in_all", "thing", "other"], h, k, l, c, sc_word, rfl, ck_word, fun h => absurd h Bool.false_ne_true, fun us hl => ?_, fun ks hk => ?_⟩
  · match us, hl with
    | [a0, a1, a2, a3, a4, a5], _ => rfl
  · simp only [List.mem_cons, List.not_mem_nil, or_false] at hk
    subst hk
    refine ⟨by simp, rfl, fun ws us hl ho => ?_⟩
    match ws, hl with
    | [w0, w1, w2, w3, w4, w5], _ =>
      have e : us = [w5, w4, w3, w2, w1, w0] := (Option.some.inj ho).symm
      subst e
      rfl
theorem sc__law_bag : FnScope ["script", "lap", "stirred", "cell", "own"] ["script", "lap"] (defScope (top 48)) := ⟨rfl, rfl, rfl, by decide +kernel, rfl, by decide +kernel, by decide +kernel⟩
theorem ck__law_bag : ckMs g__law_bag.body { N := ["script", "lap", "stirred", "cell", "own"], sc := defScope (top 48), fns := fns, im := im, st := true, fw := false } (defBody (top 48)) = true := by decide +kernel
theorem d__law_bag {K : PySem.W.Frag} {mg : Str → Option Value} {a : Addr} {od an : Option Addr} {sl : Array (Option Value)} {oc kV dc pm cd ct : Value} (h : mg "_law_bag" = some (.ref a))
    (l : K.lookup a = some ⟨oc, od, .func (PySem.W.fnOf "_law_bag" "_law_bag" (defArgs (top 48)) (defBody (top 48)) (defScope (top 48)) .none kV dc pm an cd ct), sl⟩) (c : PySem.W.codeIn K cd "_law_bag" = true) (k : PySem.W.keepIn K (.ref a) = true) {ts : List (Str × Addr × Addr)} :
    DefOk K mg ts fns im false "_law_bag" g__law_bag [] := by
  refine ⟨a, oc, od, sl, "_law_bag", "_law_bag", defArgs (top 48), defBody (top 48), defScope (top 48), .none, kV, dc, pm, an, cd, ct, ["script", "lap", "stirred", "cell", "own"], h, k, l, c, sc__law_bag, rfl, ck__law_bag, fun h => absurd h Bool.false_ne_true, fun us hl => ?_, fun ks hk => ?_⟩
  · match us, hl with
    | [a0, a1], _ => rfl
  · cases hk
theorem sc__law_take : FnScope ["bag", "top", "digit"] ["bag", "top"] (defScope (top 49)) := ⟨rfl, rfl, rfl, by decide +kernel, rfl, by decide +kernel, by decide +kernel⟩
theorem ck__law_take : ckMs g__law_take.body { N := ["bag", "top", "digit"], sc := defScope (top 49), fns := fns, im := im, st := true, fw := false } (defBody (top 49)) = true := by decide +kernel
theorem d__law_take {K : PySem.W.Frag} {mg : Str → Option Value} {a : Addr} {od an : Option Addr} {sl : Array (Option Value)} {oc kV dc pm cd ct : Value} (h : mg "_law_take" = some (.ref a))
    (l : K.lookup a = some ⟨oc, od, .func (PySem.W.fnOf "_law_take" "_law_take" (defArgs (top 49)) (defBody (top 49)) (defScope (top 49)) .none kV dc pm an cd ct), sl⟩) (c : PySem.W.codeIn K cd "_law_take" = true) (k : PySem.W.keepIn K (.ref a) = true) {ts : List (Str × Addr × Addr)} :
    DefOk K mg ts fns im false "_law_take" g__law_take [] := by
  refine ⟨a, oc, od, sl, "_law_take", "_law_take", defArgs (top 49), defBody (top 49), defScope (top 49), .none, kV, dc, pm, an, cd, ct, ["bag", "top", "digit"], h, k, l, c, sc__law_take, rfl, ck__law_take, fun h => absurd h Bool.false_ne_true, fun us hl => ?_, fun ks hk => ?_⟩
  · match us, hl with
    | [a0, a1], _ => rfl
  · cases hk
theorem sc__law_pull : FnScope ["bag", "some"] ["bag", "some"] (defScope (top 50)) := ⟨rfl, rfl, rfl, by decide +kernel, rfl, by decide +kernel, by decide +kernel⟩
theorem ck__law_pull : ckMs g__law_pull.body { N := ["bag", "some"], sc := defScope (top 50), fns := fns, im := im, st := true, fw := false } (defBody (top 50)) = true := by decide +kernel
theorem d__law_pull {K : PySem.W.Frag} {mg : Str → Option Value} {a : Addr} {od an : Option Addr} {sl : Array (Option Value)} {oc kV dc pm cd ct : Value} (h : mg "_law_pull" = some (.ref a))
    (l : K.lookup a = some ⟨oc, od, .func (PySem.W.fnOf "_law_pull" "_law_pull" (defArgs (top 50)) (defBody (top 50)) (defScope (top 50)) .none kV dc pm an cd ct), sl⟩) (c : PySem.W.codeIn K cd "_law_pull" = true) (k : PySem.W.keepIn K (.ref a) = true) {ts : List (Str × Addr × Addr)} :
    DefOk K mg ts fns im false "_law_pull" g__law_pull [] := by
  refine ⟨a, oc, od, sl, "_law_pull", "_law_pull", defArgs (top 50), defBody (top 50), defScope (top 50), .none, kV, dc, pm, an, cd, ct, ["bag", "some"], h, k, l, c, sc__law_pull, rfl, ck__law_pull, fun h => absurd h Bool.false_ne_true, fun us hl => ?_, fun ks hk => ?_⟩
  · match us, hl with
    | [a0, a1], _ => rfl
  · cases hk
theorem sc__law_orders : FnScope ["things", "found", "turn", "longer", "some", "thing"] ["things"] (defScope (top 51)) := ⟨rfl, rfl, rfl, by decide +kernel, rfl, by decide +kernel, by decide +kernel⟩
theorem ck__law_orders : ckMs g__law_orders.body { N := ["things", "found", "turn", "longer", "some", "thing"], sc := defScope (top 51), fns := fns, im := im, st := true, fw := false } (defBody (top 51)) = true := by decide +kernel
theorem d__law_orders {K : PySem.W.Frag} {mg : Str → Option Value} {a : Addr} {od an : Option Addr} {sl : Array (Option Value)} {oc kV dc pm cd ct : Value} (h : mg "_law_orders" = some (.ref a))
    (l : K.lookup a = some ⟨oc, od, .func (PySem.W.fnOf "_law_orders" "_law_orders" (defArgs (top 51)) (defBody (top 51)) (defScope (top 51)) .none kV dc pm an cd ct), sl⟩) (c : PySem.W.codeIn K cd "_law_orders" = true) (k : PySem.W.keepIn K (.ref a) = true) {ts : List (Str × Addr × Addr)} :
    DefOk K mg ts fns im false "_law_orders" g__law_orders [] := by
  refine ⟨a, oc, od, sl, "_law_orders", "_law_orders", defArgs (top 51), defBody (top 51), defScope (top 51), .none, kV, dc, pm, an, cd, ct, ["things", "found", "turn", "longer", "some", "thing"], h, k, l, c, sc__law_orders, rfl, ck__law_orders, fun h => absurd h Bool.false_ne_true, fun us hl => ?_, fun ks hk => ?_⟩
  · match us, hl with
    | [a0], _ => rfl
  · cases hk
theorem sc__law_roll : FnScope ["bag", "things", "most", "some", "every", "turn"] ["bag", "things", "most"] (defScope (top 52)) := ⟨rfl, rfl, rfl, by decide +kernel, rfl, by decide +kernel, by decide +kernel⟩
theorem ck__law_roll : ckMs g__law_roll.body { N := ["bag", "things", "most", "some", "every", "turn"], sc := defScope (top 52), fns := fns, im := im, st := true, fw := false } (defBody (top 52)) = true := by decide +kernel
theorem d__law_roll {K : PySem.W.Frag} {mg : Str → Option Value} {a : Addr} {od an : Option Addr} {sl : Array (Option Value)} {oc kV dc pm cd ct : Value} (h : mg "_law_roll" = some (.ref a))
    (l : K.lookup a = some ⟨oc, od, .func (PySem.W.fnOf "_law_roll" "_law_roll" (defArgs (top 52)) (defBody (top 52)) (defScope (top 52)) .none kV dc pm an cd ct), sl⟩) (c : PySem.W.codeIn K cd "_law_roll" = true) (k : PySem.W.keepIn K (.ref a) = true) {ts : List (Str × Addr × Addr)} :
    DefOk K mg ts fns im false "_law_roll" g__law_roll [] := by
  refine ⟨a, oc, od, sl, "_law_roll", "_law_roll", defArgs (top 52), defBody (top 52), defScope (top 52), .none, kV, dc, pm, an, cd, ct, ["bag", "things", "most", "some", "every", "turn"], h, k, l, c, sc__law_roll, rfl, ck__law_roll, fun h => absurd h Bool.false_ne_true, fun us hl => ?_, fun ks hk => ?_⟩
  · match us, hl with
    | [a0, a1, a2], _ => rfl
  · cases hk
theorem sc__law_crowd : FnScope ["bag", "roll", "most", "found", "order"] ["bag", "roll", "most"] (defScope (top 53)) := ⟨rfl, rfl, rfl, by decide +kernel, rfl, by decide +kernel, by decide +kernel⟩
theorem ck__law_crowd : ckMs g__law_crowd.body { N := ["bag", "roll", "most", "found", "order"], sc := defScope (top 53), fns := fns, im := im, st := true, fw := false } (defBody (top 53)) = true := by decide +kernel
theorem d__law_crowd {K : PySem.W.Frag} {mg : Str → Option Value} {a : Addr} {od an : Option Addr} {sl : Array (Option Value)} {oc kV dc pm cd ct : Value} (h : mg "_law_crowd" = some (.ref a))
    (l : K.lookup a = some ⟨oc, od, .func (PySem.W.fnOf "_law_crowd" "_law_crowd" (defArgs (top 53)) (defBody (top 53)) (defScope (top 53)) .none kV dc pm an cd ct), sl⟩) (c : PySem.W.codeIn K cd "_law_crowd" = true) (k : PySem.W.keepIn K (.ref a) = true) {ts : List (Str × Addr × Addr)} :
    DefOk K mg ts fns im false "_law_crowd" g__law_crowd [] := by
  refine ⟨a, oc, od, sl, "_law_crowd", "_law_crowd", defArgs (top 53), defBody (top 53), defScope (top 53), .none, kV, dc, pm, an, cd, ct, ["bag", "roll", "most", "found", "order"], h, k, l, c, sc__law_crowd, rfl, ck__law_crowd, fun h => absurd h Bool.false_ne_true, fun us hl => ?_, fun ks hk => ?_⟩
  · match us, hl with
    | [a0, a1, a2], _ => rfl
  · cases hk
theorem sc__law_beats : FnScope ["roll", "crowd", "one", "two", "ahead", "order", "many"] ["roll", "crowd", "one", "two"] (defScope (top 54)) := ⟨rfl, rfl, rfl, by decide +kernel, rfl, by decide +kernel, by decide +kernel⟩
theorem ck__law_beats : ckMs g__law_beats.body { N := ["roll", "crowd", "one", "two", "ahead", "order", "many"], sc := defScope (top 54), fns := fns, im := im, st := true, fw := false } (defBody (top 54)) = true := by decide +kernel
theorem d__law_beats {K : PySem.W.Frag} {mg : Str → Option Value} {a : Addr} {od an : Option Addr} {sl : Array (Option Value)} {oc kV dc pm cd ct : Value} (h : mg "_law_beats" = some (.ref a))
    (l : K.lookup a = some ⟨oc, od, .func (PySem.W.fnOf "_law_beats" "_law_beats" (defArgs (top 54)) (defBody (top 54)) (defScope (top 54)) .none kV dc pm an cd ct), sl⟩) (c : PySem.W.codeIn K cd "_law_beats" = true) (k : PySem.W.keepIn K (.ref a) = true) {ts : List (Str × Addr × Addr)} :
    DefOk K mg ts fns im false "_law_beats" g__law_beats [] := by
  refine ⟨a, oc, od, sl, "_law_beats", "_law_beats", defArgs (top 54), defBody (top 54), defScope (top 54), .none, kV, dc, pm, an, cd, ct, ["roll", "crowd", "one", "two", "ahead", "order", "many"], h, k, l, c, sc__law_beats, rfl, ck__law_beats, fun h => absurd h Bool.false_ne_true, fun us hl => ?_, fun ks hk => ?_⟩
  · match us, hl with
    | [a0, a1, a2, a3], _ => rfl
  · cases hk
theorem sc__law_poll : FnScope ["bag", "roll", "found", "order", "low"] ["bag", "roll"] (defScope (top 55)) := ⟨rfl, rfl, rfl, by decide +kernel, rfl, by decide +kernel, by decide +kernel⟩
theorem ck__law_poll : ckMs g__law_poll.body { N := ["bag", "roll", "found", "order", "low"], sc := defScope (top 55), fns := fns, im := im, st := true, fw := false } (defBody (top 55)) = true := by decide +kernel
theorem d__law_poll {K : PySem.W.Frag} {mg : Str → Option Value} {a : Addr} {od an : Option Addr} {sl : Array (Option Value)} {oc kV dc pm cd ct : Value} (h : mg "_law_poll" = some (.ref a))
    (l : K.lookup a = some ⟨oc, od, .func (PySem.W.fnOf "_law_poll" "_law_poll" (defArgs (top 55)) (defBody (top 55)) (defScope (top 55)) .none kV dc pm an cd ct), sl⟩) (c : PySem.W.codeIn K cd "_law_poll" = true) (k : PySem.W.keepIn K (.ref a) = true) {ts : List (Str × Addr × Addr)} :
    DefOk K mg ts fns im false "_law_poll" g__law_poll [] := by
  refine ⟨a, oc, od, sl, "_law_poll", "_law_poll", defArgs (top 55), defBody (top 55), defScope (top 55), .none, kV, dc, pm, an, cd, ct, ["bag", "roll", "found", "order", "low"], h, k, l, c, sc__law_poll, rfl, ck__law_poll, fun h => absurd h Bool.false_ne_true, fun us hl => ?_, fun ks hk => ?_⟩
  · match us, hl with
    | [a0, a1], _ => rfl
  · cases hk
theorem sc__law_crowds : FnScope ["poll", "people", "found", "low", "high", "longer", "some", "own"] ["poll", "people"] (defScope (top 56)) := ⟨rfl, rfl, rfl, by decide +kernel, rfl, by decide +kernel, by decide +kernel⟩
theorem ck__law_crowds : ckMs g__law_crowds.body { N := ["poll", "people", "found", "low", "high", "longer", "some", "own"], sc := defScope (top 56), fns := fns, im := im, st := true, fw := false } (defBody (top 56)) = true := by decide +kernel
theorem d__law_crowds {K : PySem.W.Frag} {mg : Str → Option Value} {a : Addr} {od an : Option Addr} {sl : Array (Option Value)} {oc kV dc pm cd ct : Value} (h : mg "_law_crowds" = some (.ref a))
    (l : K.lookup a = some ⟨oc, od, .func (PySem.W.fnOf "_law_crowds" "_law_crowds" (defArgs (top 56)) (defBody (top 56)) (defScope (top 56)) .none kV dc pm an cd ct), sl⟩) (c : PySem.W.codeIn K cd "_law_crowds" = true) (k : PySem.W.keepIn K (.ref a) = true) {ts : List (Str × Addr × Addr)} :
    DefOk K mg ts fns im false "_law_crowds" g__law_crowds [] := by
  refine ⟨a, oc, od, sl, "_law_crowds", "_law_crowds", defArgs (top 56), defBody (top 56), defScope (top 56), .none, kV, dc, pm, an, cd, ct, ["poll", "people", "found", "low", "high", "longer", "some", "own"], h, k, l, c, sc__law_crowds, rfl, ck__law_crowds, fun h => absurd h Bool.false_ne_true, fun us hl => ?_, fun ks hk => ?_⟩
  · match us, hl with
    | [a0, a1], _ => rfl
  · cases hk
theorem sc__law_word : FnScope ["roll", "poll", "people", "one", "two", "seen", "some"] ["roll", "poll", "people", "one", "two"] (defScope (top 57)) := ⟨rfl, rfl, rfl, by decide +kernel, rfl, by decide +kernel, by decide +kernel⟩
theorem ck__law_word : ckMs g__law_word.body { N := ["roll", "poll", "people", "one", "two", "seen", "some"], sc := defScope (top 57), fns := fns, im := im, st := true, fw := false } (defBody (top 57)) = true := by decide +kernel
theorem d__law_word {K : PySem.W.Frag} {mg : Str → Option Value} {a : Addr} {od an : Option Addr} {sl : Array (Option Value)} {oc kV dc pm cd ct : Value} (h : mg "_law_word" = some (.ref a))
    (l : K.lookup a = some ⟨oc, od, .func (PySem.W.fnOf "_law_word" "_law_word" (defArgs (top 57)) (defBody (top 57)) (defScope (top 57)) .none kV dc pm an cd ct), sl⟩) (c : PySem.W.codeIn K cd "_law_word" = true) (k : PySem.W.keepIn K (.ref a) = true) {ts : List (Str × Addr × Addr)} :
    DefOk K mg ts fns im false "_law_word" g__law_word [] := by
  refine ⟨a, oc, od, sl, "_law_word", "_law_word", defArgs (top 57), defBody (top 57), defScope (top 57), .none, kV, dc, pm, an, cd, ct, ["roll", "poll", "people", "one", "two", "seen", "some"], h, k, l, c, sc__law_word, rfl, ck__law_word, fun h => absurd h Bool.false_ne_true, fun us hl => ?_, fun ks hk => ?_⟩
  · match us, hl with
    | [a0, a1, a2, a3, a4], _ => rfl
  · cases hk
theorem sc__law_right : FnScope ["bag", "things", "roll", "poll", "total", "one", "two", "due", "told", "crowd", "narrow", "own", "low", "high", "many"] ["bag"] (defScope (top 58)) := ⟨rfl, rfl, rfl, by decide +kernel, rfl, by decide +kernel, by decide +kernel⟩
theorem ck__law_right : ckMs g__law_right.body { N := ["bag", "things", "roll", "poll", "total", "one", "two", "due", "told", "crowd", "narrow", "own", "low", "high", "many"], sc := defScope (top 58), fns := fns, im := im, st := true, fw := false } (defBody (top 58)) = true := by decide +kernel
theorem d__law_right {K : PySem.W.Frag} {mg : Str → Option Value} {a : Addr} {od an : Option Addr} {sl : Array (Option Value)} {oc kV dc pm cd ct : Value} (h : mg "_law_right" = some (.ref a))
    (l : K.lookup a = some ⟨oc, od, .func (PySem.W.fnOf "_law_right" "_law_right" (defArgs (top 58)) (defBody (top 58)) (defScope (top 58)) .none kV dc pm an cd ct), sl⟩) (c : PySem.W.codeIn K cd "_law_right" = true) (k : PySem.W.keepIn K (.ref a) = true) {ts : List (Str × Addr × Addr)} :
    DefOk K mg ts fns im false "_law_right" g__law_right [] := by
  refine ⟨a, oc, od, sl, "_law_right", "_law_right", defArgs (top 58), defBody (top 58), defScope (top 58), .none, kV, dc, pm, an, cd, ct, ["bag", "things", "roll", "poll", "total", "one", "two", "due", "told", "crowd", "narrow", "own", "low", "high", "many"], h, k, l, c, sc__law_right, rfl, ck__law_right, fun h => absurd h Bool.false_ne_true, fun us hl => ?_, fun ks hk => ?_⟩
  · match us, hl with
    | [a0], _ => rfl
  · cases hk
theorem sc_law : FnScope ["script", "lap", "bag", "turn"] ["script"] (defScope (top 59)) := ⟨rfl, rfl, rfl, by decide +kernel, rfl, by decide +kernel, by decide +kernel⟩
theorem ck_law : ckMs g_law.body { N := ["script", "lap", "bag", "turn"], sc := defScope (top 59), fns := fns, im := im, st := true, fw := false } (defBody (top 59)) = true := by decide +kernel
theorem d_law {K : PySem.W.Frag} {mg : Str → Option Value} {a : Addr} {od an : Option Addr} {sl : Array (Option Value)} {oc kV dc pm cd ct : Value} (h : mg "law" = some (.ref a))
    (l : K.lookup a = some ⟨oc, od, .func (PySem.W.fnOf "law" "law" (defArgs (top 59)) (defBody (top 59)) (defScope (top 59)) .none kV dc pm an cd ct), sl⟩) (c : PySem.W.codeIn K cd "law" = true) (k : PySem.W.keepIn K (.ref a) = true) {ts : List (Str × Addr × Addr)} :
    DefOk K mg ts fns im false "law" g_law [] := by
  refine ⟨a, oc, od, sl, "law", "law", defArgs (top 59), defBody (top 59), defScope (top 59), .none, kV, dc, pm, an, cd, ct, ["script", "lap", "bag", "turn"], h, k, l, c, sc_law, rfl, ck_law, fun h => absurd h Bool.false_ne_true, fun us hl => ?_, fun ks hk => ?_⟩
  · match us, hl with
    | [a0], _ => rfl
  · cases hk
theorem sc_fw : FnScope ["value", "is_right", "index", "each"] ["value", "is_right"] (defScope (top 11)) := ⟨rfl, rfl, rfl, by decide +kernel, rfl, by decide +kernel, by decide +kernel⟩
theorem ck_fw : ckMs fwProg (fwC { N := [], sc := defScope (top 11), fns := [], im := im } (defScope (top 11))) (defBody (top 11)) = true := by decide +kernel
theorem all_mk {l : PySem.W.OpenLaw} {w : World} {pr : Program} {K : PySem.W.Frag} {h : Heap} {mg : Str → Option Value} {f0 f1 f2 f3 f4 f5 f6 f7 f8 f9 f10 f11 f12 f13 f14 f15 f16 f17 f18 f19 f20 f21 f22 f23 f24 f25 f26 f27 f28 f29 f30 f31 f32 f33 f34 f35 f36 f37 : Addr} {tc10 tp10 tc13 tp13 tc20 tp20 : Addr} {td10 td13 td20 : PySem.DefRec} {ffw : Addr} {odfw anfw : Option Addr} {slfw : Array (Option Value)} {ocfw kVfw dcfw pmfw cdfw ctfw : Value} (X : K.In h) (G : h.Ns mainGlobals mg)
    {od0 an0 od1 an1 od2 an2 od3 an3 od4 an4 od5 an5 od6 an6 od7 an7 od8 an8 od9 an9 od10 an10 od11 an11 od12 an12 od13 an13 od14 an14 od15 an15 od16 an16 od17 an17 od18 an18 od19 an19 od20 an20 od21 an21 od22 an22 od23 an23 od24 an24 od25 an25 od26 an26 od27 an27 od28 an28 od29 an29 od30 an30 od31 an31 od32 an32 od33 an33 od34 an34 od35 an35 od36 an36 od37 an37 : Option Addr} {sl0 sl1 sl2 sl3 sl4 sl5 sl6 sl7 sl8 sl9 sl10 sl11 sl12 sl13 sl14 sl15 sl16 sl17 sl18 sl19 sl20 sl21 sl22 sl23 sl24 sl25 sl26 sl27 sl28 sl29 sl30 sl31 sl32 sl33 sl34 sl35 sl36 sl37 : Array (Option Value)} {oc0 kV0 dc0 pm0 cd0 ct0 oc1 kV1 dc1 pm1 cd1 ct1 oc2 kV2 dc2 pm2 cd2 ct2 oc3 kV3 dc3 pm3 cd3 ct3 oc4 kV4 dc4 pm4 cd4 ct4 oc5 kV5 dc5 pm5 cd5 ct5 oc6 kV6 dc6 pm6 cd6 ct6 oc7 kV7 dc7 pm7 cd7 ct7 oc8 kV8 dc8 pm8 cd8 ct8 oc9 kV9 dc9 pm9 cd9 ct9 oc10 kV10 dc10 pm10 cd10 ct10 oc11 kV11 dc11 pm11 cd11 ct11 oc12 kV12 dc12 pm12 cd12 ct12 oc13 kV13 dc13 pm13 cd13 ct13 oc14 kV14 dc14 pm14 cd14 ct14 oc15 kV15 dc15 pm15 cd15 ct15 oc16 kV16 dc16 pm16 cd16 ct16 oc17 kV17 dc17 pm17 cd17 ct17 oc18 kV18 dc18 pm18 cd18 ct18 oc19 kV19 dc19 pm19 cd19 ct19 oc20 kV20 dc20 pm20 cd20 ct20 oc21 kV21 dc21 pm21 cd21 ct21 oc22 kV22 dc22 pm22 cd22 ct22 oc23 kV23 dc23 pm23 cd23 ct23 oc24 kV24 dc24 pm24 cd24 ct24 oc25 kV25 dc25 pm25 cd25 ct25 oc26 kV26 dc26 pm26 cd26 ct26 oc27 kV27 dc27 pm27 cd27 ct27 oc28 kV28 dc28 pm28 cd28 ct28 oc29 kV29 dc29 pm29 cd29 ct29 oc30 kV30 dc30 pm30 cd30 ct30 oc31 kV31 dc31 pm31 cd31 ct31 oc32 kV32 dc32 pm32 cd32 ct32 oc33 kV33 dc33 pm33 cd33 ct33 oc34 kV34 dc34 pm34 cd34 ct34 oc35 kV35 dc35 pm35 cd35 ct35 oc36 kV36 dc36 pm36 cd36 ct36 oc37 kV37 dc37 pm37 cd37 ct37 : Value} {t0 t1 t2 t3 t4 t5 t6 t7 t8 t9 t10 : Tok}
    (a0 : PySem.W.nsIn K mainGlobals "is_whole" = some (some (.ref f0))) (l0 : K.lookup f0 = some ⟨oc0, od0, .func (PySem.W.fnOf "is_whole" "is_whole" (defArgs (top 7)) (defBody (top 7)) (defScope (top 7)) .none kV0 dc0 pm0 an0 cd0 ct0), sl0⟩) (c0 : PySem.W.codeIn K cd0 "is_whole" = true) (k0 : PySem.W.keepIn K (.ref f0) = true)
    (a1 : PySem.W.nsIn K mainGlobals "is_between" = some (some (.ref f1))) (l1 : K.lookup f1 = some ⟨oc1, od1, .func (PySem.W.fnOf "is_between" "is_between" (defArgs (top 8)) (defBody (top 8)) (defScope (top 8)) .none kV1 dc1 pm1 an1 cd1 ct1), sl1⟩) (c1 : PySem.W.codeIn K cd1 "is_between" = true) (k1 : PySem.W.keepIn K (.ref f1) = true)
    (a2 : PySem.W.nsIn K mainGlobals "is_tuple_of" = some (some (.ref f2))) (l2 : K.lookup f2 = some ⟨oc2, od2, .func (PySem.W.fnOf "is_tuple_of" "is_tuple_of" (defArgs (top 9)) (defBody (top 9)) (defScope (top 9)) .none kV2 dc2 pm2 an2 cd2 ct2), sl2⟩) (c2 : PySem.W.codeIn K cd2 "is_tuple_of" = true) (k2 : PySem.W.keepIn K (.ref f2) = true)
    (a3 : PySem.W.nsIn K mainGlobals "is_row" = some (some (.ref f3))) (l3 : K.lookup f3 = some ⟨oc3, od3, .func (PySem.W.fnOf "is_row" "is_row" (defArgs (top 10)) (defBody (top 10)) (defScope (top 10)) .none kV3 dc3 pm3 an3 cd3 ct3), sl3⟩) (c3 : PySem.W.codeIn K cd3 "is_row" = true) (k3 : PySem.W.keepIn K (.ref f3) = true)
    (a4 : PySem.W.nsIn K mainGlobals "is_things" = some (some (.ref f4))) (l4 : K.lookup f4 = some ⟨oc4, od4, .func (PySem.W.fnOf "is_things" "is_things" (defArgs (top 17)) (defBody (top 17)) (defScope (top 17)) .none kV4 dc4 pm4 an4 cd4 ct4), sl4⟩) (c4 : PySem.W.codeIn K cd4 "is_things" = true) (k4 : PySem.W.keepIn K (.ref f4) = true)
    (a5 : PySem.W.nsIn K mainGlobals "check_things" = some (some (.ref f5))) (l5 : K.lookup f5 = some ⟨oc5, od5, .func (PySem.W.fnOf "check_things" "check_things" (defArgs (top 18)) (defBody (top 18)) (defScope (top 18)) .none kV5 dc5 pm5 an5 cd5 ct5), sl5⟩) (c5 : PySem.W.codeIn K cd5 "check_things" = true) (k5 : PySem.W.keepIn K (.ref f5) = true)
    (a6 : PySem.W.nsIn K mainGlobals "is_thing" = some (some (.ref f6))) (l6 : K.lookup f6 = some ⟨oc6, od6, .func (PySem.W.fnOf "is_thing" "is_thing" (defArgs (top 19)) (defBody (top 19)) (defScope (top 19)) .none kV6 dc6 pm6 an6 cd6 ct6), sl6⟩) (c6 : PySem.W.codeIn K cd6 "is_thing" = true) (k6 : PySem.W.keepIn K (.ref f6) = true)
    (a7 : PySem.W.nsIn K mainGlobals "check_thing" = some (some (.ref f7))) (l7 : K.lookup f7 = some ⟨oc7, od7, .func (PySem.W.fnOf "check_thing" "check_thing" (defArgs (top 20)) (defBody (top 20)) (defScope (top 20)) .none kV7 dc7 pm7 an7 cd7 ct7), sl7⟩) (c7 : PySem.W.codeIn K cd7 "check_thing" = true) (k7 : PySem.W.keepIn K (.ref f7) = true)
    (a8 : PySem.W.nsIn K mainGlobals "is_order" = some (some (.ref f8))) (l8 : K.lookup f8 = some ⟨oc8, od8, .func (PySem.W.fnOf "is_order" "is_order" (defArgs (top 21)) (defBody (top 21)) (defScope (top 21)) .none kV8 dc8 pm8 an8 cd8 ct8), sl8⟩) (c8 : PySem.W.codeIn K cd8 "is_order" = true) (k8 : PySem.W.keepIn K (.ref f8) = true)
    (a9 : PySem.W.nsIn K mainGlobals "is_ahead" = some (some (.ref f9))) (l9 : K.lookup f9 = some ⟨oc9, od9, .func (PySem.W.fnOf "is_ahead" "is_ahead" (defArgs (top 22)) (defBody (top 22)) (defScope (top 22)) .none kV9 dc9 pm9 an9 cd9 ct9), sl9⟩) (c9 : PySem.W.codeIn K cd9 "is_ahead" = true) (k9 : PySem.W.keepIn K (.ref f9) = true)
    (a10 : PySem.W.nsIn K mainGlobals "wrong_order" = some (some (.ref f10))) (l10 : K.lookup f10 = some ⟨oc10, od10, .func (PySem.W.fnOf "wrong_order" "wrong_order" (defArgs (top 23)) (defBody (top 23)) (defScope (top 23)) .none kV10 dc10 pm10 an10 cd10 ct10), sl10⟩) (c10 : PySem.W.codeIn K cd10 "wrong_order" = true) (k10 : PySem.W.keepIn K (.ref f10) = true)
    (a11 : PySem.W.nsIn K mainGlobals "check_orders" = some (some (.ref f11))) (l11 : K.lookup f11 = some ⟨oc11, od11, .func (PySem.W.fnOf "check_orders" "check_orders" (defArgs (top 24)) (defBody (top 24)) (defScope (top 24)) .none kV11 dc11 pm11 an11 cd11 ct11), sl11⟩) (c11 : PySem.W.codeIn K cd11 "check_orders" = true) (k11 : PySem.W.keepIn K (.ref f11) = true)
    (a12 : PySem.W.nsIn K mainGlobals "check_roll" = some (some (.ref f12))) (l12 : K.lookup f12 = some ⟨oc12, od12, .func (PySem.W.fnOf "check_roll" "check_roll" (defArgs (top 25)) (defBody (top 25)) (defScope (top 25)) .none kV12 dc12 pm12 an12 cd12 ct12), sl12⟩) (c12 : PySem.W.codeIn K cd12 "check_roll" = true) (k12 : PySem.W.keepIn K (.ref f12) = true)
    (a13 : PySem.W.nsIn K mainGlobals "wrong_many" = some (some (.ref f13))) (l13 : K.lookup f13 = some ⟨oc13, od13, .func (PySem.W.fnOf "wrong_many" "wrong_many" (defArgs (top 26)) (defBody (top 26)) (defScope (top 26)) .none kV13 dc13 pm13 an13 cd13 ct13), sl13⟩) (c13 : PySem.W.codeIn K cd13 "wrong_many" = true) (k13 : PySem.W.keepIn K (.ref f13) = true)
    (a14 : PySem.W.nsIn K mainGlobals "check_crowd" = some (some (.ref f14))) (l14 : K.lookup f14 = some ⟨oc14, od14, .func (PySem.W.fnOf "check_crowd" "check_crowd" (defArgs (top 27)) (defBody (top 27)) (defScope (top 27)) .none kV14 dc14 pm14 an14 cd14 ct14), sl14⟩) (c14 : PySem.W.codeIn K cd14 "check_crowd" = true) (k14 : PySem.W.keepIn K (.ref f14) = true)
    (a15 : PySem.W.nsIn K mainGlobals "check_crowded" = some (some (.ref f15))) (l15 : K.lookup f15 = some ⟨oc15, od15, .func (PySem.W.fnOf "check_crowded" "check_crowded" (defArgs (top 28)) (defBody (top 28)) (defScope (top 28)) .none kV15 dc15 pm15 an15 cd15 ct15), sl15⟩) (c15 : PySem.W.codeIn K cd15 "check_crowded" = true) (k15 : PySem.W.keepIn K (.ref f15) = true)
    (a16 : PySem.W.nsIn K mainGlobals "margin_by" = some (some (.ref f16))) (l16 : K.lookup f16 = some ⟨oc16, od16, .func (PySem.W.fnOf "margin_by" "margin_by" (defArgs (top 29)) (defBody (top 29)) (defScope (top 29)) .none kV16 dc16 pm16 an16 cd16 ct16), sl16⟩) (c16 : PySem.W.codeIn K cd16 "margin_by" = true) (k16 : PySem.W.keepIn K (.ref f16) = true)
    (a17 : PySem.W.nsIn K mainGlobals "beats_by" = some (some (.ref f17))) (l17 : K.lookup f17 = some ⟨oc17, od17, .func (PySem.W.fnOf "beats_by" "beats_by" (defArgs (top 30)) (defBody (top 30)) (defScope (top 30)) .none kV17 dc17 pm17 an17 cd17 ct17), sl17⟩) (c17 : PySem.W.codeIn K cd17 "beats_by" = true) (k17 : PySem.W.keepIn K (.ref f17) = true)
    (a18 : PySem.W.nsIn K mainGlobals "beats" = some (some (.ref f18))) (l18 : K.lookup f18 = some ⟨oc18, od18, .func (PySem.W.fnOf "beats" "beats" (defArgs (top 31)) (defBody (top 31)) (defScope (top 31)) .none kV18 dc18 pm18 an18 cd18 ct18), sl18⟩) (c18 : PySem.W.codeIn K cd18 "beats" = true) (k18 : PySem.W.keepIn K (.ref f18) = true)
    (a19 : PySem.W.nsIn K mainGlobals "is_limit" = some (some (.ref f19))) (l19 : K.lookup f19 = some ⟨oc19, od19, .func (PySem.W.fnOf "is_limit" "is_limit" (defArgs (top 40)) (defBody (top 40)) (defScope (top 40)) .none kV19 dc19 pm19 an19 cd19 ct19), sl19⟩) (c19 : PySem.W.codeIn K cd19 "is_limit" = true) (k19 : PySem.W.keepIn K (.ref f19) = true)
    (a20 : PySem.W.nsIn K mainGlobals "wrong_limit" = some (some (.ref f20))) (l20 : K.lookup f20 = some ⟨oc20, od20, .func (PySem.W.fnOf "wrong_limit" "wrong_limit" (defArgs (top 41)) (defBody (top 41)) (defScope (top 41)) .none kV20 dc20 pm20 an20 cd20 ct20), sl20⟩) (c20 : PySem.W.codeIn K cd20 "wrong_limit" = true) (k20 : PySem.W.keepIn K (.ref f20) = true)
    (a21 : PySem.W.nsIn K mainGlobals "is_in_all" = some (some (.ref f21))) (l21 : K.lookup f21 = some ⟨oc21, od21, .func (PySem.W.fnOf "is_in_all" "is_in_all" (defArgs (top 42)) (defBody (top 42)) (defScope (top 42)) .none kV21 dc21 pm21 an21 cd21 ct21), sl21⟩) (c21 : PySem.W.codeIn K cd21 "is_in_all" = true) (k21 : PySem.W.keepIn K (.ref f21) = true)
    (a22 : PySem.W.nsIn K mainGlobals "crowds_by" = some (some (.ref f22))) (l22 : K.lookup f22 = some ⟨oc22, od22, .func (PySem.W.fnOf "crowds_by" "crowds_by" (defArgs (top 43)) (defBody (top 43)) (defScope (top 43)) .none kV22 dc22 pm22 an22 cd22 ct22), sl22⟩) (c22 : PySem.W.codeIn K cd22 "crowds_by" = true) (k22 : PySem.W.keepIn K (.ref f22) = true)
    (a23 : PySem.W.nsIn K mainGlobals "word_by" = some (some (.ref f23))) (l23 : K.lookup f23 = some ⟨oc23, od23, .func (PySem.W.fnOf "word_by" "word_by" (defArgs (top 44)) (defBody (top 44)) (defScope (top 44)) .none kV23 dc23 pm23 an23 cd23 ct23), sl23⟩) (c23 : PySem.W.codeIn K cd23 "word_by" = true) (k23 : PySem.W.keepIn K (.ref f23) = true)
    (a24 : PySem.W.nsIn K mainGlobals "check_polled" = some (some (.ref f24))) (l24 : K.lookup f24 = some ⟨oc24, od24, .func (PySem.W.fnOf "check_polled" "check_polled" (defArgs (top 45)) (defBody (top 45)) (defScope (top 45)) .none kV24 dc24 pm24 an24 cd24 ct24), sl24⟩) (c24 : PySem.W.codeIn K cd24 "check_polled" = true) (k24 : PySem.W.keepIn K (.ref f24) = true)
    (a25 : PySem.W.nsIn K mainGlobals "word" = some (some (.ref f25))) (l25 : K.lookup f25 = some ⟨oc25, od25, .func (PySem.W.fnOf "word" "word" (defArgs (top 46)) (defBody (top 46)) (defScope (top 46)) .none kV25 dc25 pm25 an25 cd25 ct25), sl25⟩) (c25 : PySem.W.codeIn K cd25 "word" = true) (k25 : PySem.W.keepIn K (.ref f25) = true)
    (a26 : PySem.W.nsIn K mainGlobals "_law_bag" = some (some (.ref f26))) (l26 : K.lookup f26 = some ⟨oc26, od26, .func (PySem.W.fnOf "_law_bag" "_law_bag" (defArgs (top 48)) (defBody (top 48)) (defScope (top 48)) .none kV26 dc26 pm26 an26 cd26 ct26), sl26⟩) (c26 : PySem.W.codeIn K cd26 "_law_bag" = true) (k26 : PySem.W.keepIn K (.ref f26) = true)
    (a27 : PySem.W.nsIn K mainGlobals "_law_take" = some (some (.ref f27))) (l27 : K.lookup f27 = some ⟨oc27, od27, .func (PySem.W.fnOf "_law_take" "_law_take" (defArgs (top 49)) (defBody (top 49)) (defScope (top 49)) .none kV27 dc27 pm27 an27 cd27 ct27), sl27⟩) (c27 : PySem.W.codeIn K cd27 "_law_take" = true) (k27 : PySem.W.keepIn K (.ref f27) = true)
    (a28 : PySem.W.nsIn K mainGlobals "_law_pull" = some (some (.ref f28))) (l28 : K.lookup f28 = some ⟨oc28, od28, .func (PySem.W.fnOf "_law_pull" "_law_pull" (defArgs (top 50)) (defBody (top 50)) (defScope (top 50)) .none kV28 dc28 pm28 an28 cd28 ct28), sl28⟩) (c28 : PySem.W.codeIn K cd28 "_law_pull" = true) (k28 : PySem.W.keepIn K (.ref f28) = true)
    (a29 : PySem.W.nsIn K mainGlobals "_law_orders" = some (some (.ref f29))) (l29 : K.lookup f29 = some ⟨oc29, od29, .func (PySem.W.fnOf "_law_orders" "_law_orders" (defArgs (top 51)) (defBody (top 51)) (defScope (top 51)) .none kV29 dc29 pm29 an29 cd29 ct29), sl29⟩) (c29 : PySem.W.codeIn K cd29 "_law_orders" = true) (k29 : PySem.W.keepIn K (.ref f29) = true)
    (a30 : PySem.W.nsIn K mainGlobals "_law_roll" = some (some (.ref f30))) (l30 : K.lookup f30 = some ⟨oc30, od30, .func (PySem.W.fnOf "_law_roll" "_law_roll" (defArgs (top 52)) (defBody (top 52)) (defScope (top 52)) .none kV30 dc30 pm30 an30 cd30 ct30), sl30⟩) (c30 : PySem.W.codeIn K cd30 "_law_roll" = true) (k30 : PySem.W.keepIn K (.ref f30) = true)
    (a31 : PySem.W.nsIn K mainGlobals "_law_crowd" = some (some (.ref f31))) (l31 : K.lookup f31 = some ⟨oc31, od31, .func (PySem.W.fnOf "_law_crowd" "_law_crowd" (defArgs (top 53)) (defBody (top 53)) (defScope (top 53)) .none kV31 dc31 pm31 an31 cd31 ct31), sl31⟩) (c31 : PySem.W.codeIn K cd31 "_law_crowd" = true) (k31 : PySem.W.keepIn K (.ref f31) = true)
    (a32 : PySem.W.nsIn K mainGlobals "_law_beats" = some (some (.ref f32))) (l32 : K.lookup f32 = some ⟨oc32, od32, .func (PySem.W.fnOf "_law_beats" "_law_beats" (defArgs (top 54)) (defBody (top 54)) (defScope (top 54)) .none kV32 dc32 pm32 an32 cd32 ct32), sl32⟩) (c32 : PySem.W.codeIn K cd32 "_law_beats" = true) (k32 : PySem.W.keepIn K (.ref f32) = true)
    (a33 : PySem.W.nsIn K mainGlobals "_law_poll" = some (some (.ref f33))) (l33 : K.lookup f33 = some ⟨oc33, od33, .func (PySem.W.fnOf "_law_poll" "_law_poll" (defArgs (top 55)) (defBody (top 55)) (defScope (top 55)) .none kV33 dc33 pm33 an33 cd33 ct33), sl33⟩) (c33 : PySem.W.codeIn K cd33 "_law_poll" = true) (k33 : PySem.W.keepIn K (.ref f33) = true)
    (a34 : PySem.W.nsIn K mainGlobals "_law_crowds" = some (some (.ref f34))) (l34 : K.lookup f34 = some ⟨oc34, od34, .func (PySem.W.fnOf "_law_crowds" "_law_crowds" (defArgs (top 56)) (defBody (top 56)) (defScope (top 56)) .none kV34 dc34 pm34 an34 cd34 ct34), sl34⟩) (c34 : PySem.W.codeIn K cd34 "_law_crowds" = true) (k34 : PySem.W.keepIn K (.ref f34) = true)
    (a35 : PySem.W.nsIn K mainGlobals "_law_word" = some (some (.ref f35))) (l35 : K.lookup f35 = some ⟨oc35, od35, .func (PySem.W.fnOf "_law_word" "_law_word" (defArgs (top 57)) (defBody (top 57)) (defScope (top 57)) .none kV35 dc35 pm35 an35 cd35 ct35), sl35⟩) (c35 : PySem.W.codeIn K cd35 "_law_word" = true) (k35 : PySem.W.keepIn K (.ref f35) = true)
    (a36 : PySem.W.nsIn K mainGlobals "_law_right" = some (some (.ref f36))) (l36 : K.lookup f36 = some ⟨oc36, od36, .func (PySem.W.fnOf "_law_right" "_law_right" (defArgs (top 58)) (defBody (top 58)) (defScope (top 58)) .none kV36 dc36 pm36 an36 cd36 ct36), sl36⟩) (c36 : PySem.W.codeIn K cd36 "_law_right" = true) (k36 : PySem.W.keepIn K (.ref f36) = true)
    (a37 : PySem.W.nsIn K mainGlobals "law" = some (some (.ref f37))) (l37 : K.lookup f37 = some ⟨oc37, od37, .func (PySem.W.fnOf "law" "law" (defArgs (top 59)) (defBody (top 59)) (defScope (top 59)) .none kV37 dc37 pm37 an37 cd37 ct37), sl37⟩) (c37 : PySem.W.codeIn K cd37 "law" = true) (k37 : PySem.W.keepIn K (.ref f37) = true)
    (z0 : PySem.W.nsIn K mainGlobals "abs" = some none)
    (z1 : PySem.W.nsIn K mainGlobals "int" = some none)
    (z2 : PySem.W.nsIn K mainGlobals "len" = some none)
    (z3 : PySem.W.nsIn K mainGlobals "repr" = some none)
    (z4 : PySem.W.nsIn K mainGlobals "set" = some none)
    (z5 : PySem.W.nsIn K mainGlobals "tuple" = some none)
    (z6 : PySem.W.nsIn K mainGlobals "all" = some none)
    (z7 : PySem.W.nsIn K mainGlobals "any" = some none)
    (z8 : PySem.W.nsIn K mainGlobals "sum" = some none)
    (z9 : PySem.W.nsIn K mainGlobals "max" = some none)
    (z10 : PySem.W.nsIn K mainGlobals "min" = some none)
    (z11 : PySem.W.nsIn K mainGlobals "list" = some none)
    (z12 : PySem.W.nsIn K mainGlobals "sorted" = some none)
    (z13 : PySem.W.nsIn K mainGlobals "divmod" = some none)
    (z14 : PySem.W.nsIn K mainGlobals "range" = some none)
    (z15 : PySem.W.nsIn K mainGlobals "isinstance" = some none)
    (z16 : PySem.W.nsIn K mainGlobals "bool" = some none)
    (z17 : PySem.W.nsIn K mainGlobals "str" = some none)
    (z18 : PySem.W.nsIn K mainGlobals "enumerate" = some none)
    (z19 : PySem.W.nsIn K mainGlobals "zip" = some none)
    (gcn0 : PySem.W.nsIn K mainGlobals "FEWEST_THINGS" = some (some (.int 3 t0)))
    (gcn1 : PySem.W.nsIn K mainGlobals "MOST_THINGS" = some (some (.int 5 t1)))
    (gcn2 : PySem.W.nsIn K mainGlobals "MOST_ORDERS_rolls" = some (some (.int 24 t2)))
    (gcn3 : PySem.W.nsIn K mainGlobals "MOST_PEOPLE" = some (some (.int 99 t3)))
    (gcn4 : PySem.W.nsIn K mainGlobals "MOST_ORDERS_striking" = some (some (.int 5 t4)))
    (gcn5 : PySem.W.nsIn K mainGlobals "MOST_EACH" = some (some (.int 5 t5)))
    (gcn6 : PySem.W.nsIn K mainGlobals "MOST_TOLD" = some (some (.int 25 t6)))
    (gcn7 : PySem.W.nsIn K mainGlobals "SURELY" = some (some (.str "surely" t7)))
    (gcn8 : PySem.W.nsIn K mainGlobals "MAYBE" = some (some (.str "maybe" t8)))
    (gcn9 : PySem.W.nsIn K mainGlobals "NEVER" = some (some (.str "never" t9)))
    (gcn10 : PySem.W.nsIn K mainGlobals "NONE" = some (some (.str "none" t10)))
    (tt10 : PySem.W.tabIn K "wrong_order" = some (tc10, tp10)) (tn10 : K.lookup tp10 = none) (tr10 : (PyProof.Rows.recsOf pr).find? (fun e => e.name == ("wrong_order" : Str)) = some td10)
    (tt13 : PySem.W.tabIn K "wrong_many" = some (tc13, tp13)) (tn13 : K.lookup tp13 = none) (tr13 : (PyProof.Rows.recsOf pr).find? (fun e => e.name == ("wrong_many" : Str)) = some td13)
    (tt20 : PySem.W.tabIn K "wrong_limit" = some (tc20, tp20)) (tn20 : K.lookup tp20 = none) (tr20 : (PyProof.Rows.recsOf pr).find? (fun e => e.name == ("wrong_limit" : Str)) = some td20)
    (afw : PySem.W.nsIn K mainGlobals "first_wrong" = some (some (.ref ffw))) (lfw : K.lookup ffw = some ⟨ocfw, odfw, .func (PySem.W.fnOf "first_wrong" "first_wrong" (defArgs (top 11)) (defBody (top 11)) (defScope (top 11)) .none kVfw dcfw pmfw anfw cdfw ctfw), slfw⟩) (cfw : PySem.W.codeIn K cdfw "first_wrong" = true) (kfw : PySem.W.keepIn K (.ref ffw) = true)
    (tnd : [tp10, tp13, tp20].Nodup) (Wn k : Nat) :
    ∃ ts : List (Str × Addr × Addr), TabsIn pr K ts ∧ ∀ base : Heap, K.In base → base.Ns mainGlobals mg → (∀ t ∈ ts, LamX.TabB base mg t.2.1 t.2.2) → FnK ⟨K, mg, ⟨tauOf ts, none⟩⟩ l.prog w base (3 * k) { call := callN T gc Wn k, gc := gc } "law" 1 [] := by
  refine ⟨[("wrong_order", tc10, tp10), ("wrong_many", tc13, tp13), ("wrong_limit", tc20, tp20)], ?_, fun base _ _ TB => ?_⟩
  · intro t ht
    simp only [List.mem_cons, List.not_mem_nil, or_false] at ht
    rcases ht with rfl | rfl | rfl
    · exact ⟨⟨_, tr10⟩, tt10, tn10⟩
    · exact ⟨⟨_, tr13⟩, tt13, tn13⟩
    · exact ⟨⟨_, tr20⟩, tt20, tn20⟩
  refine fns_ok (F := ⟨K, mg, ⟨tauOf [("wrong_order", tc10, tp10), ("wrong_many", tc13, tp13), ("wrong_limit", tc20, tp20)], none⟩⟩) (ts := [("wrong_order", tc10, tp10), ("wrong_many", tc13, tp13), ("wrong_limit", tc20, tp20)]) (T := T) (gc := gc) (fns := fns) (im := im) rfl (tnd) TB (fun _ => ⟨ffw, defBody (top 11), defScope (top 11), cdfw, ⟨PySem.W.mg_of X G afw, kfw, ⟨ocfw, odfw, slfw, defArgs (top 11), .none, kVfw, dcfw, pmfw, anfw, ctfw, lfw, fun us hl => by match us, hl with | [b0, b1], _ => rfl⟩, cfw, sc_fw⟩, ck_fw⟩) (fun f n kws hf => ?_) (fun x hx => ?_) (fun x d hx => ?_) (fun x T hp => ?_) k "law" 1 [] (by decide +kernel)
  · simp only [fns, List.mem_cons, Prod.mk.injEq, List.not_mem_nil, or_false] at hf
    rcases hf with ⟨rfl, rfl, rfl⟩ | ⟨rfl, rfl, rfl⟩ | ⟨rfl, rfl, rfl⟩ | ⟨rfl, rfl, rfl⟩ | ⟨rfl, rfl, rfl⟩ | ⟨rfl, rfl, rfl⟩ | ⟨rfl, rfl, rfl⟩ | ⟨rfl, rfl, rfl⟩ | ⟨rfl, rfl, rfl⟩ | ⟨rfl, rfl, rfl⟩ | ⟨rfl, rfl, rfl⟩ | ⟨rfl, rfl, rfl⟩ | ⟨rfl, rfl, rfl⟩ | ⟨rfl, rfl, rfl⟩ | ⟨rfl, rfl, rfl⟩ | ⟨rfl, rfl, rfl⟩ | ⟨rfl, rfl, rfl⟩ | ⟨rfl, rfl, rfl⟩ | ⟨rfl, rfl, rfl⟩ | ⟨rfl, rfl, rfl⟩ | ⟨rfl, rfl, rfl⟩ | ⟨rfl, rfl, rfl⟩ | ⟨rfl, rfl, rfl⟩ | ⟨rfl, rfl, rfl⟩ | ⟨rfl, rfl, rfl⟩ | ⟨rfl, rfl, rfl⟩ | ⟨rfl, rfl, rfl⟩ | ⟨rfl, rfl, rfl⟩ | ⟨rfl, rfl, rfl⟩ | ⟨rfl, rfl, rfl⟩ | ⟨rfl, rfl, rfl⟩ | ⟨rfl, rfl, rfl⟩ | ⟨rfl, rfl, rfl⟩ | ⟨rfl, rfl, rfl⟩ | ⟨rfl, rfl, rfl⟩ | ⟨rfl, rfl, rfl⟩ | ⟨rfl, rfl, rfl⟩ | ⟨rfl, rfl, rfl⟩
    · exact ⟨g_is_whole, false, rfl, rfl, d_is_whole (PySem.W.mg_of X G a0) l0 c0 k0⟩
    · exact ⟨g_is_between, false, rfl, rfl, d_is_between (PySem.W.mg_of X G a1) l1 c1 k1⟩
    · exact ⟨g_is_tuple_of, false, rfl, rfl, d_is_tuple_of (PySem.W.mg_of X G a2) l2 c2 k2⟩
    · exact ⟨g_is_row, false, rfl, rfl, d_is_row (PySem.W.mg_of X G a3) l3 c3 k3⟩
    · exact ⟨g_is_things, false, rfl, rfl, d_is_things (PySem.W.mg_of X G a4) l4 c4 k4⟩
    · exact ⟨g_check_things, false, rfl, rfl, d_check_things (PySem.W.mg_of X G a5) l5 c5 k5⟩
    · exact ⟨g_is_thing, false, rfl, rfl, d_is_thing (PySem.W.mg_of X G a6) l6 c6 k6⟩
    · exact ⟨g_check_thing, false, rfl, rfl, d_check_thing (PySem.W.mg_of X G a7) l7 c7 k7⟩
    · exact ⟨g_is_order, false, rfl, rfl, d_is_order (PySem.W.mg_of X G a8) l8 c8 k8⟩
    · exact ⟨g_is_ahead, false, rfl, rfl, d_is_ahead (PySem.W.mg_of X G a9) l9 c9 k9⟩
    · exact ⟨g_wrong_order, true, rfl, rfl, d_wrong_order (PySem.W.mg_of X G a10) l10 c10 k10 ⟨_, _, code_of_tab a10 l10 tt10, List.mem_cons_self⟩⟩
    · exact ⟨g_check_orders, false, rfl, rfl, d_check_orders (PySem.W.mg_of X G a11) l11 c11 k11⟩
    · exact ⟨g_check_roll, false, rfl, rfl, d_check_roll (PySem.W.mg_of X G a12) l12 c12 k12⟩
    · exact ⟨g_wrong_many, true, rfl, rfl, d_wrong_many (PySem.W.mg_of X G a13) l13 c13 k13 ⟨_, _, code_of_tab a13 l13 tt13, (List.mem_cons_of_mem _ List.mem_cons_self)⟩⟩
    · exact ⟨g_check_crowd, false, rfl, rfl, d_check_crowd (PySem.W.mg_of X G a14) l14 c14 k14⟩
    · exact ⟨g_check_crowded, false, rfl, rfl, d_check_crowded (PySem.W.mg_of X G a15) l15 c15 k15⟩
    · exact ⟨g_margin_by, false, rfl, rfl, d_margin_by (PySem.W.mg_of X G a16) l16 c16 k16⟩
    · exact ⟨g_beats_by, false, rfl, rfl, d_beats_by (PySem.W.mg_of X G a17) l17 c17 k17⟩
    · exact ⟨g_beats, false, rfl, rfl, d_beats (PySem.W.mg_of X G a18) l18 c18 k18⟩
    · exact ⟨g_is_limit, false, rfl, rfl, d_is_limit (PySem.W.mg_of X G a19) l19 c19 k19⟩
    · exact ⟨g_wrong_limit, true, rfl, rfl, d_wrong_limit (PySem.W.mg_of X G a20) l20 c20 k20 ⟨_, _, code_of_tab a20 l20 tt20, (List.mem_cons_of_mem _ (List.mem_cons_of_mem _ List.mem_cons_self))⟩⟩
    · exact ⟨g_is_in_all, false, rfl, rfl, d_is_in_all (PySem.W.mg_of X G a21) l21 c21 k21⟩
    · exact ⟨g_crowds_by, false, rfl, rfl, d_crowds_by (PySem.W.mg_of X G a22) l22 c22 k22⟩
    · exact ⟨g_word_by, false, rfl, rfl, d_word_by (PySem.W.mg_of X G a23) l23 c23 k23⟩
    · exact ⟨g_check_polled, false, rfl, rfl, d_check_polled (PySem.W.mg_of X G a24) l24 c24 k24⟩
    · exact ⟨g_word, false, rfl, rfl, d_word (PySem.W.mg_of X G a25) l25 c25 k25⟩
    · exact ⟨g__law_bag, false, rfl, rfl, d__law_bag (PySem.W.mg_of X G a26) l26 c26 k26⟩
    · exact ⟨g__law_take, false, rfl, rfl, d__law_take (PySem.W.mg_of X G a27) l27 c27 k27⟩
    · exact ⟨g__law_pull, false, rfl, rfl, d__law_pull (PySem.W.mg_of X G a28) l28 c28 k28⟩
    · exact ⟨g__law_orders, false, rfl, rfl, d__law_orders (PySem.W.mg_of X G a29) l29 c29 k29⟩
    · exact ⟨g__law_roll, false, rfl, rfl, d__law_roll (PySem.W.mg_of X G a30) l30 c30 k30⟩
    · exact ⟨g__law_crowd, false, rfl, rfl, d__law_crowd (PySem.W.mg_of X G a31) l31 c31 k31⟩
    · exact ⟨g__law_beats, false, rfl, rfl, d__law_beats (PySem.W.mg_of X G a32) l32 c32 k32⟩
    · exact ⟨g__law_poll, false, rfl, rfl, d__law_poll (PySem.W.mg_of X G a33) l33 c33 k33⟩
    · exact ⟨g__law_crowds, false, rfl, rfl, d__law_crowds (PySem.W.mg_of X G a34) l34 c34 k34⟩
    · exact ⟨g__law_word, false, rfl, rfl, d__law_word (PySem.W.mg_of X G a35) l35 c35 k35⟩
    · exact ⟨g__law_right, false, rfl, rfl, d__law_right (PySem.W.mg_of X G a36) l36 c36 k36⟩
    · exact ⟨g_law, false, rfl, rfl, d_law (PySem.W.mg_of X G a37) l37 c37 k37⟩
  · simp only [bnames, List.mem_cons, List.not_mem_nil, or_false] at hx
    rcases hx with rfl | rfl | rfl | rfl | rfl | rfl | rfl | rfl | rfl | rfl | rfl | rfl | rfl | rfl | rfl | rfl | rfl | rfl | rfl | rfl
    · exact PySem.W.mg_none_of X G z0
    · exact PySem.W.mg_none_of X G z1
    · exact PySem.W.mg_none_of X G z2
    · exact PySem.W.mg_none_of X G z3
    · exact PySem.W.mg_none_of X G z4
    · exact PySem.W.mg_none_of X G z5
    · exact PySem.W.mg_none_of X G z6
    · exact PySem.W.mg_none_of X G z7
    · exact PySem.W.mg_none_of X G z8
    · exact PySem.W.mg_none_of X G z9
    · exact PySem.W.mg_none_of X G z10
    · exact PySem.W.mg_none_of X G z11
    · exact PySem.W.mg_none_of X G z12
    · exact PySem.W.mg_none_of X G z13
    · exact PySem.W.mg_none_of X G z14
    · exact PySem.W.mg_none_of X G z15
    · exact PySem.W.mg_none_of X G z16
    · exact PySem.W.mg_none_of X G z17
    · exact PySem.W.mg_none_of X G z18
    · exact PySem.W.mg_none_of X G z19
  · have hx : gcs.lookup x = some d := hx
    obtain hm := PySem.mem_of_lookup hx
    simp only [gcs, List.mem_cons, Prod.mk.injEq, List.not_mem_nil, or_false] at hm
    rcases hm with ⟨rfl, rfl⟩ | ⟨rfl, rfl⟩ | ⟨rfl, rfl⟩ | ⟨rfl, rfl⟩ | ⟨rfl, rfl⟩ | ⟨rfl, rfl⟩ | ⟨rfl, rfl⟩ | ⟨rfl, rfl⟩ | ⟨rfl, rfl⟩ | ⟨rfl, rfl⟩ | ⟨rfl, rfl⟩
    · exact ⟨.int 3, _, PySem.W.mg_of X G gcn0, ⟨_, rfl⟩, fun _ _ => rl_int⟩
    · exact ⟨.int 5, _, PySem.W.mg_of X G gcn1, ⟨_, rfl⟩, fun _ _ => rl_int⟩
    · exact ⟨.int 24, _, PySem.W.mg_of X G gcn2, ⟨_, rfl⟩, fun _ _ => rl_int⟩
    · exact ⟨.int 99, _, PySem.W.mg_of X G gcn3, ⟨_, rfl⟩, fun _ _ => rl_int⟩
    · exact ⟨.int 5, _, PySem.W.mg_of X G gcn4, ⟨_, rfl⟩, fun _ _ => rl_int⟩
    · exact ⟨.int 5, _, PySem.W.mg_of X G gcn5, ⟨_, rfl⟩, fun _ _ => rl_int⟩
    · exact ⟨.int 25, _, PySem.W.mg_of X G gcn6, ⟨_, rfl⟩, fun _ _ => rl_int⟩
    · exact ⟨.str "surely", _, PySem.W.mg_of X G gcn7, ⟨_, rfl⟩, fun _ _ => rl_str⟩
    · exact ⟨.str "maybe", _, PySem.W.mg_of X G gcn8, ⟨_, rfl⟩, fun _ _ => rl_str⟩
    · exact ⟨.str "never", _, PySem.W.mg_of X G gcn9, ⟨_, rfl⟩, fun _ _ => rl_str⟩
    · exact ⟨.str "none", _, PySem.W.mg_of X G gcn10, ⟨_, rfl⟩, fun _ _ => rl_str⟩
  · cases hp
end Law
set_option maxRecDepth 100000
namespace Law
open PySem L2 Cr
variable {st : Store} {n : Nat} {P : D → Store → Prop}
theorem gc_F : gc "FEWEST_THINGS" = some (.int 3) := rfl
theorem gc_M : gc "MOST_THINGS" = some (.int 5) := rfl
theorem gc_O : gc "MOST_ORDERS_rolls" = some (.int 24) := rfl
theorem sp_whole {i : Int} : Ok (callN T gc 100 (n + 1) "is_whole" [.int i] [] st) P ↔ P (.bl true) st := by
  rw [Ok_call (F := g_is_whole) rfl rfl]
  simp [g_is_whole, isTy, ktOf, isaK]
theorem sp_between {i lo hi : Int} : Ok (callN T gc 100 (n + 2) "is_between" [.int i, .int lo, .int hi] [] st) P ↔ P (.bl (decide (lo ≤ i ∧ i ≤ hi))) st := by
  rw [Ok_call (F := g_is_between) rfl rfl]
  simp [g_is_between, sp_whole]
  by_cases h : lo ≤ i <;> simp [h]
theorem sp_tuple_of {xs : List D} {m : Int} : Ok (callN T gc 100 (n + 1) "is_tuple_of" [.tup xs, .int m] [] st) P ↔ P (.bl (decide ((xs.length : Int) = m))) st := by
  rw [Ok_call (F := g_is_tuple_of) rfl rfl]
  simp [g_is_tuple_of, isTy, ktOf, isaK]
theorem sp_things {i : Int} : Ok (callN T gc 100 (n + 3) "is_things" [.int i] [] st) P ↔ P (.bl (decide (3 ≤ i ∧ i ≤ 5))) st := by
  rw [Ok_call (F := g_is_things) rfl rfl]
  simp [g_is_things, gc_F, gc_M, sp_between]
theorem sp_check_things {i : Int} (h : 3 ≤ i) (h2 : i ≤ 5) : Ok (callN T gc 100 (n + 4) "check_things" [.int i] [] st) P ↔ P .non st := by
  rw [Ok_call (F := g_check_things) rfl rfl]
  simp [g_check_things, sp_things, h, h2]
theorem sp_thing {m i : Int} : Ok (callN T gc 100 (n + 3) "is_thing" [.int m, .int i] [] st) P ↔ P (.bl (decide (0 ≤ i ∧ i ≤ m - 1))) st := by
  rw [Ok_call (F := g_is_thing) rfl rfl]
  simp [g_is_thing, sp_between]
theorem lenNub_nodup : ∀ {ns : List Int}, ns.Nodup → lenNub ns = ns.length
  | [], _ => rfl
  | x :: r, h => by
    have h := List.nodup_cons.mp h
    show (if r.contains x then _ else _) = _
    rw [if_neg (by simpa using h.1), lenNub_nodup h.2]; rfl
/-- an order of m things -/
def Ord (m : Nat) (ns : List Int) : Prop := ns.length = m ∧ ns.Nodup ∧ (∀ i ∈ ns, 0 ≤ i ∧ i < m) ∧ ∀ i : Int, 0 ≤ i → i < m → i ∈ ns
theorem sp_is_order {m : Nat} {ns : List Int} (h : Ord m ns) (hm : m < 1000) (hP : ∀ s, Gr [] st s → P (.bl true) s) : Ok (callN T gc 100 (n + 4) "is_order" [.int m, tI ns] [] st) P := by
  rw [Ok_call (F := g_is_order) rfl rfl]
  simp [g_is_order, sp_tuple_of, tI, ilist_len, h.1]
  refine Ok_compGM (as := ns) (g := .int) (HdIs.its [] (ilist ns) st) (by rw [h.1]; omega) (fun _ => .bl true) (fun i hi s g => ?_) fun s g => ?_
  · have := h.2.2.1 i hi
    simp [sp_thing, Cr.wipe]
    refine ⟨by omega, Gr.refl _ _⟩
  · rw [all_ilist, f_all]
    simp [f_lenSet (show ns.length < 1000 by rw [h.1]; exact hm), lenNub_nodup h.2.1, h.1]
    exact hP s g
theorem rngL_eq (m : Nat) : rngL 0 m = ilist ((List.range m).map fun (k : Nat) => (k : Int)) := by
  unfold rngL ilist
  rw [List.map_map, show ((m : Int) - 0).toNat = m by omega]
  apply List.map_congr_left
  intro k _
  show D.int (0 + (k : Int)) = D.int k
  rw [Int.zero_add]
/-- all orders of m things, as permutations gives them -/
def allO (m : Nat) : List (List Int) := perms m ((List.range m).map fun (k : Nat) => (k : Int))
theorem picks_map {α β : Type} (f : α → β) : ∀ xs : List α, picks (xs.map f) = (picks xs).map fun p => (f p.1, p.2.map f)
  | [] => rfl
  | x :: r => by
    show (f x, r.map f) :: (picks (r.map f)).map _ = _
    rw [picks_map f r]
    simp [picks, List.map_map, Function.comp_def]
theorem perms_map {α β : Type} (f : α → β) : ∀ (k : Nat) (xs : List α), perms k (xs.map f) = (perms k xs).map (·.map f)
  | 0, _ => rfl
  | k + 1, xs => by
    show (picks (xs.map f)).flatMap _ = _
    rw [picks_map]
    simp only [perms, List.flatMap_map, List.map_flatMap, perms_map f k, List.map_map, Function.comp_def, List.map_cons]
def extO (m : Nat) (o : List Int) : List (List Int) := (((List.range m).map fun (k : Nat) => (k : Int)).filter fun t => !decide (t ∈ o)).map fun t => o ++ [t]
def growO (m : Nat) : Nat → List (List Int)
  | 0 => [[]]
  | k + 1 => (growO m k).flatMap (extO m)
theorem growO_ok : ∀ (m k : Nat), ∀ o ∈ growO m k, o.length = k ∧ ∀ t ∈ o, 0 ≤ t ∧ t < m
  | m, 0, o, h => by
    have := List.mem_singleton.mp h
    subst this
    exact ⟨rfl, fun t ht => absurd ht List.not_mem_nil⟩
  | m, k + 1, o, h => by
    obtain ⟨p, hp, ho⟩ := List.mem_flatMap.mp h
    obtain ⟨t, ht, rfl⟩ := List.mem_map.mp ho
    obtain ⟨e1, e2⟩ := growO_ok m k p hp
    refine ⟨by simp [e1], fun u hu => ?_⟩
    rcases List.mem_append.mp hu with hu | hu
    · exact e2 u hu
    · rw [List.mem_singleton.mp hu]
      exact ints01 m t (List.mem_filter.mp ht).1
theorem extO_len (m : Nat) (o : List Int) : (extO m o).length ≤ m := by
  unfold extO
  rw [List.length_map]
  exact Nat.le_trans (List.length_filter_le _ _) (by simp)
theorem flat_len {m : Nat} : ∀ xs : List (List Int), (xs.flatMap (extO m)).length ≤ xs.length * m
  | [] => Nat.zero_le _
  | x :: xs => by
    rw [List.flatMap_cons, List.length_append, List.length_cons, Nat.succ_mul]
    have := flat_len (m := m) xs
    have := extO_len m x
    omega
theorem findIdx_at (t : Int) : ∀ ns : List Int, t ∈ ns → ns.findIdx? (· == t) = some (at_ t ns)
  | [], h => absurd h List.not_mem_nil
  | u :: r, h => by
    rw [List.findIdx?_cons]
    unfold at_
    by_cases e : t = u
    · subst e; simp
    · have e' : ¬ u = t := fun q => e q.symm
      have hr : t ∈ r := by
        rcases List.mem_cons.mp h with h | h
        · exact absurd h e
        · exact h
      simp [e, e', findIdx_at t r hr]
theorem find_at {st : Store} {m : Nat} {ns : List Int} {t : Int} (hm : m ≤ 5) (h : Ord m ns) (ht : t ∈ ns) : findIx st (.int t) (tI ns) = some (at_ t ns) := by
  have b : ∀ u ∈ ns, 0 ≤ u ∧ u < 10 ^ 1 := fun u hu => by have := h.2.2.1 u hu; omega
  rw [tI, ilist, findIx_tup (Nc.int (b t ht).1 (by decide) (by decide) (b t ht).2) (NcL.map (g := PyData.int) fun u hu => Nc.int (b u hu).1 (by decide) (by decide) (b u hu).2) (by decide) (by decide), find_ints, findIdx_at t ns ht]
def ordB (m : Nat) (ns : List Int) : Bool := decide (ns.length = m) && decide ns.Nodup && (ns.all fun i => decide (0 ≤ i) && decide (i < m)) && ((List.range m).all fun k => decide ((k : Int) ∈ ns))
theorem ordB_ok {m : Nat} {ns : List Int} (h : ordB m ns = true) : Ord m ns := by
  simp only [ordB, Bool.and_eq_true, decide_eq_true_eq, List.all_eq_true] at h
  obtain ⟨⟨⟨h1, h2⟩, h3⟩, h4⟩ := h
  refine ⟨h1, h2, fun i hi => h3 i hi, fun i h0 hm => ?_⟩
  have := h4 i.toNat (List.mem_range.mpr (by omega))
  rwa [Int.toNat_of_nonneg h0] at this
theorem ord_grow {m : Nat} : ∀ (k : Nat) (ns : List Int), ns.length = k → ns.Nodup → (∀ i ∈ ns, 0 ≤ i ∧ i < m) → ns ∈ growO m k
  | 0, ns, h, _, _ => by
    have := List.length_eq_zero_iff.mp h
    subst this; exact List.mem_singleton.mpr rfl
  | k + 1, ns, h, nd, hb => by
    rcases List.eq_nil_or_concat ns with rfl | ⟨p, t, rfl⟩
    · cases h
    · rw [List.concat_eq_append] at *
      have hl : p.length = k := by simpa using h
      obtain ⟨n1, n2, n3⟩ := List.nodup_append.mp nd
      refine List.mem_flatMap.mpr ⟨p, ord_grow k p hl n1 (fun i hi => hb i (List.mem_append_left _ hi)), ?_⟩
      have ht := hb t (List.mem_append_right _ (List.mem_singleton.mpr rfl))
      refine List.mem_map.mpr ⟨t, List.mem_filter.mpr ⟨List.mem_map.mpr ⟨t.toNat, List.mem_range.mpr (by omega), by omega⟩, ?_⟩, rfl⟩
      have : t ∉ p := fun q => n3 t q t (List.mem_singleton.mpr rfl) rfl
      simpa using this
/-- the law's own list for each line -/
def R (m : Nat) : List Int := (List.range m).map fun (k : Nat) => (k : Int)
/-- renaming a thing, an order -/
def app (ns : List Int) (t : Int) : Int := ns.getD t.toNat 0
def ro (o ns : List Int) : List Int := o.map (app ns)
def ren (r : List (List Int)) (ns : List Int) : List (List Int) := sortT (r.map fun o => ro o ns)
/-- a roll of m things -/
structure Roll (m : Nat) (r : List (List Int)) : Prop where
  ord : ∀ o ∈ r, Ord m o
  asc : r.Pairwise fun a b => Cr.lexLt a b = true
  pos : 1 ≤ r.length
  few : r.length ≤ 24
theorem Ord.bd {m : Nat} {o : List Int} (h : Ord m o) (hm : m ≤ 100) : TS.Bd 1000000 o := fun i hi => by have := h.2.2.1 i hi; omega
theorem app_at {ns : List Int} {i : Nat} (h : i < ns.length) : app ns (i : Int) = ns[i] := by
  unfold app
  simp [List.getD_eq_getElem?_getD, h]
theorem app_mem {m : Nat} {ns : List Int} (h : Ord m ns) {t : Int} (h0 : 0 ≤ t) (h1 : t < m) : app ns t ∈ ns := by
  obtain ⟨k, rfl⟩ : ∃ k : Nat, t = (k : Int) := ⟨t.toNat, by omega⟩
  rw [app_at (by rw [h.1]; omega)]
  exact List.getElem_mem _
theorem app_inj {m : Nat} {ns : List Int} (h : Ord m ns) {t u : Int} (t0 : 0 ≤ t) (t1 : t < m) (u0 : 0 ≤ u) (u1 : u < m) (e : app ns t = app ns u) : t = u := by
  obtain ⟨k, rfl⟩ : ∃ k : Nat, t = (k : Int) := ⟨t.toNat, by omega⟩
  obtain ⟨l, rfl⟩ : ∃ k : Nat, u = (k : Int) := ⟨u.toNat, by omega⟩
  rw [app_at (by rw [h.1]; omega), app_at (by rw [h.1]; omega)] at e
  have := (List.getElem_inj h.2.1).mp e
  omega
theorem nodup_len : ∀ {l D : List Int}, l.Nodup → (∀ x ∈ l, x ∈ D) → l.length ≤ D.length
  | [], _, _, _ => Nat.zero_le _
  | a :: l, D, nd, s => by
    obtain ⟨p, q⟩ := List.nodup_cons.mp nd
    have ha := s a List.mem_cons_self
    have hl := nodup_len (D := D.erase a) q fun y hy => (List.mem_erase_of_ne (fun e : y = a => p (by rw [← e]; exact hy))).mpr (s y (List.mem_cons_of_mem _ hy))
    rw [List.length_erase_of_mem ha] at hl
    have := List.length_pos_of_mem ha
    rw [List.length_cons]
    omega
theorem ord_of {m : Nat} {ns : List Int} (h1 : ns.length = m) (h2 : ns.Nodup) (h3 : ∀ i ∈ ns, 0 ≤ i ∧ i < m) : Ord m ns := by
  refine ⟨h1, h2, h3, fun i h0 hm => ?_⟩
  have sub : ns ⊆ R m := fun x hx => by
    have := h3 x hx
    exact List.mem_map.mpr ⟨x.toNat, List.mem_range.mpr (by omega), by omega⟩
  have hin : i ∈ R m := List.mem_map.mpr ⟨i.toNat, List.mem_range.mpr (by omega), by omega⟩
  by_cases z : i ∈ ns
  · exact z
  · exfalso
    have hl := nodup_len h2 (D := (R m).erase i) fun x hx => (List.mem_erase_of_ne (fun e : x = i => z (by rw [← e]; exact hx))).mpr (sub hx)
    rw [List.length_erase_of_mem hin, h1] at hl
    have : (R m).length = m := by unfold R; simp
    have hpos : 0 < (R m).length := List.length_pos_of_mem hin
    omega
theorem nodup_map {α β : Type} {f : α → β} : ∀ {l : List α}, l.Nodup → (∀ a ∈ l, ∀ b ∈ l, f a = f b → a = b) → (l.map f).Nodup
  | [], _, _ => .nil
  | x :: l, h, k => by
    obtain ⟨h1, h2⟩ := List.nodup_cons.mp h
    rw [List.map_cons]
    refine List.nodup_cons.mpr ⟨fun z => ?_, nodup_map h2 fun a ha b hb => k a (List.mem_cons_of_mem _ ha) b (List.mem_cons_of_mem _ hb)⟩
    obtain ⟨y, hy, e⟩ := List.mem_map.mp z
    have := k y (List.mem_cons_of_mem _ hy) x List.mem_cons_self e
    subst this
    exact h1 hy
theorem ord_ro {m : Nat} {o ns : List Int} (ho : Ord m o) (hn : Ord m ns) : Ord m (ro o ns) := by
  refine ord_of (by unfold ro; rw [List.length_map]; exact ho.1) ?_ fun i hi => ?_
  · refine nodup_map ho.2.1 fun a ha b hb e => ?_
    have a1 := ho.2.2.1 a ha
    have b1 := ho.2.2.1 b hb
    exact app_inj hn a1.1 a1.2 b1.1 b1.2 e
  · obtain ⟨t, ht, rfl⟩ := List.mem_map.mp hi
    have := ho.2.2.1 t ht
    exact hn.2.2.1 _ (app_mem hn this.1 this.2)
theorem ro_inj {m : Nat} {a b ns : List Int} (ha : Ord m a) (hb : Ord m b) (hn : Ord m ns) (e : ro a ns = ro b ns) : a = b := by
  apply List.ext_getElem (by rw [ha.1, hb.1])
  intro i h1 h2
  have e2 : (ro a ns)[i]? = (ro b ns)[i]? := by rw [e]
  unfold ro at e2
  rw [List.getElem?_map, List.getElem?_map, List.getElem?_eq_getElem h1, List.getElem?_eq_getElem h2] at e2
  have e3 : app ns a[i] = app ns b[i] := Option.some.inj e2
  have a1 := ha.2.2.1 _ (List.getElem_mem h1)
  have b1 := hb.2.2.1 _ (List.getElem_mem h2)
  exact app_inj hn a1.1 a1.2 b1.1 b1.2 e3
theorem ro_ro {m : Nat} {o a b : List Int} (ho : Ord m o) (ha : Ord m a) : ro (ro o a) b = ro o (ro a b) := by
  unfold ro
  rw [List.map_map]
  refine List.map_congr_left fun t ht => ?_
  have h := ho.2.2.1 t ht
  obtain ⟨k, rfl⟩ : ∃ k : Nat, t = (k : Int) := ⟨t.toNat, by omega⟩
  have hk : k < a.length := by rw [ha.1]; omega
  show app b (app a k) = app (a.map (app b)) k
  rw [app_at hk, app_at (by rw [List.length_map]; exact hk), List.getElem_map]
theorem R_ord (m : Nat) : Ord m (R m) := by
  refine ord_of (by unfold R; simp) ?_ fun i hi => ints01 m i hi
  unfold R
  rw [List.nodup_iff_pairwise_ne, List.pairwise_map]
  exact List.nodup_range.imp fun h e => h (by exact_mod_cast e)
theorem ro_R {m : Nat} {o : List Int} (ho : Ord m o) : ro o (R m) = o := by
  unfold ro
  conv => rhs; rw [← List.map_id o]
  refine List.map_congr_left fun t ht => ?_
  have h := ho.2.2.1 t ht
  obtain ⟨k, rfl⟩ : ∃ k : Nat, t = (k : Int) := ⟨t.toNat, by omega⟩
  show app (R m) k = k
  rw [app_at (by unfold R; simp; omega)]
  unfold R
  simp
/-- the way back -/
def inv (m : Nat) (a : List Int) : List Int := (R m).map fun t => ((at_ t a : Nat) : Int)
theorem at_lt (t : Int) : ∀ {ns : List Int}, t ∈ ns → at_ t ns < ns.length ∧ ns[at_ t ns]? = some t
  | [], h => absurd h List.not_mem_nil
  | u :: r, h => by
    unfold at_
    by_cases e : t = u
    · subst e; simp
    · have hr : t ∈ r := by
        rcases List.mem_cons.mp h with h | h
        · exact absurd h e
        · exact h
      have := at_lt t hr
      simp [e]
      omega
theorem at_get : ∀ {ns : List Int}, ns.Nodup → ∀ (i : Nat) (h : i < ns.length), at_ ns[i] ns = i
  | u :: r, nd, 0, h => by unfold at_; simp
  | u :: r, nd, i + 1, h => by
    obtain ⟨h1, h2⟩ := List.nodup_cons.mp nd
    have hi : i < r.length := by simpa using h
    have ne : ¬ r[i] = u := fun z => h1 (by rw [← z]; exact List.getElem_mem hi)
    unfold at_
    simp [ne, at_get h2 i hi]
theorem inv_ord {m : Nat} {a : List Int} (ha : Ord m a) : Ord m (inv m a) := by
  have hin : ∀ t ∈ R m, t ∈ a := fun t ht => by
    have := ints01 m t ht
    exact ha.2.2.2 t this.1 this.2
  refine ord_of (by unfold inv R; simp) ?_ fun i hi => ?_
  · refine nodup_map (R_ord m).2.1 fun t ht u hu e => ?_
    have e' : at_ t a = at_ u a := by exact_mod_cast e
    have h1 := (at_lt t (hin t ht)).2
    have h2 := (at_lt u (hin u hu)).2
    rw [e', h2] at h1
    exact (Option.some.inj h1).symm
  · obtain ⟨t, ht, rfl⟩ := List.mem_map.mp hi
    have := (at_lt t (hin t ht)).1
    rw [ha.1] at this
    omega
theorem ro_inv {m : Nat} {a : List Int} (ha : Ord m a) : ro a (inv m a) = R m := by
  apply List.ext_getElem (by unfold ro; rw [List.length_map, ha.1]; unfold R; simp)
  intro i h1 h2
  have hi : i < a.length := by unfold ro at h1; rw [List.length_map] at h1; exact h1
  have hai := ha.2.2.1 _ (List.getElem_mem hi)
  have hia : a[i].toNat < (inv m a).length := by unfold inv R; simp; omega
  have e1 : (ro a (inv m a))[i]? = some (app (inv m a) a[i]) := by
    unfold ro
    rw [List.getElem?_map, List.getElem?_eq_getElem hi]; rfl
  have e2 : (((a[i].toNat : Nat)) : Int) = a[i] := Int.toNat_of_nonneg hai.1
  have e4 : ∀ k : Nat, k < m → app (inv m a) (k : Int) = ((at_ (k : Int) a : Nat) : Int) := fun k hk => by
    rw [app_at (by unfold inv R; simp; omega)]
    unfold inv R
    simp
  have e3 := e4 a[i].toNat (by omega)
  rw [e2, at_get ha.2.1 i hi] at e3
  rw [e3] at e1
  have e5 : (R m)[i]? = some (i : Int) := by
    unfold R
    rw [List.getElem?_map, List.getElem?_range (by rw [← ha.1]; exact hi)]; rfl
  rw [List.getElem?_eq_getElem h1] at e1
  rw [List.getElem?_eq_getElem h2] at e5
  rw [Option.some.inj e1, Option.some.inj e5]
theorem sortT_congr {B : Int} {d : Nat} {a b : List (List Int)} (p : a.Perm b) (hb : ∀ t ∈ b, t.length = d ∧ TS.Bd B t) : sortT a = sortT b :=
  sortT_unique hb ((sortT_perm a).trans p) (sortT_sorted a fun t ht => hb t (p.mem_iff.mp ht))
theorem Roll.bd {m : Nat} {r : List (List Int)} (hm : m ≤ 100) (h : Roll m r) : ∀ t ∈ r, t.length = m ∧ TS.Bd 1000000 t := fun t ht => ⟨(h.ord t ht).1, (h.ord t ht).bd hm⟩
theorem ro_bd {m : Nat} {r : List (List Int)} {ns : List Int} (hm : m ≤ 100) (h : Roll m r) (hn : Ord m ns) : ∀ t ∈ r.map (fun o => ro o ns), t.length = m ∧ TS.Bd 1000000 t := fun t ht => by
  obtain ⟨o, ho, rfl⟩ := List.mem_map.mp ht
  have := ord_ro (h.ord o ho) hn
  exact ⟨this.1, this.bd hm⟩
theorem ren_mem {r : List (List Int)} {ns o : List Int} : o ∈ ren r ns ↔ ∃ p ∈ r, ro p ns = o := by
  unfold ren
  rw [(sortT_perm _).mem_iff, List.mem_map]
theorem ren_len (r : List (List Int)) (ns : List Int) : (ren r ns).length = r.length := by
  unfold ren
  rw [(sortT_perm _).length_eq, List.length_map]
theorem asc_nodup {r : List (List Int)} (h : r.Pairwise fun a b => Cr.lexLt a b = true) : r.Nodup := by
  rw [List.nodup_iff_pairwise_ne]
  refine h.imp fun {a b} q e => ?_
  subst e
  have : ∀ l : List Int, Cr.lexLt l l = false := fun l => by
    induction l with
    | nil => rfl
    | cons x l ih => show (if x = x then Cr.lexLt l l else _) = false; rw [if_pos rfl, ih]
  rw [this] at q
  cases q
theorem asc_of {m : Nat} {r : List (List Int)} (hb : ∀ t ∈ r, t.length = m ∧ TS.Bd 1000000 t) (nd : r.Nodup) : ∀ {l : List (List Int)}, (∀ t ∈ l, t ∈ r) → l.Nodup → l.Pairwise (fun a b => TS.code 1000000 a ≤ TS.code 1000000 b) → l.Pairwise fun a b => Cr.lexLt a b = true
  | [], _, _, _ => .nil
  | x :: l, hs, hn, hp => by
    obtain ⟨n1, n2⟩ := List.nodup_cons.mp hn
    obtain ⟨p1, p2⟩ := List.pairwise_cons.mp hp
    refine List.pairwise_cons.mpr ⟨fun y hy => ?_, asc_of hb nd (fun t ht => hs t (List.mem_cons_of_mem _ ht)) n2 p2⟩
    have bx := hb x (hs x List.mem_cons_self)
    have by' := hb y (hs y (List.mem_cons_of_mem _ hy))
    rw [lexLt_code x y (by rw [bx.1, by'.1]) bx.2 by'.2]
    have := p1 y hy
    rcases Int.lt_or_eq_of_le this with z | z
    · exact z
    · have e := code_inj x y (by rw [bx.1, by'.1]) bx.2 by'.2 z
      subst e
      exact absurd hy n1
theorem sort_roll {m : Nat} {ts : List (List Int)} (hm : m ≤ 100) (ho : ∀ o ∈ ts, Ord m o) (nd : ts.Nodup) (h1 : 1 ≤ ts.length) (h2 : ts.length ≤ 24) : Roll m (sortT ts) := by
  have hb : ∀ t ∈ ts, t.length = m ∧ TS.Bd 1000000 t := fun t ht => ⟨(ho t ht).1, (ho t ht).bd hm⟩
  have hp := sortT_perm ts
  refine ⟨fun o h => ho o (hp.mem_iff.mp h), asc_of hb nd (fun t ht => hp.mem_iff.mp ht) (hp.nodup_iff.mpr nd) (sortT_sorted ts hb), by rw [hp.length_eq]; exact h1, by rw [hp.length_eq]; exact h2⟩
theorem ren_roll {m : Nat} {r : List (List Int)} {ns : List Int} (hm : m ≤ 100) (h : Roll m r) (hn : Ord m ns) : Roll m (ren r ns) := by
  refine sort_roll hm (fun o ho => ?_) ?_ (by rw [List.length_map]; exact h.pos) (by rw [List.length_map]; exact h.few)
  · obtain ⟨p, hp, rfl⟩ := List.mem_map.mp ho
    exact ord_ro (h.ord p hp) hn
  · exact nodup_map (asc_nodup h.asc) fun a ha b hb e => ro_inj (h.ord a ha) (h.ord b hb) hn e
theorem asc_sorted {m : Nat} {r : List (List Int)} (hm : m ≤ 100) (h : Roll m r) : sortT r = r := by
  refine (sortT_unique (h.bd hm) (.refl _) (h.asc.imp_of_mem fun {a b} ha hb q => ?_)).symm
  have b1 := h.bd hm a ha
  have b2 := h.bd hm b hb
  have := (lexLt_code a b (by rw [b1.1, b2.1]) b1.2 b2.2).mp q
  omega
theorem ren_ren {m : Nat} {r : List (List Int)} {a b : List Int} (hm : m ≤ 100) (h : Roll m r) (ha : Ord m a) (hb : Ord m b) : ren (ren r a) b = ren r (ro a b) := by
  have e : r.map (fun o => ro o (ro a b)) = (r.map fun o => ro o a).map fun o => ro o b := by
    rw [List.map_map]
    exact List.map_congr_left fun o ho => (ro_ro (h.ord o ho) ha).symm
  unfold ren
  rw [e]
  refine sortT_congr (B := 1000000) (d := m) ((sortT_perm _).map _) fun t ht => ?_
  obtain ⟨o, ho, rfl⟩ := List.mem_map.mp ht
  obtain ⟨p, hp, rfl⟩ := List.mem_map.mp ho
  have := ord_ro (ord_ro (h.ord p hp) ha) hb
  exact ⟨this.1, this.bd hm⟩
theorem ren_id {m : Nat} {r : List (List Int)} (hm : m ≤ 100) (h : Roll m r) : ren r (R m) = r := by
  have e : (r.map fun o => ro o (R m)) = r := by
    conv => rhs; rw [← List.map_id r]
    exact List.map_congr_left fun o ho => ro_R (h.ord o ho)
  unfold ren
  rw [e]
  exact asc_sorted hm h
theorem ren_back {m : Nat} {r : List (List Int)} {a : List Int} (hm : m ≤ 100) (h : Roll m r) (ha : Ord m a) : ren (ren r a) (inv m a) = r := by
  rw [ren_ren hm h ha (inv_ord ha), ro_inv ha, ren_id hm h]
def rD (r : List (List Int)) : D := .tup (tlist r)
def rP (r : List (List Int)) : PyData := .tuple (r.map pI)
def minR (x : List (List Int)) (t : List (List (List Int))) : List (List Int) := t.foldl (fun a y => if PySem.W.dataLt (rP y) (rP a) then y else a) x
theorem toks_ints : ∀ (ns ms : List Int) (x y : List (Int ⊕ List Nat)), PySem.W.keyToksAll (ns.map PyData.int) ++ x = PySem.W.keyToksAll (ms.map PyData.int) ++ y → ns = ms ∧ x = y
  | [], [], x, y, h => by simpa [PySem.W.keyToksAll] using h
  | [], m :: ms, x, y, h => by simp [PySem.W.keyToksAll] at h
  | n :: ns, [], x, y, h => by simp [PySem.W.keyToksAll] at h
  | n :: ns, m :: ms, x, y, h => by
    simp [PySem.W.keyToksAll, PySem.W.keyToks] at h
    obtain ⟨e1, e2⟩ := toks_ints ns ms x y h.2
    exact ⟨by rw [h.1, e1], e2⟩
theorem toks_roll : ∀ (a b : List (List Int)) (x y : List (Int ⊕ List Nat)), PySem.W.keyToksAll (a.map pI) ++ x = PySem.W.keyToksAll (b.map pI) ++ y → a = b ∧ x = y
  | [], [], x, y, h => by simpa [PySem.W.keyToksAll] using h
  | [], m :: ms, x, y, h => by simp [PySem.W.keyToksAll] at h
  | n :: ns, [], x, y, h => by simp [PySem.W.keyToksAll] at h
  | n :: ns, m :: ms, x, y, h => by
    simp [PySem.W.keyToksAll, PySem.W.keyToks, pI] at h
    obtain ⟨e0, h⟩ := toks_ints n m _ _ h
    obtain ⟨e1, e2⟩ := toks_roll ns ms x y (by simpa [pI] using h)
    exact ⟨by rw [e0, e1], e2⟩
theorem rP_key {a b : List (List Int)} (h : PySem.W.keyToks (rP a) = PySem.W.keyToks (rP b)) : a = b := by
  have h : PySem.W.keyToksAll (a.map pI) = PySem.W.keyToksAll (b.map pI) := by simpa [rP, PySem.W.keyToks] using h
  exact (toks_roll a b [] [] (by rw [h])).1
theorem minR_mem : ∀ (x : List (List Int)) (t : List (List (List Int))), minR x t ∈ x :: t
  | x, [] => List.mem_cons_self
  | x, y :: t => by
    have := minR_mem (if PySem.W.dataLt (rP y) (rP x) then y else x) t
    have e : minR x (y :: t) = minR (if PySem.W.dataLt (rP y) (rP x) then y else x) t := rfl
    rw [e]
    rcases List.mem_cons.mp this with z | z
    · rw [z]
      split <;> simp
    · simp [z]
theorem minR_min : ∀ (t : List (List (List Int))) (x : List (List Int)) (done : List (List (List Int))), (∀ z ∈ done, PySem.W.dataLt (rP z) (rP x) = false) → ∀ z ∈ done ++ x :: t, PySem.W.dataLt (rP z) (rP (minR x t)) = false
  | [], x, done, h, z, hz => by
    rcases List.mem_append.mp hz with hz | hz
    · exact h z hz
    · have : z = x := by simpa using hz
      rw [this]
      exact PyProof.Rows.lex_irrefl _
  | y :: t, x, done, h, z, hz => by
    have e : minR x (y :: t) = minR (if PySem.W.dataLt (rP y) (rP x) then y else x) t := rfl
    rw [e]
    by_cases c : PySem.W.dataLt (rP y) (rP x) = true
    · rw [if_pos c]
      refine minR_min t y (done ++ [x]) (fun w hw => ?_) z (by simpa using hz)
      rcases List.mem_append.mp hw with hw | hw
      · cases q : PySem.W.dataLt (rP w) (rP y) with
        | false => rfl
        | true =>
          have := PyProof.Rows.lex_trans _ _ _ q c
          have h' := h w hw
          unfold PySem.W.dataLt at h'
          rw [this] at h'
          cases h'
      · have : w = x := by simpa using hw
        subst this
        cases q : PySem.W.dataLt (rP w) (rP y) with
        | false => rfl
        | true =>
          have := PyProof.Rows.lex_trans _ _ _ q c
          rw [PyProof.Rows.lex_irrefl] at this
          cases this
    · rw [if_neg c]
      have c' : PySem.W.dataLt (rP y) (rP x) = false := by simpa using c
      refine minR_min t x (done ++ [y]) (fun w hw => ?_) z (by
        rcases List.mem_append.mp hz with hz | hz
        · exact List.mem_append_left _ (List.mem_append_left _ hz)
        · rcases List.mem_cons.mp hz with hz | hz
          · exact List.mem_append_right _ (by rw [hz]; exact List.mem_cons_self)
          · rcases List.mem_cons.mp hz with hz | hz
            · exact List.mem_append_left _ (List.mem_append_right _ (by simp [hz]))
            · exact List.mem_append_right _ (List.mem_cons_of_mem _ hz))
      rcases List.mem_append.mp hw with hw | hw
      · exact h w hw
      · have : w = y := by simpa using hw
        rw [this]; exact c'
theorem minR_same {x y : List (List Int)} {t u : List (List (List Int))} (h : ∀ z, z ∈ x :: t ↔ z ∈ y :: u) : minR x t = minR y u := by
  have a := minR_min u y [] (fun z hz => absurd hz List.not_mem_nil) (minR x t) ((h _).mp (minR_mem x t))
  have b := minR_min t x [] (fun z hz => absurd hz List.not_mem_nil) (minR y u) ((h _).mpr (minR_mem y u))
  exact rP_key (PyProof.Rows.lex_total _ _ a b)
/-- the least renaming -/
def frmL (m : Nat) (r : List (List Int)) : List (List (List Int)) := (allO m).map (ren r)
def frm (m : Nat) (r : List (List Int)) : List (List Int) := match frmL m r with
  | x :: t => minR x t
  | [] => []
theorem nc_ord {m : Nat} {a : List Int} (hm : m ≤ 5) (h : Ord m a) (s : Store) : Nc s (tI a) (pI a) 18 2 :=
  (Nc.ints (m := 1) (by decide) (by decide) fun i hi => by have := h.2.2.1 i hi; omega).mono (by rw [h.1]; omega) (by decide)
theorem nc_roll {m : Nat} {r : List (List Int)} (hm : m ≤ 5) (h : Roll m r) (s : Store) : Nc s (rD r) (rP r) 500 3 :=
  (Nc.tup (NcL.map (f := tI) (g := pI) (B := 18) (k := 2) fun o ho => nc_ord hm (h.ord o ho) s)).mono (by have := h.few; omega) (by decide)
theorem eqvAll_pI : ∀ a b : List (List Int), PyData.eqvAll (a.map pI) (b.map pI) = decide (a = b)
  | [], [] => by simp [PyData.eqvAll]
  | [], _ :: _ => by simp [PyData.eqvAll]
  | _ :: _, [] => by simp [PyData.eqvAll]
  | x :: a, y :: b => by
    rw [List.map_cons, List.map_cons, PyData.eqvAll, eqvAll_pI a b, eqv_pI]
    by_cases h1 : x = y <;> by_cases h2 : a = b <;> simp [h1, h2]
theorem eqv_rP (a b : List (List Int)) : PyData.eqv (rP a) (rP b) = decide (a = b) := by
  unfold rP
  rw [PyData.eqv]
  exact eqvAll_pI a b
theorem eqB_roll {m : Nat} {a b : List (List Int)} (hm : m ≤ 5) (ha : Roll m a) (hb : Roll m b) : eqB st (rD a) (rD b) = some (decide (a = b)) := by
  rw [eqB_of (nc_roll hm ha st) (nc_roll hm hb st) (by decide) (by decide), eqv_rP]
theorem alike_ints : ∀ a b : List Int, PySem.W.alikeAll (a.map PyData.int) (b.map PyData.int) = true
  | [], _ => by simp [PySem.W.alikeAll]
  | _ :: _, [] => by simp [PySem.W.alikeAll]
  | x :: a, y :: b => by
    rw [List.map_cons, List.map_cons, PySem.W.alikeAll, alike_ints a b]
    rfl
theorem alike_ords : ∀ a b : List (List Int), PySem.W.alikeAll (a.map pI) (b.map pI) = true
  | [], _ => by simp [PySem.W.alikeAll]
  | _ :: _, [] => by simp [PySem.W.alikeAll]
  | x :: a, y :: b => by
    rw [List.map_cons, List.map_cons, PySem.W.alikeAll, alike_ords a b]
    show (PySem.W.alikeAll (x.map PyData.int) (y.map PyData.int) && true) = true
    rw [alike_ints]; rfl
theorem alike_rP (a b : List (List Int)) : PySem.W.alike (rP a) (rP b) = true := by
  show PySem.W.alikeAll (a.map pI) (b.map pI) = true
  exact alike_ords a b
theorem minBy_rD : ∀ (t : List (List (List Int))) (x : List (List Int)) (f : D → PyData), (∀ r ∈ x :: t, f (rD r) = rP r) → minBy f (rD x) (t.map rD) = rD (minR x t)
  | [], x, f, _ => rfl
  | y :: t, x, f, h => by
    have e1 : minBy f (rD x) ((y :: t).map rD) = minBy f (if PySem.W.dataLt (f (rD y)) (f (rD x)) then rD y else rD x) (t.map rD) := rfl
    have e2 : minR x (y :: t) = minR (if PySem.W.dataLt (rP y) (rP x) then y else x) t := rfl
    rw [e1, e2, h y (by simp), h x (by simp)]
    by_cases c : PySem.W.dataLt (rP y) (rP x) = true
    · rw [if_pos c, if_pos c]
      exact minBy_rD t y f fun r hr => h r (List.mem_cons_of_mem _ hr)
    · rw [if_neg c, if_neg c]
      refine minBy_rD t x f fun r hr => h r ?_
      rcases List.mem_cons.mp hr with e | hr
      · simp [e]
      · exact List.mem_cons_of_mem _ (List.mem_cons_of_mem _ hr)
theorem dataMin_rolls {m : Nat} {x : List (List Int)} {t : List (List (List Int))} (hm : m ≤ 5) (h : ∀ r ∈ x :: t, Roll m r) : dataMin ((x :: t).map rD) = some (rD (minR x t)) := by
  have nl : NcL [] ((x :: t).map rD) ((x :: t).map rP) ((x :: t).length * 502) 3 := NcL.map fun r hr => nc_roll hm (h r hr) []
  have e := nl.rd 30 (by decide)
  have ha : alikeB ((x :: t).map rP) = true := by
    unfold alikeB
    simp only [Bool.and_eq_true, List.all_eq_true]
    refine ⟨fun a ha b hb => ?_, fun a ha => ?_⟩
    · obtain ⟨r, _, rfl⟩ := List.mem_map.mp ha
      obtain ⟨q, _, rfl⟩ := List.mem_map.mp hb
      exact alike_rP r q
    · obtain ⟨r, _, rfl⟩ := List.mem_map.mp ha
      rfl
  unfold dataMin
  rw [e]
  show (if alikeB ((x :: t).map rP) && decide (PyData.depthAll ((x :: t).map rP) ≤ 30) then some (minBy (fun d => (pd [] 30 d).getD .none) (rD x) (t.map rD)) else none) = _
  rw [ha, decide_eq_true (Nat.le_trans nl.dp (by decide))]
  rw [minBy_rD t x _ fun r hr => by
    show (pd [] 30 (rD r)).getD .none = rP r
    rw [(nc_roll hm (h r hr) []).rd 30 (by decide)]; rfl]
  rfl
theorem intsOf_tups {xs : List D} (h : xs ≠ []) (k : ∀ x ∈ xs, ∃ ys, x = .tup ys) : intsOf xs = none := by
  cases xs with
  | nil => exact absurd rfl h
  | cons x r =>
    obtain ⟨ys, rfl⟩ := k x List.mem_cons_self
    rfl
theorem f_minR {m : Nat} {x : List (List Int)} {t : List (List (List Int))} (hm : m ≤ 5) (h : ∀ r ∈ x :: t, Roll m r) : Ok (fs .min ((x :: t).map rD) st) P ↔ P (rD (minR x t)) st := by
  show Ok (match intsOf ((x :: t).map rD) with | some (n :: ns) => .ok (D.int (minI n ns)) st | _ => match dataMin ((x :: t).map rD) with | some d => .ok d st | none => .err) _ ↔ _
  rw [intsOf_tups (by simp) fun d hd => by obtain ⟨r, _, rfl⟩ := List.mem_map.mp hd; exact ⟨_, rfl⟩, dataMin_rolls hm h]
  first | rfl | exact Ok.it
theorem tupsOf_tlist : ∀ ts : List (List Int), tupsOf (tlist ts) = some ts
  | [] => rfl
  | t :: ts => by
    have e : tupI? (.tup (ilist t)) = some t := intsOf_ilist t
    show (match tupI? (.tup (ilist t)), tupsOf (tlist ts) with | some n, some ns => some (n :: ns) | _, _ => none) = _
    rw [e, tupsOf_tlist ts]
theorem okTs_ord {m : Nat} {ts : List (List Int)} (h1 : 1 ≤ m) (h5 : m ≤ 100) (h : ∀ t ∈ ts, Ord m t) (hl : ts.length < 64) : okTs ts = true := by
  cases ts with
  | nil => rfl
  | cons t r =>
    have ht := h t List.mem_cons_self
    simp only [okTs, smallT, Bool.and_eq_true, decide_eq_true_eq, List.all_eq_true]
    refine ⟨⟨by rw [ht.1]; exact h1, fun u hu => ⟨by rw [(h u hu).1, ht.1], fun i hi => (h u hu).bd h5 i hi⟩⟩, hl⟩
theorem fl_sortedT {m : Nat} {ts : List (List Int)} (h1 : 1 ≤ m) (h5 : m ≤ 100) (h : ∀ t ∈ ts, Ord m t) (hl : ts.length < 64) (hne : ts ≠ []) : fl .sorted (tlist ts) = some (tlist (sortT ts)) := by
  show (match intsOf (tlist ts) with | some ns => some (ilist (sortI ns)) | none => match tupsOf (tlist ts) with | some ts => if okTs ts then some (tlist (sortT ts)) else none | none => none) = _
  rw [intsOf_tups (by unfold tlist; simpa using hne) (fun d hd => by obtain ⟨t, _, rfl⟩ := List.mem_map.mp hd; exact ⟨_, rfl⟩), tupsOf_tlist]
  show (if okTs ts then some (tlist (sortT ts)) else none) = _
  rw [if_pos (okTs_ord h1 h5 h hl)]
theorem ssetL_ok {m : Nat} {ts : List (List Int)} (h1 : 1 ≤ m) (h5 : m ≤ 100) (h : ∀ t ∈ ts, Ord m t) (hl : ts.length < 64) : ssetL (tlist ts) = some (tlist (sortT (nubT ts))) := by
  unfold ssetL
  rw [tupsOf_tlist]
  show (if okTs ts then some (tlist (sortT (nubT ts))) else none) = _
  rw [if_pos (okTs_ord h1 h5 h hl)]
theorem tlist_len (ts : List (List Int)) : (tlist ts).length = ts.length := by simp [tlist]
theorem sp_is_row {xs : List D} {lo hi : Int} : Ok (callN T gc 100 (n + 1) "is_row" [.tup xs, .int lo, .int hi] [] st) P ↔ P (.bl (decide (lo ≤ xs.length ∧ (xs.length : Int) ≤ hi))) st := by
  rw [Ok_call (F := g_is_row) rfl rfl]
  simp [g_is_row, isTy, ktOf, isaK]
  by_cases h : lo ≤ (xs.length : Int) <;> simp [h]
theorem tlist_split : ∀ {r : List (List Int)} {ahead rr : List D} {d : D}, tlist r = ahead ++ d :: rr → ∃ a o b, r = a ++ o :: b ∧ ahead = tlist a ∧ d = tI o := by
  intro r ahead rr d e
  obtain ⟨a, c, h1, h2, h3⟩ := List.map_eq_append_iff.mp e
  cases c with
  | nil => cases h3
  | cons o b =>
    have h3 : (D.tup (ilist o)) :: b.map (fun t => D.tup (ilist t)) = d :: rr := h3
    cases h3
    exact ⟨a, o, b, h1, h2.symm, rfl⟩
theorem f_neg {i : Int} : Ok (f1 .neg (.int i) st) P ↔ P (.int (-i)) st := Ok.it
theorem atL_last {α : Type} (a : List α) (p : α) : atL (a ++ [p]) (-1) = some p := by
  unfold atL Cr.ixN
  rw [if_neg (by decide), if_pos (by simp; omega)]
  have e : (-1 + ((a ++ [p]).length : Int)).toNat = a.length := by rw [List.length_append, List.length_singleton]; omega
  show (a ++ [p])[(-1 + ((a ++ [p]).length : Int)).toNat]? = some p
  rw [e]
  simp
theorem c_notN {d : D} {PB : Bool → Store → Prop} : Ok (cmp .notN d .non st) PB ↔ PB (!isNonB d) st := Ok.it
theorem c_isN {d : D} {PB : Bool → Store → Prop} : Ok (cmp .isN d .non st) PB ↔ PB (isNonB d) st := Ok.it
theorem c_ltT {a b : List Int} {PB : Bool → Store → Prop} : Ok (cmp .lt (tI a) (tI b) st) PB ↔ PB (Cr.lexLt a b) st := by
  show Ok (match ltB (tI a) (tI b) with | some c => .ok c st | none => .err) _ ↔ _
  have e : ltB (tI a) (tI b) = some (Cr.lexLt a b) := by
    show (match intsOf (ilist a), intsOf (ilist b) with | some ns, some ms => some (Cr.lexLt ns ms) | _, _ => none) = _
    rw [intsOf_ilist, intsOf_ilist]
  rw [e]
  first | rfl | exact Ok.it
theorem sp_wrong_order {m : Nat} {r : List (List Int)} (hm : m ≤ 5) (h : Roll m r) (hP : ∀ s, Gr [] st s → P .non s) : Ok (callN T gc 100 (n + 5) "wrong_order" [.int m, rD r] [] st) P := by
  rw [Ok_call (F := g_wrong_order) rfl rfl]
  simp [g_wrong_order, rD]
  refine Ok_fwL_all (fun ahead rr d s e g => ?_) hP
  simp
  obtain ⟨a, o, b, rfl, rfl, rfl⟩ := tlist_split e
  have ho := h.ord o (by simp)
  refine sp_is_order ho (by omega) fun s2 g2 => ?_
  simp
  rw [bx (by simp)]
  have ev : eqB s2 (.tup (tlist a)) (.tup []) = some (decide (a = [])) := by
    rw [show D.tup (tlist a) = D.tup (a.map tI) from rfl, eqB_of (Nc.tup (NcL.map (f := tI) (g := pI) (B := 18) (k := 2) fun p hp => nc_ord hm (h.ord p (by simp [hp])) s2)) (Nc.tup NcL.nil) (by decide) (by decide), PyData.eqv]
    rw [show ([] : List PyData) = ([] : List (List Int)).map pI from rfl, eqvAll_pI]
  rw [c_eq ev]
  by_cases ha : a = []
  · simp [ha, g2]
  · simp [ha]
    obtain ⟨a', p, rfl⟩ : ∃ a' p, a = a' ++ [p] := ⟨a.dropLast, a.getLast ha, (List.dropLast_concat_getLast ha).symm⟩
    rw [f_neg, x_tup (show atL (tlist (a' ++ [p])) (-1) = some (tI p) by unfold tlist; rw [List.map_append]; exact atL_last _ _), c_ltT]
    refine ⟨?_, g2⟩
    have hp := List.pairwise_append.mp h.asc
    exact hp.2.2 p (by simp) o (by simp)
theorem sp_check_orders {m : Nat} {r : List (List Int)} (hm : m ≤ 5) (h : Roll m r) (hP : ∀ s, Gr [] st s → P .non s) : Ok (callN T gc 100 (n + 6) "check_orders" [.int m, rD r] [] st) P := by
  have h1 := h.pos
  have h2 := h.few
  rw [Ok_call (F := g_check_orders) rfl rfl]
  simp [g_check_orders, gc_O]
  rw [rD, sp_is_row]
  simp [tlist_len, h1, h2]
  rw [if_neg (by omega)]
  simp
  refine sp_wrong_order hm h fun s g => ?_
  show Ok _ _
  rw [c_notN]
  simp [isNonB]
  exact hP s g
theorem sp_check_roll {m : Nat} {r : List (List Int)} (h3 : 3 ≤ m) (hm : m ≤ 5) (h : Roll m r) (hP : ∀ s, Gr [] st s → P .non s) : Ok (callN T gc 100 (n + 7) "check_roll" [.int m, rD r] [] st) P := by
  rw [Ok_call (F := g_check_roll) rfl rfl]
  simp [g_check_roll]
  rw [sp_check_things (by omega) (by omega)]
  refine sp_check_orders hm h fun s g => ?_
  exact hP s g
theorem allO_ord : ∀ m ∈ [3, 4, 5], (allO m).all (ordB m) = true := by decide +kernel
theorem allO_grow : ∀ m ∈ [3, 4, 5], allO m = growO m m := by decide +kernel
theorem allO_len {m : Nat} (hm : m ≤ 5) : (allO m).length ≤ 120 := by
  rcases m with _ | _ | _ | _ | _ | _ | m
  all_goals first | decide +kernel | omega
theorem all_ok {m : Nat} (hm : m ∈ [3, 4, 5]) : ∀ o ∈ allO m, Ord m o := fun o ho => ordB_ok (List.all_eq_true.mp (allO_ord m hm) o ho)
theorem all_in {m : Nat} (hm : m ∈ [3, 4, 5]) {o : List Int} (h : Ord m o) : o ∈ allO m := by rw [allO_grow m hm]; exact ord_grow m o h.1 h.2.1 h.2.2.1
theorem m5 {m : Nat} (hm : m ∈ [3, 4, 5]) : 3 ≤ m ∧ m ≤ 5 := by simp at hm; omega
theorem take_succ' {α : Type} {xs : List α} {i : Nat} {x : α} (h : xs[i]? = some x) : xs.take (i + 1) = xs.take i ++ [x] := by
  obtain ⟨hl, e⟩ := List.getElem?_eq_some_iff.mp h
  rw [← List.take_concat_get hl, List.concat_eq_append, e]
end Law

set_option maxRecDepth 100000
namespace Law
open PySem L2 Cr
variable {st : Store} {n : Nat} {P : D → Store → Prop}
/-- the bag: a list of three numbers -/
def Pl (l : Nat) (s : Store) : Prop := ∃ a b c, s[l]? = some (.lst [.int a, .int b, .int c])
theorem Pl.keep {l : Nat} {s t : Store} (h : Pl l s) (g : Gr [] s t) : Pl l t := by
  obtain ⟨a, b, c, e⟩ := h
  exact ⟨a, b, c, g.get e List.not_mem_nil⟩
theorem at3_0 {a b c : D} : atL [a, b, c] 0 = some a := rfl
theorem at3_1 {a b c : D} : atL [a, b, c] 1 = some b := rfl
theorem at3_2 {a b c : D} : atL [a, b, c] 2 = some c := rfl
theorem set_self {s : Store} {l : Nat} {o p : SO} (h : s[l]? = some o) : (s.set l p)[l]? = some p := List.getElem?_set_self (lt_of_get h)
theorem f_int {i : Int} : Ok (f1 .int (.int i) st) P ↔ P (.int i) st := Ok.it
theorem sp_take {l : Nat} {m : Int} (h : Pl l st) (h0 : 0 < m) (h2 : m < 2 ^ 29) (hP : ∀ r s, Gr [l] st s → Pl l s → 0 ≤ r → r < m → P (.int r) s) : Ok (callN T gc 100 (n + 1) "_law_take" [.loc l, .int m] [] st) P := by
  obtain ⟨a, b, c, e⟩ := h
  rw [Ok_call (F := g__law_take) rfl rfl]
  simp [g__law_take, x_loc e at3_0]
  by_cases ha : 0 < a
  · simp [ha, x_loc e at3_0, f2_divmod h0 h2]
    rw [sa_loc e (by decide) (by simp)]
    simp
    exact hP _ _ (Gr.set (List.mem_singleton.mpr rfl)) ⟨_, _, _, set_self e⟩ (Int.emod_nonneg _ (by omega)) (Int.emod_lt_of_pos _ h0)
  · simp [ha, x_loc e at3_2]
    rw [sa_loc e (by decide) (by simp)]
    have e1 := set_self (p := .lst [.int a, .int b, .int (c + 1)]) e
    simp [x_loc e1 at3_1, x_loc e1 at3_2]
    rw [o_mulR (by decide), x_loc e1 at3_2, o_mulL (by decide), o_add, o_add, f_int, o_mod (by decide)]
    rw [sa_loc e1 (by decide) (by simp)]
    have e2 := set_self (p := .lst [.int a, .int ((b * 16807 + 4099 * (c + 1) + 1) % 2147483647), .int (c + 1)]) e1
    simp
    rw [List.set_set] at e2
    rw [x_loc e2 at3_1, o_fdiv (by decide) (by decide), f_int, o_mod h0]
    exact hP _ _ (Gr.set (List.mem_singleton.mpr rfl)) ⟨_, _, _, e2⟩ (Int.emod_nonneg _ (by omega)) (Int.emod_lt_of_pos _ h0)
theorem ilist_cut (ns : List Int) (a b : Option Int) : cut (ilist ns) a b = ilist (cut ns a b) := by simp [cut, ilist, List.map_take, List.map_drop]
theorem x_lit {ns : List Int} {k : Nat} (h : k < ns.length) : Ok (idx (.lit ns) (.int k) st) P ↔ P (.int ns[k]) st := by
  have e : atL ns (k : Int) = some ns[k] := atL_nat (List.getElem?_eq_getElem h)
  show Ok (match atL ns (k : Int) with | some v => .ok (D.int v) st | none => .err) _ ↔ _
  rw [e]
  first | rfl | exact Ok.it
theorem sp_bag {ns : List Int} {k : Nat} (hk : k < 1000) (hP : ∀ s l, Gr [] st s → st.length ≤ l → Pl l s → P (.loc l) s) : Ok (callN T gc 100 (n + 1) "_law_bag" [.lit ns, .int k] [] st) P := by
  rw [Ok_call (F := g__law_bag) rfl rfl]
  simp [g__law_bag]
  rw [o_mulL (by decide), o_add]
  generalize (52027 : Int) + 8009 * (k : Int) = m0
  have fin : ∀ s a x b, Gr [] st s → P (.loc s.length) (s ++ [.lst [.int a, .int x, .int b]]) := fun s a x b g => hP _ _ (g.trans (Gr.app _ _ _)) g.1 ⟨a, x, b, get_app⟩
  refine OkS_for_inv (ls := []) ?_
  simp
  rw [hdM_loc getL_appL]
  refine ⟨_, HdIs.ls get_app List.not_mem_nil, fun i e s => ∃ m x y, e = [some (.lit ns), some (.int k), some (.int m), x, y], ⟨_, _, _, rfl⟩, ?_, ?_⟩
  · intro i x e s hx g ⟨m, y, z, he⟩
    subst he
    rw [ilist_get] at hx
    obtain ⟨c, hc, rfl⟩ := Option.map_eq_some_iff.mp hx
    simp
    rw [o_mulR (by decide), f_int, o_mod (by decide), o_add, o_add, f_int, o_mod (by decide)]
    simp [Gr.refl]
  · intro e s g ⟨m, y, z, he⟩
    subst he
    have g := (Gr.app [] st _).trans g
    simp
    by_cases hk2 : k < ns.length
    · simp [hk2]
      rw [x_lit hk2, f_int]
      simp
      rw [o_mulR (by decide), f_int, o_mod (by decide), o_mulR (by decide), o_add, o_add, f_int, o_mod (by decide)]
      by_cases h1 : ns[k] < 0
      · simp [h1]
        rw [ltd (by simp)]
        exact fin _ _ _ _ g
      · simp [h1]
        rw [o_pow ⟨by decide, by decide, by decide⟩, c_ge]
        by_cases h2 : (10 : Int) ^ (15 : Int).toNat ≤ ns[k]
        · rw [decide_eq_true h2]
          simp [h1]
          rw [ltd (by simp)]
          exact fin _ _ _ _ g
        · rw [decide_eq_false h2]
          simp
          rw [ltd (by simp)]
          exact fin _ _ _ _ g
    · simp [hk2]
      rw [o_mulR (by decide), f_int, o_mod (by decide), o_mulR (by decide), o_add, o_add, f_int, o_mod (by decide)]
      simp
      rw [o_pow ⟨by decide, by decide, by decide⟩]
      simp
      rw [ltd (by simp)]
      exact fin _ _ _ _ g
theorem o_addL {l q : Nat} {xs ys : List D} (h1 : st[l]? = some (.lst xs)) (h2 : st[q]? = some (.lst ys)) (h : xs.length + ys.length ≤ 100000) : Ok (op2 .add (.loc l) (.loc q) st) P ↔ P (.loc st.length) (st ++ [.lst (xs ++ ys)]) := by
  have e : op2 .add (.loc l) (.loc q) st = .ok (.loc st.length) (st ++ [.lst (xs ++ ys)]) := by
    simp only [op2, h1, h2]
    rw [if_pos h]
  rw [e]
  exact Ok.it
theorem sp_orders {m : Nat} (hm : m ≤ 5) (hb : ∀ k ≤ m, (growO m k).length ≤ 1000) (hP : ∀ s l, Gr [] st s → s[l]? = some (.lst ((growO m m).map tI)) → P (.loc l) s) : Ok (callN T gc 100 (n + 1) "_law_orders" [.int m] [] st) P := by
  rw [Ok_call (F := g__law_orders) rfl rfl]
  simp [g__law_orders]
  rw [bx (by simp), ltd (by simp)]
  have h0 : ([D.tup []] : List D) = (growO m 0).map tI := rfl
  refine OkS_for_inv (ls := []) ?_
  simp
  rw [rg_h (by decide) (rngOk_of (by omega) (by omega))]
  refine ⟨_, HdIs.rg [] _ _ _, fun i e s => ∃ lf x y z w, e = [some (.int m), some (.loc lf), x, y, z, w] ∧ s[lf]? = some (.lst ((growO m i).map tI)), ⟨_, _, _, _, _, rfl, by rw [← h0]; exact get_app⟩, ?_, ?_⟩
  · rintro i x e s hx g ⟨lf, a, b, c, d, rfl, hl⟩
    have hi : i < m := by
      have := (List.getElem?_eq_some_iff.mp hx).1
      rw [rngL_length] at this; omega
    simp
    rw [ltd (by simp)]
    have hlt := lt_of_get hl
    refine OkS_for_inv (ls := []) ?_
    simp
    rw [hdM_loc (getL_of ((Gr.app [] s _).get hl List.not_mem_nil))]
    refine ⟨_, HdIs.ls ((Gr.app [] s _).get hl List.not_mem_nil) List.not_mem_nil, fun j e s' => ∃ lx y z w, e = [some (.int m), some (.loc lf), y, some (.loc lx), z, w] ∧ s'[lx]? = some (.lst ((((growO m i).take j).flatMap (extO m)).map tI)), ⟨_, _, _, _, rfl, by simp⟩, ?_, ?_⟩
    · rintro j x2 e s' hx2 g2 ⟨lx, y, z, w, rfl, hq⟩
      rw [List.getElem?_map] at hx2
      obtain ⟨o, ho, rfl⟩ := Option.map_eq_some_iff.mp hx2
      simp
      rw [rg_h (by decide) (rngOk_of (by omega) (by omega))]
      have H := HdIs.rg [] 0 m s'
      rw [rngL_eq] at H
      obtain ⟨o1, o2⟩ := growO_ok m i o (List.mem_of_getElem? ho)
      refine Ok_compG (as := (List.range m).map fun (k : Nat) => (k : Int)) (g := .int) H (by simp; omega) (fun t => if !decide (t ∈ o) then some (tI (o ++ [t])) else none) (fun t ht s1 g1 => ?_) fun s1 g1 => ?_
      · have ht := ints01 m t ht
        simp [Cr.wipe]
        have ei : inB s1 (.int t) (tI o) = some (decide (t ∈ o)) := by
          rw [tI, ilist, inB_tup (Nc.int (m := 1) ht.1 (by decide) (by decide) (by omega)) (NcL.map (B := 1) (k := 1) (g := PyData.int) fun u hu => Nc.int (o2 u hu).1 (by decide) (by decide) (by have := (o2 u hu).2; omega)) (by decide) (by decide), Cr.any_ints]
        rw [c_nin ei]
        by_cases hto : t ∈ o
        · simp [hto, Gr.refl]
        · simp [hto]
          rw [bx (by simp), tI, o_addT (by rw [ilist_len]; simp; omega)]
          simp [tI, ilist, Gr.refl]
      · rw [filterMap_if_aux]
        have e5 : ((((List.range m).map fun (k : Nat) => (k : Int)).filter fun t => !decide (t ∈ o)).map fun t => tI (o ++ [t])) = (extO m o).map tI := by
          unfold extO; rw [List.map_map]; rfl
        rw [e5]
        have hq1 := (g1.trans (Gr.app [] s1 [.lst ((extO m o).map tI)])).get hq List.not_mem_nil
        have hj : j < (growO m i).length := (List.getElem?_eq_some_iff.mp ho).1
        have b1 := flat_len (m := m) ((growO m i).take j)
        have b2 := hb i (by omega)
        have b3 := extO_len m o
        have b4 : ((growO m i).take j).length * m ≤ 1000 * 5 := Nat.mul_le_mul (by rw [List.length_take]; omega) hm
        show Ok _ _
        rw [o_addL hq1 get_app (by rw [List.length_map, List.length_map]; omega)]
        have e6 : (growO m i)[j] = o := (List.getElem?_eq_some_iff.mp ho).2
        refine ⟨(g1.trans (Gr.app _ _ _)).trans (Gr.app _ _ _), _, rfl, ?_⟩
        rw [get_app, ← List.take_concat_get hj, List.concat_eq_append, e6, List.flatMap_append, List.map_append]
        simp
    · rintro e s' g2 ⟨lx, y, z, w, rfl, hq⟩
      simp
      refine ⟨(Gr.app [] s _).trans g2, ?_⟩
      rw [hq, List.length_map, List.take_length]; rfl
  · rintro e s g ⟨lf, a, b, c, d, rfl, hl⟩
    simp
    exact hP _ _ ((Gr.app _ _ _).trans g) (by rw [hl, rngL_length]; simp)
theorem sp_pull {l q : Nat} {xs : List D} (h : Pl l st) (hq : getL st q = some xs) (hne : q ≠ l) (h0 : 0 < xs.length) (h2 : xs.length < 2 ^ 29) (hP : ∀ s x, Gr [l] st s → Pl l s → x ∈ xs → P x s) : Ok (callN T gc 100 (n + 2) "_law_pull" [.loc l, .loc q] [] st) P := by
  rw [Ok_call (F := g__law_pull) rfl rfl]
  simp [g__law_pull]
  rw [f_lenL hq]
  refine sp_take h (by omega) (by omega) fun r s g pl r0 r1 => ?_
  have hr : r.toNat < xs.length := by omega
  show Ok _ _
  rw [x_loc (g.get (getL_inv hq) (by simpa using hne)) (atL_of r0 (List.getElem?_eq_getElem hr))]
  exact hP _ _ g pl (List.getElem_mem hr)
theorem grow_small {m : Nat} (hm : m ≤ 5) : ∀ k ≤ m, (growO m k).length ≤ 1000 := by
  have : ∀ m ∈ List.range 6, ∀ k ∈ List.range 6, (growO m k).length ≤ 1000 := by decide +kernel
  exact fun k hk => this m (List.mem_range.mpr (by omega)) k (List.mem_range.mpr (by omega))
theorem grow_pos {m : Nat} (hm : m ∈ [3, 4, 5]) : 0 < (growO m m).length := by
  have := all_in hm (R_ord m)
  rw [allO_grow m hm] at this
  exact List.length_pos_of_mem this
theorem nubT_len : ∀ ts : List (List Int), (nubT ts).length ≤ ts.length
  | [] => Nat.le_refl _
  | x :: r => by
    have := nubT_len r
    unfold nubT
    split
    · rw [List.length_cons]; omega
    · rw [List.length_cons, List.length_cons]; omega
theorem sset_roll {m : Nat} {ts : List (List Int)} (hm : m ≤ 5) (ho : ∀ o ∈ ts, Ord m o) (h1 : 1 ≤ ts.length) (h2 : ts.length ≤ 24) : Roll m (sortT (nubT ts)) := by
  have hl := nubT_len ts
  refine sort_roll (by omega) (fun o h => ho o ((nubT_mem o ts).mp h)) (nubT_nodup ts) ?_ (by omega)
  cases ts with
  | nil => cases h1
  | cons x r => exact List.length_pos_of_mem ((nubT_mem x (x :: r)).mpr List.mem_cons_self)
theorem sp_roll {l m : Nat} (h : Pl l st) (hm : m ∈ [3, 4, 5]) {most : Nat} (hk0 : 1 ≤ most) (hk : most ≤ 20) (hP : ∀ s r, Gr [l] st s → Pl l s → Roll m r → r.length ≤ most → P (rD r) s) : Ok (callN T gc 100 (n + 3) "_law_roll" [.loc l, .int m, .int most] [] st) P := by
  obtain ⟨h3, h5⟩ := m5 hm
  rw [Ok_call (F := g__law_roll) rfl rfl]
  simp [g__law_roll]
  rw [ltd (by simp)]
  refine sp_orders h5 (grow_small h5) fun s lo g hlo => ?_
  simp [setAll]
  refine OkS_for_inv (ls := [l, st.length]) ?_
  simp
  have hpl := h
  obtain ⟨pa, pb, pc, hpl⟩ := hpl
  have hlt := lt_of_get hpl
  have g0 := (Gr.app [] st [.lst []]).trans g
  refine sp_take (h.keep g0) (by omega) (by omega) fun r s1 g1 pl1 r0 r1 => ?_
  show Ok _ _
  obtain ⟨k, rfl⟩ : ∃ k : Nat, r = (k : Int) := ⟨r.toNat, by omega⟩
  rw [o_add, rg_h (by decide) (rngOk_of (by omega) (by omega))]
  have hs0 : s[st.length]? = some (.lst []) := g.get get_app List.not_mem_nil
  have lne : st.length ≠ l := by omega
  have hs1 : s1[st.length]? = some (.lst []) := g1.get hs0 (by simpa using lne)
  have lo_ne : lo ≠ l ∧ lo ≠ st.length := by
    have hgp := grow_pos hm
    refine ⟨fun z => ?_, fun z => ?_⟩
    · have e := g0.get hpl List.not_mem_nil
      rw [← z, hlo] at e
      have e := Option.some.inj e
      simp only [SO.lst.injEq] at e
      rcases q : growO m m with _ | ⟨x, y⟩
      · rw [q] at hgp; cases hgp
      · rw [q] at e; cases e
    · rw [z, hs0] at hlo
      have e := Option.some.inj hlo
      simp only [SO.lst.injEq] at e
      rcases q : growO m m with _ | ⟨x, y⟩
      · rw [q] at hgp; cases hgp
      · rw [q] at e; cases e
  have hlo1 : s1[lo]? = some (.lst ((growO m m).map tI)) := g1.get hlo (by simpa using lo_ne.1)
  refine ⟨_, HdIs.rg [l, st.length] 0 _ s1, fun i e s' => ∃ x ts, e = [some (.loc l), some (.int m), some (.int most), some (.loc st.length), some (.loc lo), x] ∧ Pl l s' ∧ s'[st.length]? = some (.lst (tlist ts)) ∧ ts.length = i ∧ ∀ o ∈ ts, Ord m o, ⟨_, [], rfl, pl1, hs1, rfl, by simp⟩, ?_, ?_⟩
  · rintro i x e s' hx g2 ⟨y, ts, rfl, pl, hq, hl, ho⟩
    have hi : i < (1 + (k : Int) - 0).toNat := by
      have := (List.getElem?_eq_some_iff.mp hx).1
      rwa [rngL_length] at this
    simp
    rw [ki_loc hq]
    have hlo2 : s'[lo]? = some (.lst ((growO m m).map tI)) := g2.get hlo1 (by simpa using lo_ne)
    refine sp_pull pl (getL_of hlo2) lo_ne.1 (by rw [List.length_map]; exact grow_pos hm) (by rw [List.length_map]; have := grow_small h5 m (Nat.le_refl _); omega) fun s3 x3 g3 pl3 hx3 => ?_
    obtain ⟨o, ho3, rfl⟩ := List.mem_map.mp hx3
    have hoo : Ord m o := all_ok hm o (by rw [allO_grow m hm]; exact ho3)
    have hq3 : s3[st.length]? = some (.lst (tlist ts)) := g3.get hq (by simpa using lne)
    show Ok _ _
    rw [m_append hq3 (by rw [tlist_len]; omega)]
    refine ⟨(g3.mono (by simp)).trans (Gr.set (by simp)), ?_, ts ++ [o], ?_, by simp [hl], fun p hp => ?_⟩
    · obtain ⟨a, b, c, e⟩ := pl3
      exact ⟨a, b, c, by rw [List.getElem?_set_ne lne]; exact e⟩
    · rw [set_self hq3]
      simp [tlist, tI]
    · rcases List.mem_append.mp hp with hp | hp
      · exact ho p hp
      · rw [List.mem_singleton.mp hp]; exact hoo
  · rintro e s' g2 ⟨y, ts, rfl, pl, hq, hl, ho⟩
    rw [rngL_length] at hl
    simp
    rw [ki_loc hq, itM_loc (getL_of hq), ssetL_ok (m := m) (by omega) (by omega) ho (by omega)]
    refine Ok.it.mpr (hP _ _ ?_ pl (sset_roll h5 ho (by omega) (by omega)) (by rw [(sortT_perm _).length_eq]; have := nubT_len ts; omega))
    have q1 : Gr [l, st.length] st s' := ((g0.mono (by simp)).trans (g1.mono (by simp))).trans g2
    refine ⟨q1.1, fun j hj hn => q1.2 j hj fun z => ?_⟩
    rcases List.mem_cons.mp z with z | z
    · exact hn (by simp [z])
    · have : j = st.length := by simpa using z
      omega
theorem eqB_bl {a b : Bool} : eqB st (.bl a) (.bl b) = some (decide (a = b)) := by
  rw [eqB_of (Nc.bl a) (Nc.bl b) (by decide) (by decide)]
  cases a <;> cases b <;> rfl
theorem o_mulLst {l : Nat} {xs : List D} {j : Int} (h : st[l]? = some (.lst xs)) (h0 : 0 ≤ j) (h1 : j ≤ 1000) (hl : xs.length ≤ 100) : Ok (op2 .mul (.loc l) (.int j) st) P ↔ P (.loc st.length) (st ++ [.lst (List.replicate j.toNat xs).flatten]) := by
  have e : op2 .mul (.loc l) (.int j) st = .ok (.loc st.length) (st ++ [.lst (List.replicate j.toNat xs).flatten]) := by
    simp only [op2, h]
    rw [if_pos ⟨h0, h1, hl⟩]
  rw [e]
  exact Ok.it
theorem fl_sorted {ns : List Int} : fl .sorted (ilist ns) = some (ilist (sortI ns)) := by
  show (match intsOf (ilist ns) with | some ns => some (ilist (sortI ns)) | none => _) = _
  rw [intsOf_ilist]
theorem sp_is_ahead {m : Nat} {o : List Int} {a b : Int} (hm : m ≤ 5) (ho : Ord m o) (ha : a ∈ o) (hb : b ∈ o) : Ok (callN T gc 100 (n + 1) "is_ahead" [tI o, .int a, .int b] [] st) P ↔ P (.bl (decide (at_ a o < at_ b o))) st := by
  rw [Ok_call (F := g_is_ahead) rfl rfl]
  simp [g_is_ahead, tI]
  have e1 := find_at (st := st) hm ho ha
  have e2 := find_at (st := st) hm ho hb
  rw [tI] at e1 e2
  rw [m_index e1, m_index e2]
  simp
theorem srt (m : Nat) (hm : m ∈ [3, 4, 5]) : ((growO m m).all fun o => decide (sortI o = R m)) = true := by
  revert m; decide +kernel
theorem srt_ord {m : Nat} (hm : m ∈ [3, 4, 5]) {o : List Int} (h : Ord m o) : sortI o = R m :=
  of_decide_eq_true (List.all_eq_true.mp (srt m hm) o (ord_grow m o h.1 h.2.1 h.2.2.1))
theorem ord_in {m : Nat} {o : List Int} (h : Ord m o) {a : Int} (ha : a ∈ R m) : a ∈ o := by
  have := ints01 m a ha
  exact h.2.2.2 a this.1 this.2
theorem R_len (m : Nat) : (R m).length = m := by simp [R]
theorem R_lt {m : Nat} {a : Int} (h : a ∈ R m) : 0 ≤ a ∧ a < m := ints01 m a h
end Law

set_option maxRecDepth 100000
namespace Law
open PySem L2 Cr
variable {st : Store} {n : Nat} {P : D → Store → Prop}
theorem gc_P : gc "MOST_PEOPLE" = some (.int 99) := rfl
/-- a crowd of as many kinds of people -/
structure Crowd (n : Nat) (c : List Int) : Prop where
  len : c.length = n
  bd : ∀ i ∈ c, 0 ≤ i ∧ i ≤ 99
  pos : 0 < c.sum
theorem HdIs.zp {ls : List Nat} {a b : Hd} {xs ys : List D} {st : Store} (h : HdIs ls a xs st) (k : HdIs ls b ys st) : HdIs ls (.zp a b) (List.zipWith (fun x y => D.tup [x, y]) xs ys) st := by
  refine ⟨?_, fun s g i => ?_⟩
  · show (match a.len st, b.len st with | some n, some m => some (min n m) | _, _ => none) = _
    rw [h.1, k.1, List.length_zipWith]
  · show (match a.get s i, b.get s i with | some (some d), some (some e) => some (some (D.tup [d, e])) | some _, some _ => some none | _, _ => none) = _
    rw [h.2 s g i, k.2 s g i, List.getElem?_zipWith]
    cases xs[i]? <;> cases ys[i]? <;> rfl
/-- a roll's order beside the number of its people -/
def pq (p : List Int × Int) : D := .tup [tI p.1, .int p.2]
theorem zw_pq : ∀ (r : List (List Int)) (c : List Int), List.zipWith (fun x y => D.tup [x, y]) (tlist r) (ilist c) = (r.zip c).map pq
  | [], _ => rfl
  | _ :: _, [] => rfl
  | o :: r, i :: c => by
    show _ :: List.zipWith _ (tlist r) (ilist c) = _ :: (r.zip c).map pq
    rw [zw_pq r c]; rfl
/-- numbers of people, in a tuple or a list -/
def Cw (c : List Int) (d : D) (s : Store) : Prop := d = tI c ∨ ∃ q, d = .loc q ∧ s[q]? = some (.lst (ilist c))
theorem Cw.keep {c : List Int} {d : D} {s t : Store} (h : Cw c d s) (g : Gr [] s t) : Cw c d t := by
  rcases h with rfl | ⟨q, rfl, h⟩
  · exact .inl rfl
  · exact .inr ⟨q, rfl, g.get h List.not_mem_nil⟩
theorem zip_cw {r : List (List Int)} {c : List Int} {d : D} {PH : Hd → Store → Prop} (h : Cw c d st) (hP : ∀ g, HdIs [] g ((r.zip c).map pq) st → PH g st) : Ok (zipB (rD r) d st) PH := by
  rcases h with rfl | ⟨q, rfl, h⟩
  · refine Ok.mk (hP _ ?_)
    rw [← zw_pq]
    exact HdIs.zp (HdIs.its [] _ _) (HdIs.its [] _ _)
  · show Ok (match getL st q with | some _ => Rs.ok (Hd.zp (.its (tlist r)) (.ls q)) st | none => .err) _
    rw [getL_of h]
    refine Ok.mk (hP _ ?_)
    rw [← zw_pq]
    exact HdIs.zp (HdIs.its [] _ _) (HdIs.ls h List.not_mem_nil)
theorem it_cw {c : List Int} {d : D} {PL : List D → Store → Prop} (h : Cw c d st) : Ok (itemsOf d st) PL ↔ PL (ilist c) st := by
  rcases h with rfl | ⟨q, rfl, h⟩
  · rw [tI, it_tup]
  · rw [itM_loc (getL_of h)]
theorem zip_in {r : List (List Int)} {c : List Int} {p : List Int × Int} (h : p ∈ r.zip c) : p.1 ∈ r ∧ p.2 ∈ c := by
  obtain ⟨a, b⟩ := p
  exact List.of_mem_zip h
def mg (a b : Int) (p : List Int × Int) : Int := if at_ a p.1 < at_ b p.1 then p.2 else -p.2
def marg (r : List (List Int)) (c : List Int) (a b : Int) : Int := ((r.zip c).map (mg a b)).sum
def bts (r : List (List Int)) (c : List Int) (a b : Int) : Bool := decide (0 < marg r c a b)
def gd (m : Nat) (r : List (List Int)) (c : List Int) (t : Int) : Bool := !(R m).any fun o => bts r c o t
def best (m : Nat) (r : List (List Int)) (c : List Int) : List Int := (R m).filter (gd m r c)
theorem sp_margin_by {m : Nat} {r : List (List Int)} {c : List Int} {a b : Int} (hm : m ≤ 5) (h : Roll m r) (ha : a ∈ R m) (hb : b ∈ R m) (hP : ∀ s, Gr [] st s → P (.int (marg r c a b)) s) : Ok (callN T gc 100 (n + 2) "margin_by" [rD r, tI c, .int a, .int b] [] st) P := by
  rw [Ok_call (F := g_margin_by) rfl rfl]
  simp [g_margin_by]
  have hf := h.few
  refine zip_cw (.inl rfl) fun g H => ?_
  refine Ok_compGM H (by rw [List.length_zip]; omega) (fun p => .int (mg a b p)) (fun p hp s g => ?_) fun s g => ?_
  · have ho := h.ord p.1 (zip_in hp).1
    simp [Cr.wipe, pq, bt_tp]
    rw [sp_is_ahead hm ho (ord_in ho ha) (ord_in ho hb)]
    simp
    by_cases c : at_ a p.1 < at_ b p.1
    · simp [c, mg, Gr.refl]
    · simp [c, mg, f_neg, Gr.refl]
  · have e : ((r.zip c).map fun p => D.int (mg a b p)) = ilist ((r.zip c).map (mg a b)) := by unfold ilist; rw [List.map_map]; rfl
    rw [e, f_sum]
    exact hP s g
theorem sp_beats_by {m : Nat} {r : List (List Int)} {c : List Int} {a b : Int} (hm : m ≤ 5) (h : Roll m r) (ha : a ∈ R m) (hb : b ∈ R m) (hP : ∀ s, Gr [] st s → P (.bl (bts r c a b)) s) : Ok (callN T gc 100 (n + 3) "beats_by" [rD r, tI c, .int a, .int b] [] st) P := by
  rw [Ok_call (F := g_beats_by) rfl rfl]
  simp [g_beats_by]
  refine sp_margin_by hm h ha hb fun s g => ?_
  rw [c_gt]
  exact hP s g
theorem sp_wrong_many {c : List Int} (h : ∀ i ∈ c, 0 ≤ i ∧ i ≤ 99) (hP : ∀ s, Gr [] st s → P .non s) : Ok (callN T gc 100 (n + 3) "wrong_many" [tI c] [] st) P := by
  rw [Ok_call (F := g_wrong_many) rfl rfl]
  simp [g_wrong_many, tI]
  refine Ok_fwL_all (fun ahead rr d s e g => ?_) hP
  obtain ⟨a, b, h1, h2, h3⟩ := List.map_eq_append_iff.mp e
  cases b with
  | nil => cases h3
  | cons i b =>
    cases h3
    simp [gc_P]
    rw [sp_between]
    simp
    exact ⟨h i (by rw [h1]; simp), Gr.refl _ _⟩
theorem sp_check_crowd {r : List (List Int)} {c : List Int} (h : Crowd r.length c) (hP : ∀ s, Gr [] st s → P .non s) : Ok (callN T gc 100 (n + 4) "check_crowd" [rD r, tI c] [] st) P := by
  rw [Ok_call (F := g_check_crowd) rfl rfl]
  simp [g_check_crowd]
  rw [show f1 .len (rD r) st = f1 .len (.tup (tlist r)) st from rfl, f_len, tlist_len, tI, sp_tuple_of]
  simp [ilist_len, h.len]
  refine sp_wrong_many h.bd fun s g => ?_
  show Ok _ _
  rw [c_notN]
  simp [isNonB]
  have := h.pos
  rw [f_sum, c_eqI]
  rw [decide_eq_false (by omega)]
  simp
  exact hP s g
theorem sp_check_crowded {m : Nat} {r : List (List Int)} {c : List Int} (h3 : 3 ≤ m) (hm : m ≤ 5) (h : Roll m r) (hc : Crowd r.length c) (hP : ∀ s, Gr [] st s → P .non s) : Ok (callN T gc 100 (n + 8) "check_crowded" [.int m, rD r, tI c] [] st) P := by
  rw [Ok_call (F := g_check_crowded) rfl rfl]
  simp [g_check_crowded]
  refine sp_check_roll h3 hm h fun s g => ?_
  show Ok _ _
  refine sp_check_crowd hc fun s2 g2 => ?_
  exact hP s2 (g.trans g2)
def ahead (r : List (List Int)) (c : List Int) (o t : Int) : Int := (((r.zip c).filter fun p => decide (at_ o p.1 < at_ t p.1)).map (·.2)).sum
theorem marg_ahead (a b : Int) : ∀ (r : List (List Int)) (c : List Int), c.length = r.length → marg r c a b = 2 * ahead r c a b - c.sum
  | [], [], _ => rfl
  | [], _ :: _, h => by simp at h
  | _ :: _, [], h => by simp at h
  | o :: r, i :: c, h => by
    have ih := marg_ahead a b r c (by simpa using h)
    unfold marg ahead at ih ⊢
    rw [List.zip_cons_cons, List.map_cons, List.sum_cons, List.sum_cons, ih, List.filter_cons]
    unfold mg
    by_cases hc : at_ a o < at_ b o
    · simp [hc]; omega
    · simp [hc]; omega
theorem marg_self {a : Int} {r : List (List Int)} {c : List Int} (h : c.length = r.length) : marg r c a a = - c.sum := by
  rw [marg_ahead a a r c h]
  have : ahead r c a a = 0 := by unfold ahead; rw [List.filter_eq_nil_iff.mpr (by simp)]; rfl
  omega
theorem f_intB {b : Bool} : Ok (f1 .int (.bl b) st) P ↔ P (.int (if b then 1 else 0)) st := Ok.it
theorem Pl.lt {l : Nat} {s : Store} (h : Pl l s) : l < s.length := by
  obtain ⟨a, b, c, e⟩ := h
  exact lt_of_get e
theorem Pl.app {l : Nat} {s : Store} (h : Pl l s) (o : List SO) : Pl l (s ++ o) := h.keep (Gr.app [] s o)
theorem Pl.setN {l k : Nat} {s : Store} {o : SO} (h : Pl l s) (hk : k ≠ l) : Pl l (s.set k o) := by
  obtain ⟨a, b, c, e⟩ := h
  exact ⟨a, b, c, by rw [List.getElem?_set_ne hk]; exact e⟩
theorem sum_pos : ∀ {c : List Int}, (∀ i ∈ c, 0 ≤ i) → 0 ≤ c.sum
  | [], _ => by simp
  | x :: c, h => by
    rw [List.sum_cons]
    have := h x List.mem_cons_self
    have := sum_pos (c := c) fun i hi => h i (List.mem_cons_of_mem _ hi)
    omega
theorem ilist_set (c : List Int) (k : Nat) (v : Int) : (ilist c).set k (.int v) = ilist (c.set k v) := by unfold ilist; rw [List.map_set]
theorem sum_set : ∀ (c : List Int) (a : Nat) (v : Int), a < c.length → (c.set a v).sum = c.sum - c.getD a 0 + v
  | [], _, _, h => by simp at h
  | x :: c, 0, v, _ => by
    show (v :: c).sum = (x :: c).sum - x + v
    rw [List.sum_cons, List.sum_cons]; omega
  | x :: c, a + 1, v, h => by
    show (x :: c.set a v).sum = (x :: c).sum - c.getD a 0 + v
    rw [List.sum_cons, List.sum_cons, sum_set c a v (by simpa using h)]; omega
theorem Gr_fresh {ls : List Nat} {a b : Store} (h : Gr ls a b) (k : ∀ i ∈ ls, a.length ≤ i) : Gr [] a b :=
  ⟨h.1, fun i hi _ => h.2 i hi fun hm => by have := k i hm; omega⟩
end Law

set_option maxRecDepth 100000
namespace Law
open PySem L2 Cr
variable {st : Store} {n : Nat} {P : D → Store → Prop}
def rngI (lo hi : Int) : List Int := (List.range (hi - lo).toNat).map fun (k : Nat) => lo + (k : Int)
theorem rngL_I (lo hi : Int) : rngL lo hi = ilist (rngI lo hi) := by unfold rngL ilist rngI; rw [List.map_map]; rfl
theorem rngI_mem {lo hi x : Int} (h : x ∈ rngI lo hi) : lo ≤ x ∧ x < hi := by
  obtain ⟨k, hk, rfl⟩ := List.mem_map.mp h
  have := List.mem_range.mp hk
  omega
theorem rngI_len (lo hi : Int) : (rngI lo hi).length = (hi - lo).toNat := by simp [rngI]
def lsm (L : List (Int × Int)) : Int := (L.map (·.1)).sum
def msm (L : List (Int × Int)) : Int := (L.map (·.2)).sum
def ext (q : Int × Int) (row : List Int) : List (List Int) := (rngI q.1 (q.2 + 1)).map fun o => row ++ [o]
def okC (p : Int) (L : List (Int × Int)) (row : List Int) : Bool := decide (lsm L ≤ p - row.sum) && decide (p - row.sum ≤ msm L)
def extC (p : Int) (q : Int × Int) (L : List (Int × Int)) (row : List Int) : List (List Int) := ((rngI q.1 (q.2 + 1)).filter fun o => decide (lsm L ≤ p - row.sum - o) && decide (p - row.sum - o ≤ msm L)).map fun o => row ++ [o]
def flr : List (List Int) → List (Int × Int) → List (List Int)
  | rows, [] => rows
  | rows, q :: r => flr (rows.flatMap (ext q)) r
def prg (p : Int) : List (List Int) → List (Int × Int) → List (List Int)
  | rows, [] => rows
  | rows, q :: r => prg p (rows.flatMap (extC p q r)) r
theorem sum_snoc (row : List Int) (o : Int) : (row ++ [o]).sum = row.sum + o := by simp [List.sum_append]
theorem extC_eq (p : Int) (q : Int × Int) (L : List (Int × Int)) (row : List Int) : extC p q L row = (ext q row).filter (okC p L) := by
  unfold extC ext
  rw [List.filter_map]
  congr 1
  refine List.filter_congr fun o _ => ?_
  unfold okC
  simp only [Function.comp_apply]
  rw [sum_snoc, show p - (row.sum + o) = p - row.sum - o by omega]
theorem filter_flat {α β : Type} {p : β → Bool} {f : α → List β} : ∀ xs : List α, (xs.flatMap f).filter p = xs.flatMap fun x => (f x).filter p
  | [] => rfl
  | x :: xs => by rw [List.flatMap_cons, List.filter_append, filter_flat xs, List.flatMap_cons]
theorem flat_filter {α β : Type} {c : α → Bool} {f : α → List β} : ∀ xs : List α, (∀ x ∈ xs, c x = false → f x = []) → (xs.filter c).flatMap f = xs.flatMap f
  | [], _ => rfl
  | x :: xs, h => by
    have ih := flat_filter xs fun y hy => h y (List.mem_cons_of_mem _ hy)
    rw [List.filter_cons, List.flatMap_cons]
    cases e : c x with
    | true => rw [if_pos rfl, List.flatMap_cons, ih]
    | false => rw [if_neg Bool.false_ne_true, ih, h x List.mem_cons_self e]; rfl
theorem lsm_cons (q : Int × Int) (L : List (Int × Int)) : lsm (q :: L) = q.1 + lsm L := by simp [lsm]
theorem msm_cons (q : Int × Int) (L : List (Int × Int)) : msm (q :: L) = q.2 + msm L := by simp [msm]
theorem step_eq (p : Int) (q : Int × Int) (L : List (Int × Int)) (rows : List (List Int)) : (rows.filter (okC p (q :: L))).flatMap (extC p q L) = (rows.flatMap (ext q)).filter (okC p L) := by
  rw [filter_flat, flat_filter]
  · congr 1; funext row; exact extC_eq p q L row
  · intro row _ hr
    unfold extC
    rw [List.map_eq_nil_iff, List.filter_eq_nil_iff]
    intro o ho
    have := rngI_mem ho
    unfold okC at hr
    rw [lsm_cons, msm_cons] at hr
    simp only [Bool.and_eq_true, decide_eq_true_eq]
    simp only [Bool.and_eq_false_iff, decide_eq_false_iff_not] at hr
    omega
theorem prg_flr (p : Int) : ∀ (L : List (Int × Int)) (rows : List (List Int)), prg p (rows.filter (okC p L)) L = (flr rows L).filter (okC p [])
  | [], rows => rfl
  | q :: L, rows => by
    show prg p ((rows.filter (okC p (q :: L))).flatMap (extC p q L)) L = (flr (rows.flatMap (ext q)) L).filter (okC p [])
    rw [step_eq, prg_flr p L]
theorem okC_nil (p : Int) (row : List Int) : okC p [] row = decide (row.sum = p) := by
  unfold okC
  rw [show lsm [] = 0 from rfl, show msm [] = 0 from rfl, Bool.eq_iff_iff]
  simp only [Bool.and_eq_true, decide_eq_true_eq]
  omega
/-- the crowds of so many people -/
def cwd (L : List (Int × Int)) (p : Int) : List (List Int) := (flr [[]] L).filter fun row => decide (row.sum = p)
theorem prg_cwd {L : List (Int × Int)} (h : L ≠ []) (p : Int) : prg p [[]] L = cwd L p := by
  cases L with
  | nil => exact absurd rfl h
  | cons q L =>
    show prg p ([[]].flatMap (extC p q L)) L = (flr ([[]].flatMap (ext q)) L).filter _
    have e : [[]].flatMap (extC p q L) = ([[]].flatMap (ext q)).filter (okC p L) := by
      rw [filter_flat]; congr 1; funext row; exact extC_eq p q L row
    rw [e, prg_flr]
    exact List.filter_congr fun row _ => okC_nil p row
theorem flat_le {α β : Type} {f : α → List β} {k : Nat} : ∀ xs : List α, (∀ x ∈ xs, (f x).length ≤ k) → (xs.flatMap f).length ≤ xs.length * k
  | [], _ => by simp
  | x :: xs, h => by
    rw [List.flatMap_cons, List.length_append, List.length_cons, Nat.succ_mul]
    have := h x List.mem_cons_self
    have := flat_le xs fun y hy => h y (List.mem_cons_of_mem _ hy)
    omega
/-- limits that are right -/
def Lim (L : List (Int × Int)) : Prop := ∀ q ∈ L, 0 ≤ q.1 ∧ q.1 ≤ q.2 ∧ q.2 ≤ 5
theorem ext_len {q : Int × Int} (h : 0 ≤ q.1 ∧ q.1 ≤ q.2 ∧ q.2 ≤ 5) (row : List Int) : (ext q row).length ≤ 6 := by
  unfold ext; rw [List.length_map, rngI_len]; omega
theorem extC_len {q : Int × Int} (h : 0 ≤ q.1 ∧ q.1 ≤ q.2 ∧ q.2 ≤ 5) (p : Int) (L : List (Int × Int)) (row : List Int) : (extC p q L row).length ≤ 6 := by
  rw [extC_eq]; exact Nat.le_trans (List.length_filter_le _ _) (ext_len h row)
/-- rows of so many numbers, few, of no more than 5 each -/
structure Rows (k : Nat) (rows : List (List Int)) : Prop where
  few : rows.length ≤ 6 ^ k
  len : ∀ row ∈ rows, row.length = k
  bd : ∀ row ∈ rows, ∀ i ∈ row, 0 ≤ i ∧ i ≤ 5
theorem Rows.zero : Rows 0 [[]] := ⟨by decide, fun row h => by rw [List.mem_singleton.mp h]; rfl, fun row h => by rw [List.mem_singleton.mp h]; simp⟩
theorem Rows.ext {k : Nat} {rows : List (List Int)} {q : Int × Int} (h : Rows k rows) (hq : 0 ≤ q.1 ∧ q.1 ≤ q.2 ∧ q.2 ≤ 5) : Rows (k + 1) (rows.flatMap (ext q)) := by
  refine ⟨?_, fun row hr => ?_, fun row hr => ?_⟩
  · have h1 := flat_le (f := Law.ext q) (k := 6) rows fun row _ => ext_len hq row
    have h2 := Nat.mul_le_mul_right 6 h.few
    rw [Nat.pow_succ]; omega
  · obtain ⟨r, h1, h2⟩ := List.mem_flatMap.mp hr
    obtain ⟨o, _, rfl⟩ := List.mem_map.mp h2
    rw [List.length_append, h.len r h1]; rfl
  · obtain ⟨r, h1, h2⟩ := List.mem_flatMap.mp hr
    obtain ⟨o, ho, rfl⟩ := List.mem_map.mp h2
    intro i hi
    rcases List.mem_append.mp hi with hi | hi
    · exact h.bd r h1 i hi
    · rw [List.mem_singleton.mp hi]
      have := rngI_mem ho; omega
theorem Rows.filter {k : Nat} {rows : List (List Int)} (h : Rows k rows) (c : List Int → Bool) : Rows k (rows.filter c) :=
  ⟨Nat.le_trans (List.length_filter_le _ _) h.few, fun row hr => h.len row (List.mem_filter.mp hr).1, fun row hr => h.bd row (List.mem_filter.mp hr).1⟩
theorem Rows.extC {k : Nat} {rows : List (List Int)} {q : Int × Int} {L : List (Int × Int)} (h : Rows k rows) (hq : 0 ≤ q.1 ∧ q.1 ≤ q.2 ∧ q.2 ≤ 5) (p : Int) : Rows (k + 1) (rows.flatMap (extC p q L)) := by
  have e : rows.flatMap (Law.extC p q L) = (rows.flatMap (Law.ext q)).filter (okC p L) := by
    rw [filter_flat]; congr 1; funext row; exact extC_eq p q L row
  rw [e]
  exact (h.ext hq).filter _
theorem Rows.flr : ∀ {L : List (Int × Int)} {k : Nat} {rows : List (List Int)}, Rows k rows → Lim L → Rows (k + L.length) (flr rows L)
  | [], _, _, h, _ => h
  | q :: L, k, rows, h, hL => by
    have := Rows.flr (L := L) (h.ext (hL q List.mem_cons_self)) fun x hx => hL x (List.mem_cons_of_mem _ hx)
    rw [show k + (q :: L).length = k + 1 + L.length by rw [List.length_cons]; omega]
    exact this
theorem cwd_rows {L : List (Int × Int)} (h : Lim L) (p : Int) : Rows L.length (cwd L p) := by
  have := (Rows.zero.flr h).filter fun row => decide (row.sum = p)
  rw [Nat.zero_add] at this
  exact this
theorem flr_narrow : ∀ (c : List Int) (rows : List (List Int)), flr rows (c.map fun i => (i, i)) = rows.map fun row => row ++ c
  | [], rows => by show rows = _; simp
  | i :: c, rows => by
    show flr (rows.flatMap (ext (i, i))) (c.map fun i => (i, i)) = _
    rw [flr_narrow c]
    have e : ∀ row : List Int, ext (i, i) row = [row ++ [i]] := fun row => by
      unfold ext rngI
      rw [show (i + 1 - i).toNat = 1 by omega]
      simp
    have e2 : rows.flatMap (ext (i, i)) = rows.map fun row => row ++ [i] := by
      induction rows with
      | nil => rfl
      | cons r rs ih => rw [List.flatMap_cons, ih, e]; rfl
    rw [e2, List.map_map]
    refine List.map_congr_left fun row _ => ?_
    simp
theorem cwd_narrow (c : List Int) (p : Int) : cwd (c.map fun i => (i, i)) p = if c.sum = p then [c] else [] := by
  unfold cwd
  rw [flr_narrow]
  show [[] ++ c].filter _ = _
  by_cases h : c.sum = p <;> simp [h]
def seen (r : List (List Int)) (L : List (Int × Int)) (p a b : Int) : List Bool := (cwd L p).map fun c => bts r c a b
def wrd (bs : List Bool) : Str := if bs = [] then "none" else if false ∉ bs then "surely" else if true ∈ bs then "maybe" else "never"
theorem bts_asym {m : Nat} {r : List (List Int)} {c : List Int} {a b : Int} (h : c.length = r.length) (ho : ∀ o ∈ r, Ord m o) (ha : a ∈ R m) (hb : b ∈ R m) (hab : a ≠ b) : bts r c a b = true → bts r c b a = false := by
  have e : marg r c b a = - marg r c a b := by
    unfold marg
    have : ∀ zs : List (List Int × Int), (∀ p ∈ zs, p.1 ∈ r) → (zs.map (mg b a)).sum = - (zs.map (mg a b)).sum := by
      intro zs
      induction zs with
      | nil => intro _; rfl
      | cons z zs ih =>
        intro hz
        rw [List.map_cons, List.map_cons, List.sum_cons, List.sum_cons, ih fun p hp => hz p (List.mem_cons_of_mem _ hp)]
        have hoz := ho z.1 (hz z List.mem_cons_self)
        have ne : at_ a z.1 ≠ at_ b z.1 := fun e => by
          have h1 := (at_lt a (ord_in hoz ha)).2
          have h2 := (at_lt b (ord_in hoz hb)).2
          rw [e, h2] at h1
          exact hab (Option.some.inj h1).symm
        unfold mg
        by_cases c1 : at_ a z.1 < at_ b z.1
        · rw [if_pos c1, if_neg (by omega)]; omega
        · rw [if_neg c1, if_pos (by omega)]; omega
    exact this _ fun p hp => (zip_in hp).1
  intro hh
  unfold bts at hh ⊢
  rw [decide_eq_true_eq] at hh
  rw [decide_eq_false_iff_not, e]
  omega
theorem sure_never {m : Nat} {r : List (List Int)} {L : List (Int × Int)} {p a b : Int} (hL : Lim L) (hl : L.length = r.length) (ho : ∀ o ∈ r, Ord m o) (ha : a ∈ R m) (hb : b ∈ R m) (hab : a ≠ b) (h : wrd (seen r L p a b) = ("surely" : Str)) : wrd (seen r L p b a) = ("never" : Str) := by
  have hlen := (cwd_rows hL p).len
  unfold wrd at h
  split at h
  · cases h
  · rename_i h0
    split at h
    · rename_i h1
      have hall : ∀ c ∈ cwd L p, bts r c b a = false := fun c hc => by
        refine bts_asym (by rw [hlen c hc, hl]) ho ha hb hab ?_
        cases e : bts r c a b with
        | true => rfl
        | false => exact absurd (List.mem_map.mpr ⟨c, hc, e⟩) h1
      have hne : cwd L p ≠ [] := fun z => h0 (by unfold seen; rw [z]; rfl)
      obtain ⟨c, hc⟩ := List.exists_mem_of_ne_nil _ hne
      unfold wrd
      rw [if_neg, if_neg, if_neg]
      · intro hm
        obtain ⟨d, hd, e⟩ := List.mem_map.mp hm
        rw [hall d hd] at e; cases e
      · intro hm
        exact hm (List.mem_map.mpr ⟨c, hc, hall c hc⟩)
      · intro z
        exact hne (List.map_eq_nil_iff.mp z)
    · split at h <;> cases h
theorem wrd_none {bs : List Bool} : decide (wrd bs = ("none" : Str)) = decide (bs = []) := by
  unfold wrd
  by_cases h : bs = []
  · simp [h]
  · rw [if_neg h]
    split
    · simp [h]; decide
    · split
      · simp [h]; decide
      · simp [h]; decide
end Law

set_option maxRecDepth 100000
namespace Law
open PySem L2 Cr
variable {st : Store} {n : Nat} {P : D → Store → Prop}
theorem gc_E : gc "MOST_EACH" = some (.int 5) := rfl
theorem gc_T : gc "MOST_TOLD" = some (.int 25) := rfl
theorem gc_S : gc "MOST_ORDERS_striking" = some (.int 5) := rfl
theorem gc_w0 : gc "NONE" = some (.str "none") := rfl
theorem gc_w1 : gc "SURELY" = some (.str "surely") := rfl
theorem gc_w2 : gc "MAYBE" = some (.str "maybe") := rfl
theorem gc_w3 : gc "NEVER" = some (.str "never") := rfl
def pr2 (q : Int × Int) : D := .tup [.int q.1, .int q.2]
def pollD (L : List (Int × Int)) : D := .tup (L.map pr2)
theorem sp_is_limit {q : Int × Int} (h : 0 ≤ q.1 ∧ q.1 ≤ q.2 ∧ q.2 ≤ 5) : Ok (callN T gc 100 (n + 3) "is_limit" [pr2 q] [] st) P ↔ P (.bl true) st := by
  rw [Ok_call (F := g_is_limit) rfl rfl]
  simp [g_is_limit, pr2, sp_tuple_of, gc_E]
  rw [x_tup (show atL [D.int q.1, .int q.2] 0 = some (.int q.1) from rfl)]
  rw [sp_between, decide_eq_true (show 0 ≤ q.1 ∧ q.1 ≤ 5 by omega)]
  simp
  rw [x_tup (show atL [D.int q.1, .int q.2] 1 = some (.int q.2) from rfl), x_tup (show atL [D.int q.1, .int q.2] 0 = some (.int q.1) from rfl), sp_between, decide_eq_true (show q.1 ≤ q.2 ∧ q.2 ≤ 5 by omega)]
theorem sp_wrong_limit {L : List (Int × Int)} (h : Lim L) (hP : ∀ s, Gr [] st s → P .non s) : Ok (callN T gc 100 (n + 4) "wrong_limit" [pollD L] [] st) P := by
  rw [Ok_call (F := g_wrong_limit) rfl rfl]
  simp [g_wrong_limit, pollD]
  refine Ok_fwL_all (fun ahead rr d s e g => ?_) hP
  obtain ⟨a, b, h1, h2, h3⟩ := List.map_eq_append_iff.mp e
  cases b with
  | nil => cases h3
  | cons i b =>
    cases h3
    simp
    rw [sp_is_limit (h i (by rw [h1]; simp))]
    simp [Gr.refl]
theorem len_rD {r : List (List Int)} : Ok (f1 .len (rD r) st) P ↔ P (.int r.length) st := by
  rw [show f1 .len (rD r) st = f1 .len (.tup (tlist r)) st from rfl, f_len, tlist_len]
/-- what a poll must be -/
structure Pol (r : List (List Int)) (L : List (Int × Int)) (p : Int) : Prop where
  five : r.length ≤ 5
  len : L.length = r.length
  lim : Lim L
  p1 : 1 ≤ p
  p2 : p ≤ 25
theorem sp_check_polled {m : Nat} {r : List (List Int)} {L : List (Int × Int)} {p : Int} (h3 : 3 ≤ m) (hm : m ≤ 5) (h : Roll m r) (hp : Pol r L p) (hP : ∀ s, Gr [] st s → P .non s) : Ok (callN T gc 100 (n + 8) "check_polled" [.int m, rD r, pollD L, .int p] [] st) P := by
  rw [Ok_call (F := g_check_polled) rfl rfl]
  simp [g_check_polled]
  rw [sp_check_things (by omega) (by omega)]
  refine sp_check_roll h3 hm h fun s g => ?_
  show Ok _ _
  have h5 := hp.five
  rw [len_rD, gc_S]
  simp
  rw [if_neg (show ¬ (5 : Int) < r.length by omega)]
  simp
  rw [len_rD, pollD, sp_tuple_of]
  simp [hp.len]
  rw [show D.tup (L.map pr2) = pollD L from rfl]
  refine sp_wrong_limit hp.lim fun s2 g2 => ?_
  show Ok _ _
  rw [c_notN]
  simp [isNonB]
  rw [Ok_call (F := g_is_in_all) rfl rfl]
  simp [g_is_in_all, gc_T]
  rw [sp_between, decide_eq_true ⟨hp.p1, hp.p2⟩]
  simp
  exact hP s2 (g.trans g2)
theorem enum_poll (L : List (Int × Int)) : enumL (L.map pr2) = (List.range L.length).map fun (k : Nat) => D.tup [.int k, pr2 (L.getD k (0, 0))] := by
  unfold enumL
  apply List.ext_getElem?
  intro i
  rw [List.getElem?_mapIdx, List.getElem?_map, List.getElem?_map]
  by_cases hi : i < L.length
  · rw [List.getElem?_eq_getElem hi, List.getElem?_range hi]
    simp [List.getD_eq_getElem?_getD, List.getElem?_eq_getElem hi]
  · rw [List.getElem?_eq_none (by omega), List.getElem?_eq_none (by simpa using hi)]; rfl
theorem drop_get {α : Type} {L : List α} {i : Nat} (h : i < L.length) (d : α) : L.drop i = L.getD i d :: L.drop (i + 1) := by
  rw [List.drop_eq_getElem_cons h, List.getD_eq_getElem?_getD, List.getElem?_eq_getElem h]; rfl
theorem getD_mem {α : Type} {L : List α} {i : Nat} (h : i < L.length) (d : α) : L.getD i d ∈ L := by
  rw [List.getD_eq_getElem?_getD, List.getElem?_eq_getElem h]; exact List.getElem_mem h
theorem sp_crowds_by {L : List (Int × Int)} {p : Int} (h : Lim L) (h1 : L ≠ []) (h5 : L.length ≤ 5) (hp : -1000 ≤ p ∧ p ≤ 1000) (hP : ∀ s l, Gr [] st s → s[l]? = some (.lst ((cwd L p).map tI)) → P (.loc l) s) : Ok (callN T gc 100 (n + 1) "crowds_by" [pollD L, .int p] [] st) P := by
  rw [Ok_call (F := g_crowds_by) rfl rfl]
  simp [g_crowds_by]
  rw [bx (by simp), ltd (by simp)]
  have gA := Gr.app [] st [SO.lst [D.tup []]]
  have hqA : (st ++ [SO.lst [D.tup []]])[st.length]? = some (.lst (([[]] : List (List Int)).map tI)) := get_app
  revert gA hqA
  generalize st ++ [SO.lst [D.tup []]] = s0
  intro gA hqA
  refine OkS_for_inv (ls := []) ?_
  simp
  rw [show hdOf (pollD L) s0 = hdOf (.tup (L.map pr2)) s0 from rfl]
  simp
  have H := HdIs.en (HdIs.its [] (L.map pr2) s0)
  rw [enum_poll] at H
  refine ⟨_, H, fun i e s => ∃ q rows x1 x2 x3 x4 x5 x6 x7 x8 x9, e = [some (pollD L), some (.int p), some (.loc q), x1, x2, x3, x4, x5, x6, x7, x8, x9, none, none] ∧ s[q]? = some (.lst (rows.map tI)) ∧ prg p rows (L.drop i) = prg p [[]] L ∧ Rows i rows, ⟨st.length, [[]], _, _, _, _, _, _, _, _, _, rfl, hqA, rfl, Rows.zero⟩, ?_, ?_⟩
  · rintro i x e s hx g ⟨q, rows, x1, x2, x3, x4, x5, x6, x7, x8, x9, rfl, hq, hpr, hR⟩
    rw [List.getElem?_map] at hx
    have hi : i < L.length := by
      rcases Nat.lt_or_ge i L.length with hi | hi
      · exact hi
      · rw [List.getElem?_eq_none (by simpa using hi)] at hx; cases hx
    rw [List.getElem?_range hi] at hx
    cases hx
    have hlim := h _ (getD_mem hi (0, 0))
    have hdrop := drop_get hi (0, 0)
    generalize hql : L.getD i (0, 0) = ql at hlim hdrop
    simp [pr2, bt_tn]
    rw [show D.int (L[i]?.getD (0, 0)).1 = D.int ql.1 by rw [← hql, List.getD_eq_getElem?_getD], show D.int (L[i]?.getD (0, 0)).2 = D.int ql.2 by rw [← hql, List.getD_eq_getElem?_getD]]
    rw [show slc (pollD L) (some ((i : Int) + 1)) none s = slc (.tup (L.map pr2)) (some ((i + 1 : Nat) : Int)) none s from rfl, s_tup, cut_drop, ← List.map_drop]
    generalize hrest : L.drop (i + 1) = rest at hdrop
    have hrl : rest.length ≤ 5 := by rw [← hrest, List.length_drop]; omega
    rw [ltd (by simp)]
    simp [Cr.setAll]
    have hlq : q < s.length := lt_of_get hq
    have gB := Gr.app [] s [SO.lst []]
    have hqB := gB.get hq List.not_mem_nil
    have hlB : (s ++ [SO.lst []])[s.length]? = some (.lst []) := get_app
    revert gB hqB hlB
    generalize s ++ [SO.lst []] = s1
    intro gB hqB hlB
    refine Ok_compGM (as := rest) (g := pr2) (HdIs.its [] _ _) (by omega) (fun q => .int q.1) (fun q hq s g => ?_) fun s2 g2 => ?_
    · simp [Cr.wipe, pr2]
      rw [x_tup (show atL [D.int q.1, .int q.2] 0 = some (.int q.1) from rfl)]
      exact ⟨rfl, Gr.refl _ _⟩
    rw [show (rest.map fun q => D.int q.1) = ilist (rest.map (·.1)) by unfold ilist; rw [List.map_map]; rfl, f_sum]
    refine Ok_compGM (as := rest) (g := pr2) (HdIs.its [] _ _) (by omega) (fun q => .int q.2) (fun q hq s g => ?_) fun s3 g3 => ?_
    · simp [Cr.wipe, pr2]
      rw [x_tup (show atL [D.int q.1, .int q.2] 1 = some (.int q.2) from rfl)]
      exact ⟨rfl, Gr.refl _ _⟩
    rw [show (rest.map fun q => D.int q.2) = ilist (rest.map (·.2)) by unfold ilist; rw [List.map_map]; rfl, f_sum]
    rw [show (rest.map (·.1)).sum = lsm rest from rfl, show (rest.map (·.2)).sum = msm rest from rfl]
    rw [bx (by simp)]
    simp
    have g13 := g2.trans g3
    have hq3 := g13.get hqB List.not_mem_nil
    have hl3 := g13.get hlB List.not_mem_nil
    have hs1 : s.length < s1.length := lt_of_get hlB
    have hpow : 6 ^ i ≤ 6 ^ 4 := Nat.pow_le_pow_right (by decide) (by omega)
    have hfew := hR.few
    refine OkS_for_inv (ls := [s.length]) ?_
    simp
    rw [hdM_loc (getL_of hq3)]
    refine ⟨_, HdIs.ls (ls := [s.length]) hq3 (by simp; omega), fun j e s4 => (∃ y1 y2 y3, e = [some (pollD L), some (.int p), some (.loc q), some (.int i), some (.int ql.1), some (.int ql.2), some (.tup (rest.map pr2)), some (.loc s.length), some (.int (lsm rest)), some (.int (msm rest)), y1, y2, none, y3] ∧ y3 = none) ∧ s4[s.length]? = some (.lst (((rows.take j).flatMap (extC p ql rest)).map tI)), ⟨⟨_, _, _, rfl, rfl⟩, by simpa using hl3⟩, ?_, ?_⟩
    · rintro j x e s4 hx g4 ⟨⟨y1, y2, y3, rfl, rfl⟩, hl4⟩
      rw [List.getElem?_map] at hx
      cases hrj : rows[j]? with
      | none => rw [hrj] at hx; cases hx
      | some row =>
        rw [hrj] at hx
        cases hx
        simp
        rw [tI, it_tup, f_sum]
        simp
        rw [ki_loc hl4, rg_h (rngOk_of (by omega) (by omega)) (rngOk_of (by omega) (by omega))]
        have HR := HdIs.rg [] ql.1 (ql.2 + 1) s4
        rw [rngL_I] at HR
        have hrow := hR.len row (List.mem_of_getElem? hrj)
        refine Ok_compG (as := rngI ql.1 (ql.2 + 1)) (g := .int) HR (by rw [rngI_len]; omega) (fun o => if (decide (lsm rest ≤ p - row.sum - o) && decide (p - row.sum - o ≤ msm rest)) then some (tI (row ++ [o])) else none) (fun o ho s5 g5 => ?_) fun s5 g5 => ?_
        · simp [Cr.wipe]
          have ht : Ok (boxed (ilist row ++ [D.int o]) s5) (fun x s' => x = tI (row ++ [o]) ∧ Gr [] s5 s') := by
            rw [bx (by rw [List.length_append, ilist_len]; simp; omega)]
            exact ⟨by simp [tI, ilist], Gr.refl _ _⟩
          by_cases c1 : lsm rest ≤ p - row.sum - o
          · by_cases c2 : p - row.sum - o ≤ msm rest
            · simp [c1, c2]
              exact ht
            · simp [c1, c2, Gr.refl]
          · simp [c1, Gr.refl]
        · rw [filterMap_if_aux]
          have e5 : ((rngI ql.1 (ql.2 + 1)).filter fun o => decide (lsm rest ≤ p - row.sum - o) && decide (p - row.sum - o ≤ msm rest)).map (fun o => tI (row ++ [o])) = (extC p ql rest row).map tI := by
            unfold extC; rw [List.map_map]; rfl
          rw [e5]
          have hl5 : s5[s.length]? = some (.lst (((rows.take j).flatMap (extC p ql rest)).map tI)) := g5.get hl4 List.not_mem_nil
          have hc1 := extC_len hlim p rest row
          have hc2 := flat_le (f := extC p ql rest) (k := 6) (rows.take j) fun row _ => extC_len hlim p rest row
          have hc3 : (rows.take j).length ≤ rows.length := by rw [List.length_take]; omega
          rw [m_extend hl5 (by rw [List.length_map, List.length_map]; omega)]
          refine ⟨g5.nil.trans (Gr.set (by simp)), ?_⟩
          rw [set_self hl5, take_succ' hrj, List.flatMap_append]
          simp
    · rintro e s4 g4 ⟨⟨y1, y2, y3, rfl, rfl⟩, hl4⟩
      rw [List.length_map, List.take_length] at hl4
      simp
      exact ⟨Gr_fresh ((gB.trans g13).nil (ls := [s.length]) |>.trans g4) (by simp), _, hl4, by rw [← hpr, hdrop]; rfl, hR.extC hlim p⟩
  · rintro e s g ⟨q, rows, x1, x2, x3, x4, x5, x6, x7, x8, x9, rfl, hq, hpr, hR⟩
    simp
    rw [List.length_map, List.length_range, List.drop_length] at hpr
    have e1 : rows = cwd L p := by rw [← prg_cwd h1 p]; exact hpr
    rw [e1] at hq
    exact hP s q (gA.trans g) hq
end Law

set_option maxRecDepth 100000
namespace Law
open PySem L2 Cr
variable {st : Store} {n : Nat} {P : D → Store → Prop}
theorem eqvAll_bl : ∀ a b : List Bool, PyData.eqvAll (a.map .bool) (b.map .bool) = decide (a = b)
  | [], [] => by simp [PyData.eqvAll]
  | [], _ :: _ => by simp [PyData.eqvAll]
  | _ :: _, [] => by simp [PyData.eqvAll]
  | x :: a, y :: b => by
    rw [List.map_cons, List.map_cons, PyData.eqvAll, eqvAll_bl a b]
    have e : PyData.eqv (.bool x) (.bool y) = decide (x = y) := by cases x <;> cases y <;> rfl
    rw [e]
    by_cases h1 : x = y <;> by_cases h2 : a = b <;> simp [h1, h2]
theorem ncl_bl (bs : List Bool) (s : Store) : NcL s (bs.map D.bl) (bs.map PyData.bool) (bs.length * (5 + 2)) 1 := NcL.map fun x _ => Nc.bl x
theorem eqB_bls {l q : Nat} {a b : List Bool} (h1 : getL st l = some (a.map .bl)) (h2 : getL st q = some (b.map .bl)) : eqB st (.loc l) (.loc q) = some (decide (a = b)) := by
  rw [eqB_of (Nc.lst h1 (ncl_bl a st)) (Nc.lst h2 (ncl_bl b st)) (by decide) (by decide), PyData.eqv, eqvAll_bl]
theorem any_bl (b : Bool) : ∀ bs : List Bool, ((bs.map PyData.bool).any fun z => PyData.eqv z (.bool b)) = decide (b ∈ bs)
  | [] => by simp
  | x :: bs => by
    rw [List.map_cons, List.any_cons, any_bl b bs]
    have e : PyData.eqv (.bool x) (.bool b) = decide (b = x) := by cases x <;> cases b <;> rfl
    rw [e]
    by_cases h1 : b = x <;> by_cases h2 : b ∈ bs <;> simp [h1, h2]
theorem in_bls {l : Nat} {bs : List Bool} {b : Bool} (h : getL st l = some (bs.map .bl)) : inB st (.bl b) (.loc l) = some (decide (b ∈ bs)) := by
  rw [inB_lst (Nc.bl b) h (ncl_bl bs st) (by decide) (by decide), any_bl]
theorem sp_word_by {m : Nat} {r : List (List Int)} {L : List (Int × Int)} {p a b : Int} (hm : m ≤ 5) (h : Roll m r) (hp : Pol r L p) (ha : a ∈ R m) (hb : b ∈ R m) (hP : ∀ s, Gr [] st s → P (.str (wrd (seen r L p a b))) s) : Ok (callN T gc 100 (n + 4) "word_by" [rD r, pollD L, .int p, .int a, .int b] [] st) P := by
  have hpos := h.pos
  have hlen := hp.len
  have h5 := hp.five
  have p1 := hp.p1
  have p2 := hp.p2
  have hne : L ≠ [] := fun z => by rw [z] at hlen; simp at hlen; omega
  have hR := cwd_rows hp.lim p
  have hfew : (cwd L p).length ≤ 6 ^ 5 := Nat.le_trans hR.few (Nat.pow_le_pow_right (by decide) (by omega))
  rw [Ok_call (F := g_word_by) rfl rfl]
  simp [g_word_by]
  refine sp_crowds_by hp.lim hne (by omega) (by omega) fun s1 l g1 hl => ?_
  show Ok _ _
  rw [hdM_loc (getL_of hl)]
  refine Ok_compGM (as := cwd L p) (g := tI) (HdIs.ls hl List.not_mem_nil) (by omega) (fun c => .bl (bts r c a b)) (fun c hc s g => ?_) fun s2 g2 => ?_
  · simp [Cr.wipe]
    refine sp_beats_by hm h ha hb fun s3 g3 => ⟨rfl, g3⟩
  have e : ((cwd L p).map fun c => D.bl (bts r c a b)) = (seen r L p a b).map .bl := by unfold seen; rw [List.map_map]; rfl
  rw [e]
  generalize seen r L p a b = bs at hP ⊢
  rw [ltd (by simp)]
  have hq : (s2 ++ [SO.lst (bs.map .bl)])[s2.length]? = some (.lst (bs.map .bl)) := get_app
  have g02 := (g1.trans g2).trans (Gr.app [] s2 [SO.lst (bs.map .bl)])
  revert hq g02
  generalize s2 ++ [SO.lst (bs.map .bl)] = s3
  generalize s2.length = q
  intro hq g02
  have hq2 := (Gr.app [] s3 [SO.lst []]).get hq List.not_mem_nil
  rw [c_eq (eqB_bls (getL_of hq2) (b := []) getL_appL)]
  have g03 := g02.trans (Gr.app [] s3 [SO.lst []])
  by_cases c0 : bs = []
  · rw [decide_eq_true c0]
    simp [gc_w0]
    have := hP _ g03
    unfold wrd at this
    rw [if_pos c0] at this
    exact this
  · rw [decide_eq_false c0]
    simp
    rw [c_nin (in_bls (getL_of hq2))]
    by_cases c1 : false ∈ bs
    · rw [decide_eq_true c1]
      simp
      rw [c_in (in_bls (getL_of hq2))]
      by_cases c2 : true ∈ bs
      · rw [decide_eq_true c2]
        simp [gc_w2]
        have := hP _ g03
        unfold wrd at this
        rw [if_neg c0, if_neg (by simpa using c1), if_pos c2] at this
        exact this
      · rw [decide_eq_false c2]
        simp [gc_w3]
        have := hP _ g03
        unfold wrd at this
        rw [if_neg c0, if_neg (by simpa using c1), if_neg c2] at this
        exact this
    · rw [decide_eq_false c1]
      simp [gc_w1]
      have := hP _ g03
      unfold wrd at this
      rw [if_neg c0, if_pos c1] at this
      exact this
theorem sp_check_thing {m : Nat} {a : Int} (ha : a ∈ R m) : Ok (callN T gc 100 (n + 4) "check_thing" [.int m, .int a] [] st) P ↔ P .non st := by
  have := R_lt ha
  rw [Ok_call (F := g_check_thing) rfl rfl]
  simp [g_check_thing, sp_thing]
  rw [if_neg (by omega)]
  simp
theorem sp_word {m : Nat} {r : List (List Int)} {L : List (Int × Int)} {p a b : Int} (h3 : 3 ≤ m) (hm : m ≤ 5) (h : Roll m r) (hp : Pol r L p) (ha : a ∈ R m) (hb : b ∈ R m) (hab : a ≠ b) (hP : ∀ s, Gr [] st s → P (.str (wrd (seen r L p a b))) s) : Ok (callN T gc 100 (n + 9) "word" [.int m, rD r, pollD L, .int p, .int a, .int b] [] st) P := by
  rw [Ok_call (F := g_word) rfl rfl]
  simp [g_word]
  refine sp_check_polled h3 hm h hp fun s g => ?_
  show Ok _ _
  rw [sp_check_thing ha]
  rw [sp_check_thing hb]
  simp [hab]
  refine sp_word_by hm h hp ha hb fun s2 g2 => ?_
  exact hP s2 (g.trans g2)
theorem sp_law_beats {m : Nat} {r : List (List Int)} {c : List Int} {a b : Int} (hm : m ≤ 5) (h : Roll m r) (hl : c.length = r.length) (ha : a ∈ R m) (hb : b ∈ R m) (hP : ∀ s, Gr [] st s → P (.bl (bts r c a b)) s) : Ok (callN T gc 100 (n + 1) "_law_beats" [rD r, tI c, .int a, .int b] [] st) P := by
  have hfew := h.few
  rw [Ok_call (F := g__law_beats) rfl rfl]
  simp [g__law_beats]
  refine zip_cw (.inl rfl) fun g H => ?_
  refine Ok_compG H (by rw [List.length_zip]; omega) (fun p => if decide (at_ a p.1 < at_ b p.1) then some (.int p.2) else none) (fun p hp s4 g4 => ?_) fun s4 g4 => ?_
  · have hpo := h.ord p.1 (zip_in hp).1
    have f1 := find_at (st := s4) hm hpo (ord_in hpo ha)
    have f2 := find_at (st := s4) hm hpo (ord_in hpo hb)
    simp [Cr.wipe, pq, bt_tp]
    rw [tI] at f1 f2 ⊢
    rw [ki_tup, m_index f1, ki_tup, m_index f2]
    simp
    by_cases c2 : at_ a p.1 < at_ b p.1 <;> simp [c2, Gr.refl]
  · have e1 : (r.zip c).filterMap (fun p => if decide (at_ a p.1 < at_ b p.1) then some (D.int p.2) else none) = ilist (((r.zip c).filter fun p => decide (at_ a p.1 < at_ b p.1)).map (·.2)) := by
      rw [filterMap_if_aux]; unfold ilist; rw [List.map_map]; rfl
    rw [e1, f_sum]
    rw [o_mulL (by decide), tI, it_tup, f_sum, c_gt]
    have e2 : bts r c a b = decide (c.sum < 2 * (((r.zip c).filter fun p => decide (at_ a p.1 < at_ b p.1)).map (·.2)).sum) := by
      unfold bts
      rw [marg_ahead a b r c hl]
      exact decide_eq_decide.mpr (by unfold ahead; omega)
    rw [← e2]
    exact hP s4 g4
theorem sp_law_crowds {L : List (Int × Int)} {p : Int} (h : Lim L) (h5 : L.length ≤ 5) (hP : ∀ s l, Gr [] st s → s[l]? = some (.lst ((cwd L p).map tI)) → P (.loc l) s) : Ok (callN T gc 100 (n + 1) "_law_crowds" [pollD L, .int p] [] st) P := by
  rw [Ok_call (F := g__law_crowds) rfl rfl]
  simp [g__law_crowds]
  rw [bx (by simp), ltd (by simp)]
  have gA := Gr.app [] st [SO.lst [D.tup []]]
  have hqA : (st ++ [SO.lst [D.tup []]])[st.length]? = some (.lst (([[]] : List (List Int)).map tI)) := get_app
  revert gA hqA
  generalize st ++ [SO.lst [D.tup []]] = s0
  intro gA hqA
  refine OkS_for_inv (ls := []) ?_
  simp
  rw [show hdOf (pollD L) s0 = hdOf (.tup (L.map pr2)) s0 from rfl]
  simp
  refine ⟨_, HdIs.its [] (L.map pr2) s0, fun i e s => ∃ q rows x1 x2 x3 x4, e = [some (pollD L), some (.int p), some (.loc q), x1, x2, x3, x4, none] ∧ s[q]? = some (.lst (rows.map tI)) ∧ flr rows (L.drop i) = flr [[]] L ∧ Rows i rows, ⟨st.length, [[]], _, _, _, _, rfl, hqA, rfl, Rows.zero⟩, ?_, ?_⟩
  · rintro i x e s hx g ⟨q, rows, x1, x2, x3, x4, rfl, hq, hpr, hR⟩
    rw [List.getElem?_map] at hx
    have hi : i < L.length := by
      rcases Nat.lt_or_ge i L.length with hi | hi
      · exact hi
      · rw [List.getElem?_eq_none hi] at hx; cases hx
    have hlim := h _ (getD_mem hi (0, 0))
    have hdrop := drop_get hi (0, 0)
    rw [List.getElem?_eq_getElem hi] at hx
    have hql : L.getD i (0, 0) = L[i] := by rw [List.getD_eq_getElem?_getD, List.getElem?_eq_getElem hi]; rfl
    rw [hql] at hlim hdrop
    generalize L[i] = ql at hlim hdrop hx
    cases hx
    simp [pr2, bt_tp]
    rw [ltd (by simp)]
    have gB := Gr.app [] s [SO.lst []]
    have hqB := gB.get hq List.not_mem_nil
    have hlB : (s ++ [SO.lst []])[s.length]? = some (.lst []) := get_app
    have hpow : 6 ^ i ≤ 6 ^ 4 := Nat.pow_le_pow_right (by decide) (by omega)
    have hfew := hR.few
    revert gB hqB hlB
    generalize s ++ [SO.lst []] = s1
    intro gB hqB hlB
    refine OkS_for_inv (ls := []) ?_
    simp
    rw [hdM_loc (getL_of hqB)]
    refine ⟨_, HdIs.ls hqB List.not_mem_nil, fun j e s4 => ∃ lq y1, e = [some (pollD L), some (.int p), some (.loc q), some (.int ql.1), some (.int ql.2), some (.loc lq), y1, none] ∧ s4[lq]? = some (.lst (((rows.take j).flatMap (ext ql)).map tI)), ⟨s.length, _, rfl, by simpa using hlB⟩, ?_, ?_⟩
    · rintro j x e s4 hx g4 ⟨lq, y1, rfl, hl4⟩
      rw [List.getElem?_map] at hx
      cases hrj : rows[j]? with
      | none => rw [hrj] at hx; cases hx
      | some row =>
        rw [hrj] at hx
        cases hx
        simp
        rw [rg_h (rngOk_of (by omega) (by omega)) (rngOk_of (by omega) (by omega))]
        have HR := HdIs.rg [] ql.1 (ql.2 + 1) s4
        rw [rngL_I] at HR
        have hrow := hR.len row (List.mem_of_getElem? hrj)
        refine Ok_compGM (as := rngI ql.1 (ql.2 + 1)) (g := .int) HR (by rw [rngI_len]; omega) (fun o => tI (row ++ [o])) (fun o ho s5 g5 => ?_) fun s5 g5 => ?_
        · simp [Cr.wipe]
          rw [bx (by simp), tI, o_addT (by rw [ilist_len]; simp; omega)]
          exact ⟨by simp [tI, ilist], Gr.refl _ _⟩
        · have e5 : (rngI ql.1 (ql.2 + 1)).map (fun o => tI (row ++ [o])) = (ext ql row).map tI := by
            unfold ext; rw [List.map_map]; rfl
          rw [e5]
          have hl5 := g5.get hl4 List.not_mem_nil
          have hl6 := (Gr.app [] s5 [SO.lst ((ext ql row).map tI)]).get hl5 List.not_mem_nil
          have hc1 := ext_len hlim row
          have hc2 := flat_le (f := ext ql) (k := 6) (rows.take j) fun row _ => ext_len hlim row
          have hc3 : (rows.take j).length ≤ rows.length := by rw [List.length_take]; omega
          rw [o_addL hl6 get_app (by rw [List.length_map, List.length_map]; omega)]
          refine ⟨g5.trans ((Gr.app _ _ _).trans (Gr.app _ _ _)), ?_⟩
          refine ⟨_, rfl, ?_⟩
          rw [get_app, take_succ' hrj, List.flatMap_append]
          simp
    · rintro e s4 g4 ⟨lq, y1, rfl, hl4⟩
      rw [List.length_map, List.take_length] at hl4
      simp
      exact ⟨gB.trans g4, _, hl4, by rw [← hpr, hdrop]; rfl, hR.ext hlim⟩
  · rintro e s g ⟨q, rows, x1, x2, x3, x4, rfl, hq, hpr, hR⟩
    simp
    rw [List.length_map, List.drop_length] at hpr
    have e1 : rows = flr [[]] L := hpr
    rw [hdM_loc (getL_of hq)]
    have hpow : 6 ^ ((L.map pr2).length) ≤ 6 ^ 5 := Nat.pow_le_pow_right (by decide) (by rw [List.length_map]; omega)
    have hfew := hR.few
    refine Ok_compGF (as := rows) (g := tI) (HdIs.ls hq List.not_mem_nil) (by omega) (fun row => decide (row.sum = p)) (fun row hr s2 g2 => ?_) fun s2 g2 => ?_
    · simp [Cr.wipe]
      rw [tI, it_tup, f_sum]
      simp
      by_cases c1 : row.sum = p <;> simp [c1, Gr.refl, tI]
    · rw [show rows.filter (fun row => decide (row.sum = p)) = cwd L p by rw [e1]; rfl]
      exact hP _ _ (((gA.trans g).trans g2).trans (Gr.app _ _ _)) get_app
theorem sp_law_word {m : Nat} {r : List (List Int)} {L : List (Int × Int)} {p a b : Int} (hm : m ≤ 5) (h : Roll m r) (hp : Pol r L p) (ha : a ∈ R m) (hb : b ∈ R m) (hP : ∀ s, Gr [] st s → P (.str (wrd (seen r L p a b))) s) : Ok (callN T gc 100 (n + 2) "_law_word" [rD r, pollD L, .int p, .int a, .int b] [] st) P := by
  have hlen := hp.len
  have h5 := hp.five
  have hR := cwd_rows hp.lim p
  have hfew : (cwd L p).length ≤ 6 ^ 5 := Nat.le_trans hR.few (Nat.pow_le_pow_right (by decide) (by omega))
  rw [Ok_call (F := g__law_word) rfl rfl]
  simp [g__law_word]
  refine sp_law_crowds hp.lim (by omega) fun s1 l g1 hl => ?_
  show Ok _ _
  rw [hdM_loc (getL_of hl)]
  refine Ok_compGM (as := cwd L p) (g := tI) (HdIs.ls hl List.not_mem_nil) (by omega) (fun c => .bl (bts r c a b)) (fun c hc s g => ?_) fun s2 g2 => ?_
  · simp [Cr.wipe]
    refine sp_law_beats hm h (by rw [hR.len c hc, hlen]) ha hb fun s3 g3 => ⟨rfl, g3⟩
  have e : ((cwd L p).map fun c => D.bl (bts r c a b)) = (seen r L p a b).map .bl := by unfold seen; rw [List.map_map]; rfl
  rw [e]
  generalize seen r L p a b = bs at hP ⊢
  rw [ltd (by simp)]
  have hq : (s2 ++ [SO.lst (bs.map .bl)])[s2.length]? = some (.lst (bs.map .bl)) := get_app
  have g02 := (g1.trans g2).trans (Gr.app [] s2 [SO.lst (bs.map .bl)])
  revert hq g02
  generalize s2 ++ [SO.lst (bs.map .bl)] = s3
  generalize s2.length = q
  intro hq g02
  have hq2 := (Gr.app [] s3 [SO.lst []]).get hq List.not_mem_nil
  rw [c_eq (eqB_bls (getL_of hq2) (b := []) getL_appL)]
  have g03 := g02.trans (Gr.app [] s3 [SO.lst []])
  have fin : ∀ w, w = wrd bs → P (.str w) (s3 ++ [SO.lst []]) := fun w e => by rw [e]; exact hP _ g03
  by_cases c0 : bs = []
  · rw [decide_eq_true c0]
    simp
    exact fin _ (by unfold wrd; rw [if_pos c0])
  · rw [decide_eq_false c0]
    simp
    rw [c_nin (in_bls (getL_of hq2))]
    by_cases c1 : false ∈ bs
    · rw [decide_eq_true c1]
      simp
      rw [c_nin (in_bls (getL_of hq2))]
      by_cases c2 : true ∈ bs
      · rw [decide_eq_true c2]
        simp
        exact fin _ (by unfold wrd; rw [if_neg c0, if_neg (by simpa using c1), if_pos c2])
      · rw [decide_eq_false c2]
        simp
        exact fin _ (by unfold wrd; rw [if_neg c0, if_neg (by simpa using c1), if_neg c2])
    · rw [decide_eq_false c1]
      simp
      exact fin _ (by unfold wrd; rw [if_neg c0, if_pos c1])
end Law

set_option maxRecDepth 100000
namespace Law
open PySem L2 Cr
variable {st : Store} {n : Nat} {P : D → Store → Prop}
theorem hd_rD {r : List (List Int)} {PH : Hd → Store → Prop} : Ok (hdOf (rD r) st) PH ↔ PH (.its (tlist r)) st := by
  rw [show hdOf (rD r) st = hdOf (.tup (tlist r)) st from rfl, hd_tup]
theorem lsm_snoc (L : List (Int × Int)) (q : Int × Int) : lsm (L ++ [q]) = lsm L + q.1 := by unfold lsm; simp
theorem sp_law_poll {l m : Nat} {r : List (List Int)} (h : Pl l st) (hr : Roll m r) (hP : ∀ s L, Gr [l] st s → Pl l s → L.length = r.length → Lim L → P (pollD L) s) : Ok (callN T gc 100 (n + 2) "_law_poll" [.loc l, rD r] [] st) P := by
  have hfew := hr.few
  rw [Ok_call (F := g__law_poll) rfl rfl]
  simp [g__law_poll]
  rw [ltd (by simp)]
  have gA := Gr.app [l] st [SO.lst []]
  have hqA : (st ++ [SO.lst []])[st.length]? = some (.lst []) := get_app
  have hlt := h.lt
  have h := h.app [SO.lst []]
  revert gA hqA h
  generalize st ++ [SO.lst []] = s0
  intro gA hqA h
  refine OkS_for_inv (ls := [l, st.length]) ?_
  simp
  rw [hd_rD]
  refine ⟨_, HdIs.its [l, st.length] (tlist r) s0, fun i e s => Pl l s ∧ ∃ L x1 x2, e = [some (.loc l), some (rD r), some (.loc st.length), x1, x2] ∧ s[st.length]? = some (.lst (L.map pr2)) ∧ L.length = i ∧ Lim L, ⟨h, [], _, _, rfl, hqA, rfl, fun q hq => by cases hq⟩, ?_, ?_⟩
  · rintro i x e s hx g ⟨pl, L, x1, x2, rfl, hq, hl, hL⟩
    have hi : i < r.length := by
      have := (List.getElem?_eq_some_iff.mp hx).1
      rwa [tlist_len] at this
    simp
    refine sp_take pl (by omega) (by omega) fun low s1 g1 pl1 b0 b1 => ?_
    show Ok _ _
    have hq1 := g1.get hq (by simp; omega)
    rw [ki_loc hq1]
    refine sp_take pl1 (by omega) (by omega) fun d s2 g2 pl2 d0 d1 => ?_
    show Ok _ _
    have hq2 := g2.get hq1 (by simp; omega)
    rw [o_add]
    rw [f2_min, bx (by simp)]
    have hql : 0 ≤ low ∧ low ≤ (if low + d < 5 then low + d else 5) ∧ (if low + d < 5 then low + d else 5) ≤ 5 := by
      split <;> omega
    generalize (if low + d < 5 then low + d else 5) = high at hql
    rw [m_append hq2 (by rw [List.length_map]; omega)]
    refine ⟨((g1.trans g2).mono (by simp)).trans (Gr.set (by simp)), pl2.setN (by omega), L ++ [(low, high)], ?_, by simp [hl], ?_⟩
    · rw [set_self hq2]; simp [pr2]
    · intro q hq
      rcases List.mem_append.mp hq with hq | hq
      · exact hL q hq
      · rw [List.mem_singleton.mp hq]; exact hql
  · rintro e s g ⟨pl, L, x1, x2, rfl, hq, hl, hL⟩
    rw [tlist_len] at hl
    simp
    rw [itM_loc (getL_of hq)]
    refine hP s L ?_ pl hl hL
    refine ⟨Nat.le_trans gA.1 g.1, fun j hj hn => ?_⟩
    have := (gA.mono (ms := [l, st.length]) (by simp)).trans g
    exact this.2 j hj (by simp; exact ⟨by simpa using hn, by omega⟩)
/-- a small crowd -/
structure Small (n : Nat) (c : List Int) : Prop where
  len : c.length = n
  bd : ∀ i ∈ c, 0 ≤ i ∧ i ≤ 4
  pos : 0 < c.sum
theorem Small.crowd {k : Nat} {c : List Int} (h : Small k c) : Crowd k c := ⟨h.len, fun i hi => by have := h.bd i hi; omega, h.pos⟩
theorem sum_le : ∀ {c : List Int}, (∀ i ∈ c, i ≤ 4) → c.sum ≤ 4 * c.length
  | [], _ => by simp
  | x :: c, h => by
    rw [List.sum_cons, List.length_cons]
    have := h x List.mem_cons_self
    have := sum_le (c := c) fun i hi => h i (List.mem_cons_of_mem _ hi)
    omega
theorem sp_law_crowd {l m : Nat} {r : List (List Int)} (h : Pl l st) (hr : Roll m r) (hP : ∀ s c, Gr [l] st s → Pl l s → Small r.length c → P (tI c) s) : Ok (callN T gc 100 (n + 2) "_law_crowd" [.loc l, rD r, .int 4] [] st) P := by
  have hpos := hr.pos
  have hfew := hr.few
  rw [Ok_call (F := g__law_crowd) rfl rfl]
  simp [g__law_crowd]
  rw [hd_rD]
  refine Ok_comp_inv (HdIs.its [l] (tlist r) st) (by rw [tlist_len]; omega) (fun i acc s => Pl l s ∧ ∃ ns : List Int, acc = ilist ns ∧ ns.length = i ∧ ∀ x ∈ ns, 0 ≤ x ∧ x ≤ 4) ⟨h, [], rfl, rfl, by simp⟩ (fun i x acc s hx g ⟨pl, ns, e1, e2, e3⟩ => ?_) (fun acc s g ⟨pl, ns, e1, e2, e3⟩ => ?_)
  · simp [Cr.wipe]
    refine sp_take pl (by omega) (by omega) fun x s3 g3 pl3 x0 x1 => ?_
    refine ⟨g3, pl3, ns ++ [x], ?_, by simp [e2], ?_⟩
    · rw [e1]; simp [ilist]
    · intro y hy
      rcases List.mem_append.mp hy with hy | hy
      · exact e3 y hy
      · rw [List.mem_singleton.mp hy]; omega
  · subst e1
    rw [tlist_len] at e2
    have hq : (s ++ [SO.lst (ilist ns)])[s.length]? = some (.lst (ilist ns)) := get_app
    have hlt := pl.lt
    have g' := g.trans (Gr.app [l] s [SO.lst (ilist ns)])
    have pl' := pl.app [SO.lst (ilist ns)]
    refine sp_take pl' (by omega) (by omega) fun v s3 g3 pl3 v0 v1 => ?_
    show Ok _ _
    have hq3 := g3.get hq (by simp; omega)
    rw [o_add, len_rD]
    refine sp_take pl3 (by omega) (by omega) fun k s4 g4 pl4 k0 k1 => ?_
    show Ok _ _
    have hq4 := g4.get hq3 (by simp; omega)
    rw [sa_loc hq4 k0 (by rw [ilist_len]; omega)]
    rw [ilist_set]
    have hq5 := set_self (p := .lst (ilist (ns.set k.toNat (1 + v)))) hq4
    rw [itM_loc (getL_of hq5)]
    refine hP _ _ ((g'.trans (g3.trans g4)).setNew (by have := g.1; omega)) (pl4.setN (by omega)) ⟨by rw [List.length_set]; exact e2, fun i hi => ?_, ?_⟩
    · rcases List.mem_or_eq_of_mem_set hi with hi | rfl
      · exact e3 i hi
      · omega
    · rw [sum_set _ _ _ (by omega)]
      have h1 := sum_set ns k.toNat 0 (by omega)
      have h2 : 0 ≤ (ns.set k.toNat 0).sum := sum_pos fun i hi => by
        rcases List.mem_or_eq_of_mem_set hi with hi | rfl
        · exact (e3 i hi).1
        · omega
      omega
theorem sp_beats {m : Nat} {r : List (List Int)} {c : List Int} {a b : Int} (h3 : 3 ≤ m) (hm : m ≤ 5) (h : Roll m r) (hc : Crowd r.length c) (ha : a ∈ R m) (hb : b ∈ R m) (hab : a ≠ b) (hP : ∀ s, Gr [] st s → P (.bl (bts r c a b)) s) : Ok (callN T gc 100 (n + 9) "beats" [.int m, rD r, tI c, .int a, .int b] [] st) P := by
  have := R_lt hb
  rw [Ok_call (F := g_beats) rfl rfl]
  simp [g_beats]
  refine sp_check_crowded h3 hm h hc fun s g => ?_
  show Ok _ _
  rw [sp_check_thing ha]
  rw [sp_thing, decide_eq_true (show 0 ≤ b ∧ b ≤ (m : Int) - 1 by omega)]
  simp
  simp [Ne.symm hab]
  refine sp_beats_by hm h ha hb fun s2 g2 => ?_
  exact hP s2 (g.trans g2)
end Law

set_option maxRecDepth 100000
namespace Law
open PySem L2 Cr
variable {st : Store} {n : Nat} {P : D → Store → Prop}
theorem wrd4 (bs : List Bool) : wrd bs = "none" ∨ wrd bs = "surely" ∨ wrd bs = "maybe" ∨ wrd bs = "never" := by
  unfold wrd
  split
  · exact .inl rfl
  · split
    · exact .inr (.inl rfl)
    · split
      · exact .inr (.inr (.inl rfl))
      · exact .inr (.inr (.inr rfl))
theorem nc_str {w : Str} (h : (PyData.str w).showable = true ∧ (PyData.str w).shown.length ≤ 20 ∧ (PyData.str w).canLay0 = true ∧ (PyData.str w).depth ≤ 1) (s : Store) : Nc s (.str w) (.str w) 20 1 :=
  ⟨fun n hn => by cases n with | zero => omega | succ n => rfl, h.1, h.2.1, h.2.2.1, h.2.2.2⟩
theorem nc_wrd (bs : List Bool) (s : Store) : Nc s (.str (wrd bs)) (.str (wrd bs)) 20 1 := by
  apply nc_str
  rcases wrd4 bs with h | h | h | h <;> rw [h] <;> decide +kernel
theorem two_wrd (bs : List Bool) (s : Store) (q : Nat) (hq : getL s q = some [.str (wrd bs), .str (wrd bs)]) : Nc s (.loc q) (.list [.str (wrd bs), .str (wrd bs)]) 100 2 :=
  (Nc.lst hq (NcL.cons (nc_wrd bs s) (NcL.cons (nc_wrd bs s) NcL.nil))).mono (by decide) (by decide)
theorem eqB_noL {l q : Nat} {ts : List (List Int)} {k : Nat} (h1 : getL st l = some (ts.map tI)) (h2 : getL st q = some []) (hb : ∀ t ∈ ts, t.length ≤ k ∧ ∀ i ∈ t, 0 ≤ i ∧ i < 10) : eqB st (.loc l) (.loc q) = some (decide (ts = [])) := by
  have n1 := Nc.lst h1 (NcL.map (f := tI) (g := pI) (B := k * 3 + 3) (k := 2) fun x hx => (Nc.ints (m := 1) (by decide) (by decide) fun i hi => by have := (hb x hx).2 i hi; omega).mono (by have := (hb x hx).1; omega) (by decide))
  have n2 := Nc.lst h2 NcL.nil
  rw [eqB_of n1 n2 (by decide) (by decide), PyData.eqv]
  rw [show ([] : List PyData) = ([] : List (List Int)).map pI from rfl, eqvAll_pI]
theorem in_two (bs : List Bool) : inB st (.str "none") (.tup [.str "none", .str (wrd bs)]) = some true := by
  rw [inB_tup (nc_str (by decide +kernel) st) (NcL.cons (nc_str (w := "none") (by decide +kernel) st) (NcL.cons (nc_wrd bs st) NcL.nil)) (by decide) (by decide)]
  rfl
theorem mem_R {m : Nat} {a : Int} (h0 : 0 ≤ a) (h1 : a < m) : a ∈ R m := List.mem_map.mpr ⟨a.toNat, List.mem_range.mpr (by omega), by omega⟩
theorem sp_right {l : Nat} (h : Pl l st) (hP : ∀ s, Gr [l] st s → Pl l s → P (.bl true) s) : Ok (callN T gc 100 (n + 10) "_law_right" [.loc l] [] st) P := by
  rw [Ok_call (F := g__law_right) rfl rfl]
  simp [g__law_right]
  refine sp_take h (by omega) (by omega) fun t s1 g1 pl1 t0 t1 => ?_
  show Ok _ _
  obtain ⟨m, em, hm⟩ : ∃ m : Nat, (3 : Int) + t = (m : Int) ∧ m ∈ [3, 4, 5] := by
    refine ⟨(3 + t).toNat, by omega, ?_⟩
    have : t = 0 ∨ t = 1 := by omega
    rcases this with rfl | rfl <;> decide
  obtain ⟨h3, h5⟩ := m5 hm
  rw [o_add, em]
  simp
  refine sp_roll pl1 hm (most := 5) (by decide) (by decide) fun s2 r g2 pl2 hr hrl => ?_
  show Ok _ _
  have hpos := hr.pos
  refine sp_law_poll pl2 hr fun s3 L g3 pl3 hl hL => ?_
  show Ok _ _
  rw [show hdOf (pollD L) s3 = hdOf (.tup (L.map pr2)) s3 from rfl, hd_tup]
  refine Ok_compGM (as := L) (g := pr2) (HdIs.its [] _ _) (by omega) (fun q => .int q.1) (fun q hq s g => ?_) fun s4 g4 => ?_
  · simp [Cr.wipe, pr2, bt_tp, Gr.refl]
  rw [show (L.map fun q => D.int q.1) = ilist (L.map (·.1)) by unfold ilist; rw [List.map_map]; rfl, f_sum]
  refine sp_take (pl3.keep g4) (by omega) (by omega) fun t2 s5 g5 pl5 _ _ => ?_
  show Ok _ _
  rw [o_add]
  simp
  obtain ⟨p, ep, p1, p2⟩ : ∃ p : Int, (if (if 1 < (L.map (·.1)).sum + t2 then (L.map (·.1)).sum + t2 else 1) < 25 then (if 1 < (L.map (·.1)).sum + t2 then (L.map (·.1)).sum + t2 else 1) else 25) = p ∧ 1 ≤ p ∧ p ≤ 25 := by
    refine ⟨_, rfl, ?_, ?_⟩
    · split
      · split <;> omega
      · omega
    · split <;> omega
  rw [ep]
  refine sp_take pl5 (by omega) (by omega) fun a s6 g6 pl6 a0 a1 => ?_
  show Ok _ _
  refine sp_take pl6 (by omega) (by omega) fun b0 s7 g7 pl7 b00 b01 => ?_
  simp [Cr.setAll]
  rw [f_intB, o_add]
  obtain ⟨b, eb, hb0, hb1, hab⟩ : ∃ b : Int, b0 + (if decide (a ≤ b0) = true then (1 : Int) else 0) = b ∧ 0 ≤ b ∧ b < m ∧ a ≠ b := by
    refine ⟨_, rfl, ?_⟩
    by_cases c : a ≤ b0
    · simp [c]; omega
    · simp [c]; omega
  rw [eb]
  have ha : a ∈ R m := mem_R a0 a1
  have hb : b ∈ R m := mem_R hb0 hb1
  have hp : Pol r L p := ⟨hrl, hl, hL, p1, p2⟩
  have g17 : Gr [l] st s7 := (((((g1.trans g2).trans g3).trans g4.nil).trans g5).trans g6).trans g7
  refine sp_law_word h5 hr hp ha hb fun s8 g8 => ?_
  show Ok _ _
  have g18 := g17.trans g8.nil
  have pl8 := pl7.keep g8
  revert g18 pl8
  clear g8 g17 pl7 g1 g2 g3 g4 g5 g6 g7 pl1 pl2 pl3 pl5 pl6
  intro g18 pl8
  generalize hbs : seen r L p a b = bs
  refine sp_word h3 h5 hr hp ha hb hab fun s9 g9 => ?_
  show Ok _ _
  rw [hbs]
  rw [ltd (by simp)]
  have q1 : (s9 ++ [SO.lst [D.str (wrd bs)]])[s9.length]? = some (.lst [D.str (wrd bs)]) := get_app
  have g19 := (g18.trans g9.nil).trans (Gr.app [l] s9 [SO.lst [D.str (wrd bs)]])
  have pl9 := (pl8.keep g9).app [SO.lst [D.str (wrd bs)]]
  revert q1 g19 pl9
  generalize s9 ++ [SO.lst [D.str (wrd bs)]] = s10
  generalize s9.length = lq
  intro q1 g19 pl9
  rw [call_kw (F := g_word) rfl rfl]
  refine sp_word h3 h5 hr hp ha hb hab fun s11 g11 => ?_
  show Ok _ _
  rw [hbs]
  rw [ltd (by simp)]
  have q2 := (g11.trans (Gr.app [] s11 [SO.lst [D.str (wrd bs)]])).get q1 List.not_mem_nil
  rw [o_addL q2 get_app (by simp), show [D.str (wrd bs)] ++ [D.str (wrd bs)] = [D.str (wrd bs), D.str (wrd bs)] from rfl, f_repr (two_wrd bs _ _ getL_appL) (by decide) (by decide), ltd (by simp), f_repr (two_wrd bs _ _ getL_appL) (by decide) (by decide), c_neS]
  simp
  have gk := ((g11.trans (Gr.app [] s11 [SO.lst [D.str (wrd bs)]])).trans (Gr.app [] _ [SO.lst [D.str (wrd bs), D.str (wrd bs)]])).trans (Gr.app [] _ [SO.lst [D.str (wrd bs), D.str (wrd bs)]])
  have g20 := g19.trans gk.nil
  have pl20 := pl9.keep gk
  simp at g20 pl20
  revert g20 pl20
  generalize s11 ++ [SO.lst [D.str (wrd bs)], SO.lst [D.str (wrd bs), D.str (wrd bs)], SO.lst [D.str (wrd bs), D.str (wrd bs)]] = s12
  intro g20 pl20
  clear gk q2 q1 g19 pl9 g11 g9 g18 pl8
  have hbs0 : decide (wrd bs = ("none" : Str)) = decide (cwd L p = []) := by
    rw [wrd_none, ← hbs]
    exact decide_eq_decide.mpr (by unfold seen; rw [List.map_eq_nil_iff])
  have hcw := cwd_rows hL p
  by_cases cs : wrd bs = ("surely" : Str)
  have hnv : wrd (seen r L p b a) = ("never" : Str) := sure_never hL hl hr.ord ha hb hab (by rw [hbs]; exact cs)
  rw [if_pos cs]
  refine sp_word h3 h5 hr hp hb ha (Ne.symm hab) fun s13 g13 => ?_
  show Ok _ _
  rw [hnv, c_neS]
  simp
  have g21 := g20.trans g13.nil
  have pl21 := pl20.keep g13
  clear g13 g20 pl20
  rotate_left
  rw [if_neg cs]
  have g21 := g20
  have pl21 := pl20
  clear g20 pl20
  revert g21 pl21
  generalize s12 = s13
  intro g21 pl21
  all_goals
    rw [hbs0]
    refine sp_law_crowds hL (by omega) fun s14 lc g14 hlc => ?_
    show Ok _ _
    rw [ltd (by simp)]
    have hlc2 := (Gr.app [] s14 [SO.lst []]).get hlc List.not_mem_nil
    rw [c_eq (eqB_noL (k := 5) (getL_of hlc2) getL_appL (fun t ht => ⟨by rw [hcw.len t ht]; omega, fun i hi => by have := hcw.bd t ht i hi; omega⟩)), c_ne eqB_bl]
    simp
    have g22 := (g21.trans g14.nil).trans (Gr.app [l] s14 [SO.lst []])
    have pl22 := (pl21.keep g14).app [SO.lst []]
    revert g22 pl22
    generalize s14 ++ [SO.lst []] = s15
    intro g22 pl22
    refine sp_law_crowd pl22 hr fun s16 c g16 pl16 hc => ?_
    show Ok _ _
    have g23 := g22.trans g16
    have hlen := hc.len
    have hsm := hc.pos
    have hsl : c.sum ≤ 4 * c.length := sum_le fun i hi => (hc.bd i hi).2
    rw [show hdOf (tI c) s16 = hdOf (.tup (ilist c)) s16 from rfl, hd_tup]
    refine Ok_compGM (as := c) (g := .int) (HdIs.its [] (ilist c) s16) (by omega) (fun i => pr2 (i, i)) (fun i hi s g => ?_) fun s17 g17 => ?_
    · simp [Cr.wipe]
      rw [bx (by simp)]
      exact ⟨rfl, Gr.refl _ _⟩
    rw [show D.tup (c.map fun i => pr2 (i, i)) = pollD (c.map fun i => (i, i)) by unfold pollD; rw [List.map_map]; rfl]
    rw [show itemsOf (tI c) s17 = itemsOf (.tup (ilist c)) s17 from rfl, it_tup, f_sum]
    have hLn : Lim (c.map fun i => (i, i)) := fun q hq => by
      obtain ⟨i, hi, rfl⟩ := List.mem_map.mp hq
      have := hc.bd i hi
      exact ⟨this.1, Int.le_refl _, by show i ≤ 5; omega⟩
    have hpn : Pol r (c.map fun i => (i, i)) c.sum := ⟨hrl, by rw [List.length_map]; exact hlen, hLn, by omega, by omega⟩
    have hpn2 : Pol r (c.map fun i => (i, i)) 25 := ⟨hrl, by rw [List.length_map]; exact hlen, hLn, by omega, by omega⟩
    have e1 : seen r (c.map fun i => (i, i)) c.sum a b = [bts r c a b] := by unfold seen; rw [cwd_narrow, if_pos rfl]; rfl
    have e2 : seen r (c.map fun i => (i, i)) 25 a b = [] := by unfold seen; rw [cwd_narrow, if_neg (by omega)]; rfl
    refine sp_word h3 h5 hr hpn ha hb hab fun s18 g18 => ?_
    show Ok _ _
    rw [e1]
    refine sp_beats h3 h5 hr hc.crowd ha hb hab fun s19 g19 => ?_
    show Ok _ _
    rw [tr_bl]
    have g24 := g23.trans ((g17.trans g18).trans g19).nil
    have pl24 := pl16.keep ((g17.trans g18).trans g19)
    cases bts r c a b
    · simp
      rw [show wrd [false] = ("never" : Str) from rfl]
      simp
      refine sp_word h3 h5 hr hpn2 ha hb hab fun s20 g20 => ?_
      show Ok _ _
      rw [e2, show wrd [] = ("none" : Str) from rfl, bx (by simp), c_in (show inB s20 (.str "none") (.tup [.str "none", .str "never"]) = some true from in_two [false])]
      exact hP s20 (g24.trans g20.nil) (pl24.keep g20)
    · simp
      rw [show wrd [true] = ("surely" : Str) from rfl]
      simp
      refine sp_word h3 h5 hr hpn2 ha hb hab fun s20 g20 => ?_
      show Ok _ _
      rw [e2, show wrd [] = ("none" : Str) from rfl, bx (by simp), c_in (show inB s20 (.str "none") (.tup [.str "none", .str "surely"]) = some true from in_two [true])]
      exact hP s20 (g24.trans g20.nil) (pl24.keep g20)
theorem law_ok {ns : List Int} : Ok (callN T gc 100 (n + 12) "law" [.lit ns] [] st) fun d _ => d = .bl true := by
  rw [Ok_call (F := g_law) rfl rfl]
  simp [g_law]
  refine OkS_for_inv (ls := []) ?_
  simp
  have hz : ∃ z : Nat, (if (2 : Int) < if 3 < (ns.length : Int) then 3 else (ns.length : Int) then if 3 < (ns.length : Int) then 3 else (ns.length : Int) else 2) = (z : Int) ∧ z ≤ 3 := by
    by_cases h3 : 3 < (ns.length : Int)
    · rw [if_pos h3]; exact ⟨3, rfl, by omega⟩
    · rw [if_neg h3]
      by_cases h2 : 2 < (ns.length : Int)
      · rw [if_pos h2]; exact ⟨ns.length, rfl, by omega⟩
      · rw [if_neg h2]; exact ⟨2, rfl, by omega⟩
  obtain ⟨z, hz1, hz2⟩ := hz
  rw [hz1, rg_h (by decide) (rngOk_of (by omega) (by omega))]
  refine ⟨_, HdIs.rg [] _ _ _, fun i e s => ∃ x y w, e = [some (.lit ns), x, y, w], ⟨_, _, _, rfl⟩, ?_⟩
  rintro i x e s hx g ⟨a, b, c, rfl⟩
  rw [rngL_get] at hx
  split at hx
  · rename_i hi
    cases hx
    simp
    refine sp_bag (k := i) (by omega) fun s1 l g1 hl pl => ?_
    rw [rg_h (by decide) (rngOk_of (by omega) (by omega))]
    refine Ok_comp_inv (HdIs.rg [l] _ _ _) (by rw [rngL_length]; decide) (fun i acc s => acc = List.replicate i (.bl true) ∧ Pl l s) ⟨rfl, pl⟩ (fun i x acc s hx g2 q => ?_) (fun r s2 g2 q => ?_)
    · obtain ⟨rfl, pl2⟩ := q
      simp [Cr.wipe]
      refine sp_right pl2 fun s3 g3 pl3 => ?_
      refine ⟨g3, ?_, pl3⟩
      rw [List.replicate_succ']
    · obtain ⟨rfl, pl2⟩ := q
      rw [rngL_length]
      have e : fs .all (List.replicate ((10 : Int) - 0).toNat (.bl true)) s2 = .ok (.bl true) s2 := rfl
      show Ok (fs .all _ s2) _
      rw [e]
      simp [Cr.truthy]
      exact Gr_fresh (g1.nil.trans g2) (by simpa using hl)
  · cases hx
theorem holds (ns : List Int) (h : ns.length ≤ 63) : ∃ st, Cr.callN T gc 100 12 "law" [.lit ns] [] [] = .ok (.bl true) st := by
  obtain ⟨d, s, e, rfl⟩ := (law_ok (n := 0) (st := []) (ns := ns)).ex
  exact ⟨s, e⟩

end Law

open PySem PySem.W PyProof.Rows
set_option maxRecDepth 100000 in
set_option maxHeartbeats 0 in
theorem PySem.Challenge.cw_calmrolls_k60_whole_poll_words_holds : PySem.Challenge.rw_calmrolls_k60_whole_poll_words.Holds := by
  w_on; o_law; k_head; (case hw => w_witness2)
  k_fill
  refine Cr.walk_ofG (l := PySem.Challenge.rw_calmrolls_k60_whole_poll_words) (n := 63) (k := 36) (C := { call := Cr.callN Law.T Law.gc 100 12, gc := Law.gc }) (kws := []) rfl (by decide) rfl ⟨rfl, by decide, by decide⟩ (fun w h Y => PySem.W.km_in_of Y) (fun w mg ts H a ns hl hO hT hS => Cr.sp_law (k := 12) (f := "law") hO hT hS (Law.holds ns hl)) ?F
  case F =>
    intro w mg h KX G
    refine' Law.all_mk KX G ?a0 ?l0 ?c0 ?k0 ?a1 ?l1 ?c1 ?k1 ?a2 ?l2 ?c2 ?k2 ?a3 ?l3 ?c3 ?k3 ?a4 ?l4 ?c4 ?k4 ?a5 ?l5 ?c5 ?k5 ?a6 ?l6 ?c6 ?k6 ?a7 ?l7 ?c7 ?k7 ?a8 ?l8 ?c8 ?k8 ?a9 ?l9 ?c9 ?k9 ?a10 ?l10 ?c10 ?k10 ?a11 ?l11 ?c11 ?k11 ?a12 ?l12 ?c12 ?k12 ?a13 ?l13 ?c13 ?k13 ?a14 ?l14 ?c14 ?k14 ?a15 ?l15 ?c15 ?k15 ?a16 ?l16 ?c16 ?k16 ?a17 ?l17 ?c17 ?k17 ?a18 ?l18 ?c18 ?k18 ?a19 ?l19 ?c19 ?k19 ?a20 ?l20 ?c20 ?k20 ?a21 ?l21 ?c21 ?k21 ?a22 ?l22 ?c22 ?k22 ?a23 ?l23 ?c23 ?k23 ?a24 ?l24 ?c24 ?k24 ?a25 ?l25 ?c25 ?k25 ?a26 ?l26 ?c26 ?k26 ?a27 ?l27 ?c27 ?k27 ?a28 ?l28 ?c28 ?k28 ?a29 ?l29 ?c29 ?k29 ?a30 ?l30 ?c30 ?k30 ?a31 ?l31 ?c31 ?k31 ?a32 ?l32 ?c32 ?k32 ?a33 ?l33 ?c33 ?k33 ?a34 ?l34 ?c34 ?k34 ?a35 ?l35 ?c35 ?k35 ?a36 ?l36 ?c36 ?k36 ?a37 ?l37 ?c37 ?k37 ?z0 ?z1 ?z2 ?z3 ?z4 ?z5 ?z6 ?z7 ?z8 ?z9 ?z10 ?z11 ?z12 ?z13 ?z14 ?z15 ?z16 ?z17 ?z18 ?z19 ?gcn0 ?gcn1 ?gcn2 ?gcn3 ?gcn4 ?gcn5 ?gcn6 ?gcn7 ?gcn8 ?gcn9 ?gcn10 ?tt10 ?tn10 ?tr10 ?tt13 ?tn13 ?tr13 ?tt20 ?tn20 ?tr20 ?afw ?lfw ?cfw ?kfw ?tnd 100 12
    (case a0 => k_is); (case l0 => k_is); (case c0 => k_is); (case k0 => k_is)
    (case a1 => k_is); (case l1 => k_is); (case c1 => k_is); (case k1 => k_is)
    (case a2 => k_is); (case l2 => k_is); (case c2 => k_is); (case k2 => k_is)
    (case a3 => k_is); (case l3 => k_is); (case c3 => k_is); (case k3 => k_is)
    (case a4 => k_is); (case l4 => k_is); (case c4 => k_is); (case k4 => k_is)
    (case a5 => k_is); (case l5 => k_is); (case c5 => k_is); (case k5 => k_is)
    (case a6 => k_is); (case l6 => k_is); (case c6 => k_is); (case k6 => k_is)
    (case a7 => k_is); (case l7 => k_is); (case c7 => k_is); (case k7 => k_is)
    (case a8 => k_is); (case l8 => k_is); (case c8 => k_is); (case k8 => k_is)
    (case a9 => k_is); (case l9 => k_is); (case c9 => k_is); (case k9 => k_is)
    (case a10 => k_is); (case l10 => k_is); (case c10 => k_is); (case k10 => k_is)
    (case a11 => k_is); (case l11 => k_is); (case c11 => k_is); (case k11 => k_is)
    (case a12 => k_is); (case l12 => k_is); (case c12 => k_is); (case k12 => k_is)
    (case a13 => k_is); (case l13 => k_is); (case c13 => k_is); (case k13 => k_is)
    (case a14 => k_is); (case l14 => k_is); (case c14 => k_is); (case k14 => k_is)
    (case a15 => k_is); (case l15 => k_is); (case c15 => k_is); (case k15 => k_is)
    (case a16 => k_is); (case l16 => k_is); (case c16 => k_is); (case k16 => k_is)
    (case a17 => k_is); (case l17 => k_is); (case c17 => k_is); (case k17 => k_is)
    (case a18 => k_is); (case l18 => k_is); (case c18 => k_is); (case k18 => k_is)
    (case a19 => k_is); (case l19 => k_is); (case c19 => k_is); (case k19 => k_is)
    (case a20 => k_is); (case l20 => k_is); (case c20 => k_is); (case k20 => k_is)
    (case a21 => k_is); (case l21 => k_is); (case c21 => k_is); (case k21 => k_is)
    (case a22 => k_is); (case l22 => k_is); (case c22 => k_is); (case k22 => k_is)
    (case a23 => k_is); (case l23 => k_is); (case c23 => k_is); (case k23 => k_is)
    (case a24 => k_is); (case l24 => k_is); (case c24 => k_is); (case k24 => k_is)
    (case a25 => k_is); (case l25 => k_is); (case c25 => k_is); (case k25 => k_is)
    (case a26 => k_is); (case l26 => k_is); (case c26 => k_is); (case k26 => k_is)
    (case a27 => k_is); (case l27 => k_is); (case c27 => k_is); (case k27 => k_is)
    (case a28 => k_is); (case l28 => k_is); (case c28 => k_is); (case k28 => k_is)
    (case a29 => k_is); (case l29 => k_is); (case c29 => k_is); (case k29 => k_is)
    (case a30 => k_is); (case l30 => k_is); (case c30 => k_is); (case k30 => k_is)
    (case a31 => k_is); (case l31 => k_is); (case c31 => k_is); (case k31 => k_is)
    (case a32 => k_is); (case l32 => k_is); (case c32 => k_is); (case k32 => k_is)
    (case a33 => k_is); (case l33 => k_is); (case c33 => k_is); (case k33 => k_is)
    (case a34 => k_is); (case l34 => k_is); (case c34 => k_is); (case k34 => k_is)
    (case a35 => k_is); (case l35 => k_is); (case c35 => k_is); (case k35 => k_is)
    (case a36 => k_is); (case l36 => k_is); (case c36 => k_is); (case k36 => k_is)
    (case a37 => k_is); (case l37 => k_is); (case c37 => k_is); (case k37 => k_is)
    (case z0 => k_is); (case z1 => k_is); (case z2 => k_is); (case z3 => k_is)
    (case z4 => k_is); (case z5 => k_is); (case z6 => k_is); (case z7 => k_is)
    (case z8 => k_is); (case z9 => k_is); (case z10 => k_is); (case z11 => k_is)
    (case z12 => k_is); (case z13 => k_is); (case z14 => k_is); (case z15 => k_is)
    (case z16 => k_is); (case z17 => k_is); (case z18 => k_is); (case z19 => k_is)
    (case gcn0 => k_is); (case gcn1 => k_is); (case gcn2 => k_is); (case gcn3 => k_is)
    (case gcn4 => k_is); (case gcn5 => k_is); (case gcn6 => k_is); (case gcn7 => k_is)
    (case gcn8 => k_is); (case gcn9 => k_is); (case gcn10 => k_is); (case tt10 => first | k_is | exact rfl)
    (case tn10 => first | k_is | exact rfl); (case tr10 => exact rfl); (case tt13 => first | k_is | exact rfl); (case tn13 => first | k_is | exact rfl)
    (case tr13 => exact rfl); (case tt20 => first | k_is | exact rfl); (case tn20 => first | k_is | exact rfl); (case tr20 => exact rfl)
    (case afw => k_is); (case lfw => k_is); (case cfw => k_is); (case kfw => k_is)
    (case tnd => decide)

