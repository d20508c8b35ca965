import PyProof.Rows.All
import PyProof.ReprReads
import HandS.Text
import HandS.Lambda
import HandS.Nested
import HandS.HeadHook1
import Wide.All
import OpenK.AllK
import Wide.FinOn
import HandS.ForMost
import HandS.TupMul
import HandS.Wide
import HandS.Deep
import HandS.TupAny
import HandS.SortInts
import HandS.IsInst
import HandS.RaiseMore
import PyProof.P3In
import PyProof.SumWalkG
import PyProof.Rows.RuleB_pow
import HandS.Star
import HandS.Conv
import HandS.Comp
import KE.GoesNew
import HandS.Zip
import HandS.ExcInit
import HandS.ExcSuper
import KE.KExcSuper
import HandS.HeadEnd
import HandS.HeadHook2
import HandS.EndTab
import HandS.Exc
import KE.KExcIs
import KE.KDictItemsList
import PyProof.MinMaxWalk
import HandS.TupLe
import HandS.FltList
import HandS.HeadHook4
import PyProof.ReprLen
import HandS.More
import HandS.Words
import HandS.WordsExc
import HandS.Defaults
import HandS.Head0
import HandS.Head1
import HandS.Head2
import PySem.Challenge.RW_outandshut_k53_arrows_refused
section
set_option linter.all false
set_option maxRecDepth 100000
/-! A small language by values, and what it computes. -/
namespace Mi
open PySem (Str PyData)

/-- what a value tells; lists and dicts bear whether they are held by one name alone (true) -/
inductive D where
  | non | bl (b : Bool) | int (i : Int) | str (s : Str)
  | tup (ds : List D) | lst (o : Bool) (ds : List D) | dct (o : Bool) (ks vs : List D)
  | scr (ds : List D)
  | typ (n : String) | cls (c : String) | exc (c : String) (d : D) | clo (k : Nat) (cs : List D)
  deriving Inhabited

mutual
def D.own : D → Bool
  | .lst o ds => o || ownL ds
  | .tup ds => ownL ds
  | .dct o ks vs => o || (ownL ks || ownL vs)
  | .exc _ d => d.own
  | .clo _ cs => ownL cs
  | .scr ds => ownL ds
  | .non => false
  | .bl _ => false
  | .int _ => false
  | .str _ => false
  | .typ _ => false
  | .cls _ => false
def ownL : List D → Bool
  | [] => false
  | d :: r => d.own || ownL r
end
mutual
def D.frz : D → D
  | .lst _ ds => .lst false (frzL ds)
  | .tup ds => .tup (frzL ds)
  | .dct _ ks vs => .dct false (frzL ks) (frzL vs)
  | .exc c d => .exc c d.frz
  | .clo k cs => .clo k (frzL cs)
  | .scr ds => .scr (frzL ds)
  | .non => .non
  | .bl b => .bl b
  | .int i => .int i
  | .str s => .str s
  | .typ n => .typ n
  | .cls c => .cls c
def frzL : List D → List D
  | [] => []
  | d :: r => d.frz :: frzL r
end
mutual
def D.pd : D → PyData
  | .lst _ ds => .list (pdL ds)
  | .tup ds => .tuple (pdL ds)
  | .bl b => .bool b
  | .int i => .int i
  | .str s => .str s
  | .non => .none
  | .dct _ _ _ => .none
  | .exc _ _ => .none
  | .clo _ _ => .none
  | .scr _ => .none
  | .typ _ => .none
  | .cls _ => .none
def pdL : List D → List PyData
  | [] => []
  | d :: r => d.pd :: pdL r
end
mutual
/-- plain data: no dicts, no classes -/
def D.isPd : D → Bool
  | .lst _ ds => isPdL ds
  | .tup ds => isPdL ds
  | .bl _ => true
  | .int _ => true
  | .str _ => true
  | .non => true
  | .dct _ _ _ => false
  | .exc _ _ => false
  | .clo _ _ => false
  | .scr _ => false
  | .typ _ => false
  | .cls _ => false
def isPdL : List D → Bool
  | [] => true
  | d :: r => d.isPd && isPdL r
end

mutual
/-- no lambdas, no dicts, no classes -/
def D.plain : D → Bool
  | .lst _ ds => plainL ds
  | .tup ds => plainL ds
  | .non => true
  | .bl _ => true
  | .int _ => true
  | .str _ => true
  | .typ _ => true
  | .exc _ d => d.plain
  | .dct _ _ _ => false
  | .clo _ _ => false
  | .scr _ => false
  | .cls _ => false
def plainL : List D → Bool
  | [] => true
  | d :: r => d.plain && plainL r
end

abbrev Env := List (Option D)
def getE (ρ : Env) (i : Nat) : Option D := match ρ[i]? with
  | some o => o
  | none => none

inductive R (α : Type) where
  | ok (a : α) (ρ : Env)
  | exc (c : String) (d : D) (ρ : Env)
  | stk
@[inline] def R.bind {α β : Type} (r : R α) (f : α → Env → R β) : R β := match r with
  | .ok a ρ => f a ρ
  | .exc c d ρ => .exc c d ρ
  | .stk => .stk

def ofOpt {α : Type} (o : Option α) (ρ : Env) : R α := match o with
  | some a => .ok a ρ
  | none => .stk

inductive Op2 where
  | add | sub | mul | fdiv | mod | pow | eq | ne | lt | le | gt | ge | mem | nmem
  deriving DecidableEq
/-- built-ins by name -/
inductive Pr where
  | len | sum | min | max | abs | int | str | repr | sorted | list | tuple | all | any | isi
  deriving DecidableEq
inductive Tg where
  | slot (i : Nat) | tup (ts : List Tg)

mutual
inductive IE where
  | const (d : D) | glob (d : D)
  | var (i : Nat) | mov (i : Nat) | peek (i : Nat) | peekF (i : Nat) | star (e : IE)
  | op (o : Op2) (es : List IE)
  | isn (neg : Bool) (es : List IE)
  | neg (es : List IE)
  | notE (e : IE)
  | chain (o1 o2 : Op2) (es cs : List IE)
  | andE (a b : IE) | orE (a b : IE)
  | ite (c a b : IE)
  | tup (es : List IE) | lst (es : List IE)
  | idx (es : List IE)
  | slc (es lo hi : List IE)
  | cb (p : Pr) (es : List IE)
  | call (f : Nat) (es : List IE)
  | callK (f : Nat) (es : List IE) (perm : List Nat)
  | frz (e : IE)
  | rng (tup : Bool) (es : List IE)
  | lc (vs : List Nat) (tg : Tg) (it : It) (ifs : List IE) (elt : IE)
  | lam (k : Nat)
  | callM (f : Nat) (es : List IE)
  | lcM (ks : List (Nat × List Nat)) (vs : List Nat) (tg : Tg) (i : Nat) (elt : IE)
  | lzip (es : List IE)
  | isx (ex : List String) (es : List IE)
  | fld (ex : List String) (e : IE)
inductive It where
  | seq (es : List IE)
  | range (es : List IE)
  | enum (es : List IE)
  | zip (es : List IE)
end

inductive IS where
  | ex (e : IE)
  | asg (tg : Tg) (e : IE)
  | par (is : List Nat) (es : List IE)
  | seti (i : Nat) (e ix : IE)
  | app (i : Nat) (e : IE)
  | appi (i : Nat) (ix e : IE)
  | ext (i : Nat) (e : IE)
  | aug (i : Nat) (sub : Bool) (e : IE)
  | augi (i : Nat) (sub : Bool) (ix e : IE)
  | ret (e : IE)
  | raise (c : String) (e : IE)
  | ifs (c : IE) (a b : List IS)
  | for_ (tg : Tg) (it : It) (body : List IS)
  | while_ (c : IE) (body : List IS)
  | tryA (ex : List String) (k b i j : Nat)
  | tryR (ex : List String) (k i : Nat)
  | never

/-! ### the operations -/
def SZ : Nat := 16777216
def eqD (a b : D) : Option Bool :=
  if a.isPd && b.isPd && PySem.SeqAt.shaped a.pd && PySem.SeqAt.shaped b.pd then some (PyData.eqv a.pd b.pd) else none
def memD (a : D) (xs : List D) : Option Bool :=
  if a.isPd && isPdL xs && PySem.SeqAt.shaped a.pd && PySem.SeqAt.shaped (.list (pdL xs)) then some ((pdL xs).any fun z => PyData.eqv z a.pd) else none
def mulOk (i j : Int) : Bool := decide (i.natAbs < 18446744073709551616) || decide (j.natAbs < 18446744073709551616)
def addD : D → D → Option D
  | .int i, .int j => some (.int (i + j))
  | .str s, .str t => if s.length + t.length ≤ SZ then some (.str (s ++ t)) else none
  | .lst _ xs, .lst _ ys => if ownL xs || ownL ys then none else if xs.length + ys.length ≤ SZ then some (.lst true (xs ++ ys)) else none
  | .tup xs, .tup ys => if ownL xs || ownL ys then none else if xs.length + ys.length ≤ SZ then some (.tup (xs ++ ys)) else none
  | _, _ => none
def subD : D → D → Option D
  | .int i, .int j => some (.int (i - j))
  | _, _ => none
def mulD : D → D → Option D
  | .int i, .int j => if mulOk i j then some (.int (i * j)) else none
  | .lst _ xs, .int k => if ownL xs then none else if -1000000 < k && k < 1000000 && xs.length * k.toNat ≤ 1000000 then some (.lst true ((List.replicate k.toNat xs).flatten)) else none
  | .tup xs, .int k => if ownL xs then none else if -1000000 < k && k < 1000000 then (if xs.isEmpty || k == 1 then some (.tup xs) else if k ≤ 0 then some (.tup []) else if k ≤ 1000 && decide (xs.length ≤ 1000) then some (.tup ((List.replicate k.toNat xs).flatten)) else none) else none
  | _, _ => none
def fdivD : D → D → Option D
  | .int i, .int j => if 0 < j ∧ j < 1073741824 then some (.int (i / j)) else none
  | _, _ => none
def modD : D → D → Option D
  | .int i, .int j => if 0 < j then some (.int (i % j)) else none
  | _, _ => none
def powD : D → D → Option D
  | .int i, .int j => if 0 ≤ j ∧ j ≤ 1000000 ∧ (i.natAbs.log2 + 1) * j.toNat ≤ 1000000 then some (.int (i ^ j.toNat)) else none
  | _, _ => none
def cmpD (p : Int → Int → Bool) : D → D → Option D
  | .int i, .int j => some (.bl (p i j))
  | _, _ => none
def intsOf : List D → Option (List Int)
  | [] => some []
  | .int i :: r => (intsOf r).map (i :: ·)
  | _ :: _ => none
def ltD : D → D → Option D
  | .int i, .int j => some (.bl (decide (i < j)))
  | .tup xs, .tup ys => (intsOf xs).bind fun a => (intsOf ys).map fun b => .bl (HT.lexLt a b)
  | _, _ => none
def inD (neg : Bool) (a : D) : D → Option D
  | .lst _ xs => (memD a xs).map fun x => .bl (x != neg)
  | .tup xs => (memD a xs).map fun x => .bl (x != neg)
  | _ => none
def op2 (o : Op2) (a b : D) : Option D := match o with
  | .add => addD a b
  | .sub => subD a b
  | .mul => mulD a b
  | .fdiv => fdivD a b
  | .mod => modD a b
  | .pow => powD a b
  | .eq => (eqD a b).map .bl
  | .ne => (eqD a b).map fun x => .bl (!x)
  | .lt => ltD a b
  | .le => cmpD (fun i j => decide (i ≤ j)) a b
  | .gt => cmpD (fun i j => decide (j < i)) a b
  | .ge => cmpD (fun i j => decide (j ≤ i)) a b
  | .mem => inD false a b
  | .nmem => inD true a b
def isNon : D → Bool
  | .non => true
  | _ => false
def itemD (d : D) : Option D := if d.own then none else some d
def idxD : D → D → Option D
  | .lst _ xs, .int i => (L2.atI xs i).bind itemD
  | .tup xs, .int i => (L2.atI xs i).bind itemD
  | .scr xs, .int i => (L2.atI xs i).bind itemD
  | _, _ => none
def cutD (xs : List D) (lo hi : Option Int) : List D := (xs.drop (HT.sIx xs.length 0 lo)).take (HT.sIx xs.length xs.length hi - HT.sIx xs.length 0 lo)
def slcD : D → Option Int → Option Int → Option D
  | .lst _ xs, lo, hi => if ownL xs then none else some (.lst true (cutD xs lo hi))
  | .tup xs, lo, hi => if ownL xs then none else some (.tup (cutD xs lo hi))
  | .scr xs, lo, hi => if ownL xs then none else some (.lst true (cutD xs lo hi))
  | _, _, _ => none
def boolsOf : List D → Option (List Bool)
  | [] => some []
  | .bl i :: r => (boolsOf r).map (i :: ·)
  | _ :: _ => none
def maxI : Int → List Int → Int
  | m, [] => m
  | m, x :: r => maxI (if x > m then x else m) r
def minI : Int → List Int → Int
  | m, [] => m
  | m, x :: r => minI (if x < m then x else m) r
def insI (x : Int) : List Int → List Int
  | [] => [x]
  | y :: r => if x ≤ y then x :: y :: r else y :: insI x r
def sortI : List Int → List Int
  | [] => []
  | x :: r => insI x (sortI r)
def seqOf : D → Option (List D)
  | .lst _ xs => some xs
  | .tup xs => some xs
  | .scr xs => some xs
  | _ => none
/-- isinstance with a built-in class -/
def isiD : D → String → Option Bool
  | .int _, n => some (n == "int")
  | .bl _, n => some (n == "int" || n == "bool")
  | .str _, n => some (n == "str")
  | .non, _ => some false
  | .tup _, n => some (n == "tuple")
  | .lst _ _, n => some (n == "list")
  | _, _ => none
def typeKnown (n : String) : Bool := n == "int" || n == "bool" || n == "str" || n == "tuple" || n == "list" || n == "dict"
def lenD : D → Option D
  | .lst _ xs => some (.int xs.length)
  | .tup xs => some (.int xs.length)
  | .scr xs => some (.int xs.length)
  | .str s => if s.length ≤ SZ then some (.int s.length) else none
  | _ => none
def max1I : D → Option D
  | .lst _ xs => match intsOf xs with
    | some (i :: is) => some (.int (maxI i is))
    | _ => none
  | _ => none
/-- tuples of whole numbers -/
def intsL : List D → Option (List (List Int))
  | [] => some []
  | .tup xs :: r => match intsOf xs, intsL r with
    | some a, some b => some (a :: b)
    | _, _ => none
  | _ :: _ => none
def gtL : List Int → List Int → Bool
  | [], _ => false
  | _ :: _, [] => true
  | x :: xs, y :: ys => if x = y then gtL xs ys else decide (y < x)
def maxT : List Int → List (List Int) → List Int
  | m, [] => m
  | m, x :: r => maxT (if gtL x m then x else m) r
def max1T : D → Option D
  | .lst _ xs => match intsL xs with
    | some (t :: ts) => some (.tup ((maxT t ts).map .int))
    | _ => none
  | _ => none
def max1 (d : D) : Option D := match max1I d with
  | some x => some x
  | none => max1T d
def min1 : D → Option D
  | .lst _ xs => match intsOf xs with
    | some (i :: is) => some (.int (minI i is))
    | _ => none
  | _ => none
def max2D : D → D → Option D
  | .int i, .int j => some (.int (if j > i then j else i))
  | _, _ => none
def min2D : D → D → Option D
  | .int i, .int j => some (.int (if j < i then j else i))
  | _, _ => none
def absD : D → Option D
  | .int i => some (.int (if i < 0 then -i else i))
  | _ => none
def intD : D → Option D
  | .int i => some (.int i)
  | .bl b => some (.int (if b then 1 else 0))
  | _ => none
def reprD (d : D) : Option D := if d.isPd && d.pd.showable && decide (d.pd.depth ≤ 60) && decide (d.pd.shown.length ≤ SZ) then some (.str d.pd.shown) else none
def sumD (d : D) : Option D := ((seqOf d).bind intsOf).map fun is => .int is.sum
def sortedD : D → Option D
  | .lst _ xs => (intsOf xs).map fun is => .lst true ((sortI is).map .int)
  | _ => none
def listD (d : D) : Option D := (seqOf d).bind fun xs => if ownL xs then none else some (.lst true xs)
def tupleD (d : D) : Option D := (seqOf d).bind fun xs => if ownL xs then none else some (.tup xs)
def allD : D → Option D
  | .lst _ xs => (boolsOf xs).map fun bs => .bl (bs.all id)
  | _ => none
def anyD : D → Option D
  | .lst _ xs => (boolsOf xs).map fun bs => .bl (bs.any id)
  | _ => none
def isD (d : D) : D → Option D
  | .typ n => if typeKnown n then (isiD d n).map .bl else none
  | _ => none
def prD : Pr → List D → Option D
  | .len, [d] => lenD d
  | .sum, [d] => sumD d
  | .max, [d] => max1 d
  | .min, [d] => min1 d
  | .max, [d, e] => max2D d e
  | .min, [d, e] => min2D d e
  | .abs, [d] => absD d
  | .int, [d] => intD d
  | .repr, [d] => reprD d
  | .sorted, [d] => sortedD d
  | .list, [d] => listD d
  | .tuple, [d] => tupleD d
  | .all, [d] => allD d
  | .any, [d] => anyD d
  | .isi, [d, t] => isD d t
  | _, _ => none

/-! ### operands -/
inductive OV where
  | val (d : D) | ref (i : Nat)
def OV.get (ρ : Env) : OV → Option D
  | .val d => some d
  | .ref i => getE ρ i
def getAll (ρ : Env) : List OV → Option (List D)
  | [] => some []
  | o :: r => match o.get ρ, getAll ρ r with
    | some d, some ds => some (d :: ds)
    | _, _ => none
def OV.refs : List OV → List Nat
  | [] => []
  | .val _ :: r => OV.refs r
  | .ref i :: r => i :: OV.refs r
def nodupN : List Nat → Bool
  | [] => true
  | i :: r => !r.contains i && nodupN r
/-- behind a call: what the named arguments have become -/
def putBack : List OV → List D → Env → Env
  | .ref i :: r, d :: ds, ρ => putBack r ds (ρ.set i (some d))
  | .val _ :: r, _ :: ds, ρ => putBack r ds ρ
  | _, _, ρ => ρ

inductive FR where
  | ok (d : D) (as : List D)
  | exc (c : String) (d : D) (as : List D)
  | stk
abbrev Fns := Nat → List D → FR

def permL {α : Type} (perm : List Nat) (xs : List α) : List α := perm.filterMap fun i => xs[i]?
def permD (perm : List Nat) (ds : List D) : Option (List D) := if perm.all (fun i => decide (i < ds.length)) then some (permL perm ds) else none
def wipeE : List Nat → Env → Env
  | [], ρ => ρ
  | v :: vs, ρ => (wipeE vs ρ).set v none
def backE (ρ0 : Env) : List Nat → Env → Env
  | [], ρ => ρ
  | v :: vs, ρ => (backE ρ0 vs ρ).set v (getE ρ0 v)
mutual
/-- the target's names (none of them locked) take parts of a value -/
def bindT (lk : List Nat) : Tg → D → Env → Option Env
  | .slot i, d, ρ => if lk.contains i then none else if i < ρ.length then some (ρ.set i (some d)) else none
  | .tup ts, .tup ds, ρ => bindTs lk ts ds ρ
  | .tup _, _, _ => none
def bindTs (lk : List Nat) : List Tg → List D → Env → Option Env
  | [], [], ρ => some ρ
  | t :: ts, d :: ds, ρ => match bindT lk t d ρ with
    | some ρ1 => bindTs lk ts ds ρ1
    | none => none
  | [], _ :: _, _ => none
  | _ :: _, [], _ => none
end
def lcLoop (step : D → Env → R (Option D)) : List D → List D → Env → R (List D)
  | [], acc, ρ => .ok acc.reverse ρ
  | d :: ds, acc, ρ => match step d ρ with
    | .ok (some e) ρ1 => lcLoop step ds (e :: acc) ρ1
    | .ok none ρ1 => lcLoop step ds acc ρ1
    | .exc _ _ _ => .stk
    | .stk => .stk
def rangeD : Nat → Int → Int → List D
  | 0, _, _ => []
  | n + 1, i, s => .int i :: rangeD n (i + s) s
def rangeOk (i : Int) : Bool := decide (-4611686018427387904 ≤ i) && decide (i < 4611686018427387904)
/-- the numbers of range(..) -/
def rangeOf : List D → Option (List D)
  | [.int n] => if rangeOk n && decide (n.toNat ≤ SZ) then some (rangeD n.toNat 0 1) else none
  | [.int a, .int b] => if rangeOk a && rangeOk b && decide ((b - a).toNat ≤ SZ) then some (rangeD (b - a).toNat a 1) else none
  | _ => none
def enumD : Nat → List D → List D
  | _, [] => []
  | n, d :: r => .tup [.int n, d] :: enumD (n + 1) r
def zip2 : List D → List D → List D
  | a :: as, b :: bs => .tup [a, b] :: zip2 as bs
  | _, _ => []
def zip3 : List D → List D → List D → List D
  | a :: as, b :: bs, c :: cs => .tup [a, b, c] :: zip3 as bs cs
  | _, _, _ => []

def seqG : List (List D) → Option (List D)
  | [a] => some a
  | _ => none
def enumG : List (List D) → Option (List D)
  | [a] => some (enumD 0 a)
  | _ => none
def zipG : List (List D) → Option (List D)
  | [a, b] => some (zip2 a b)
  | [a, b, c] => some (zip3 a b c)
  | _ => none
/-- the items of an operand, frozen -/
def itemsOf (ρ : Env) : OV → Option (List D)
  | .val d => (seqOf d).map frzL
  | .ref i => match getE ρ i with
    | some d => if d.own then none else seqOf d
    | none => none
def itemsAll (ρ : Env) : List OV → Option (List (List D))
  | [] => some []
  | o :: r => match itemsOf ρ o, itemsAll ρ r with
    | some d, some ds => some (d :: ds)
    | _, _ => none
/-- the values of some slots: plain, held by nobody -/
def getPl (ρ : Env) : List Nat → Option (List D)
  | [] => some []
  | i :: r => match getE ρ i, getPl ρ r with
    | some d, some ds => if d.plain && !d.own then some (d :: ds) else none
    | _, _ => none
mutual
/-- a frozen value whose open lambdas take with them what they captured -/
def closeD (ks : List (Nat × List Nat)) (ρ : Env) : D → Option D
  | .clo k [] => match ks.lookup k with
    | some is => (getPl ρ is).map fun ds => .clo k (.non :: ds)
    | none => none
  | .clo _ (_ :: _) => none
  | .tup ds => (closeL ks ρ ds).map .tup
  | .lst false ds => (closeL ks ρ ds).map (.lst false)
  | .lst true _ => none
  | .non => some .non
  | .bl b => some (.bl b)
  | .int i => some (.int i)
  | .str s => some (.str s)
  | .typ n => some (.typ n)
  | .exc c d => if d.plain && !d.own then some (.exc c d) else none
  | .dct _ _ _ => none
  | .scr _ => none
  | .cls _ => none
def closeL (ks : List (Nat × List Nat)) (ρ : Env) : List D → Option (List D)
  | [] => some []
  | d :: r => match closeD ks ρ d, closeL ks ρ r with
    | some e, some es => some (e :: es)
    | _, _ => none
end
def unowned (ρ : Env) (vs : List Nat) : Bool := vs.all fun v => match getE ρ v with
  | some d => !d.own
  | none => true

mutual
def ev (Φ : Fns) : IE → Env → R D
  | .const d, ρ => .ok d ρ
  | .glob d, ρ => .ok d ρ
  | .var i, ρ => match getE ρ i with
    | some d => if d.own then .ok d.frz (ρ.set i (some d.frz)) else .ok d ρ
    | none => .stk
  | .mov i, ρ => match getE ρ i with
    | some d => .ok d (ρ.set i none)
    | none => .stk
  | .peek _, _ => .stk
  | .peekF _, _ => .stk
  | .star _, _ => .stk
  | .op o es, ρ => (evs Φ es ρ).bind fun os ρ1 => match getAll ρ1 os with
    | some [a, b] => match op2 o a b with
      | some d => .ok d ρ1
      | none => .stk
    | _ => .stk
  | .isn neg es, ρ => (evs Φ es ρ).bind fun os ρ1 => match getAll ρ1 os with
    | some [a] => .ok (.bl (isNon a != neg)) ρ1
    | _ => .stk
  | .neg es, ρ => (evs Φ es ρ).bind fun os ρ1 => match getAll ρ1 os with
    | some [.int i] => .ok (.int (-i)) ρ1
    | _ => .stk
  | .notE e, ρ => (ev Φ e ρ).bind fun d ρ1 => match d with
    | .bl b => .ok (.bl (!b)) ρ1
    | _ => .stk
  | .chain o1 o2 es cs, ρ => (evs Φ es ρ).bind fun os ρ1 => match getAll ρ1 os with
    | some [a, b] => match op2 o1 a b with
      | some (.bl true) => (evs Φ cs ρ1).bind fun os2 ρ2 => match getAll ρ2 (os ++ os2) with
        | some [_, b2, c] => match op2 o2 b2 c with
          | some (.bl k) => .ok (.bl k) ρ2
          | _ => .stk
        | _ => .stk
      | some (.bl false) => .ok (.bl false) ρ1
      | _ => .stk
    | _ => .stk
  | .andE a b, ρ => (ev Φ a ρ).bind fun d ρ1 => match d with
    | .bl true => ev Φ b ρ1
    | .bl false => .ok (.bl false) ρ1
    | _ => .stk
  | .orE a b, ρ => (ev Φ a ρ).bind fun d ρ1 => match d with
    | .bl true => .ok (.bl true) ρ1
    | .bl false => ev Φ b ρ1
    | _ => .stk
  | .ite c a b, ρ => (ev Φ c ρ).bind fun d ρ1 => match d with
    | .bl true => ev Φ a ρ1
    | .bl false => ev Φ b ρ1
    | _ => .stk
  | .tup es, ρ => (evs Φ es ρ).bind fun os ρ1 => match getAll [] os with
    | some ds => if ds.length ≤ SZ then .ok (.tup ds) ρ1 else .stk
    | none => .stk
  | .lst es, ρ => (evs Φ es ρ).bind fun os ρ1 => match getAll [] os with
    | some ds => if ds.length ≤ SZ then .ok (.lst true ds) ρ1 else .stk
    | none => .stk
  | .idx es, ρ => (evs Φ es ρ).bind fun os ρ1 => match getAll ρ1 os with
    | some [a, b] => match idxD a b with
      | some d => .ok d ρ1
      | none => .stk
    | _ => .stk
  | .slc es lo hi, ρ => (evs Φ es ρ).bind fun os ρ1 => (evB Φ lo ρ1).bind fun l ρ2 => (evB Φ hi ρ2).bind fun u ρ3 => match getAll ρ3 os with
    | some [a] => match slcD a l u with
      | some d => .ok d ρ3
      | none => .stk
    | _ => .stk
  | .cb p es, ρ => (evs Φ es ρ).bind fun os ρ1 => match getAll ρ1 os with
    | some ds => match prD p ds with
      | some d => .ok d ρ1
      | none => .stk
    | none => .stk
  | .call f es, ρ => (evs Φ es ρ).bind fun os ρ1 => match nodupN (OV.refs os), getAll ρ1 os with
    | true, some ds => match Φ f ds with
      | .ok d as => if as.length = ds.length then .ok d (putBack os as ρ1) else .stk
      | .exc c d as => .exc c d (putBack os as ρ1)
      | .stk => .stk
    | _, _ => .stk
  | .callK f es perm, ρ => (evs Φ es ρ).bind fun os ρ1 => match getAll ρ1 os with
    | some ds => if ownL ds then .stk else match permD perm ds with
      | some ds' => match Φ f ds' with
        | .ok d _ => .ok d ρ1
        | .exc c d _ => .exc c d ρ1
        | .stk => .stk
      | none => .stk
    | none => .stk
  | .lam k, ρ => .ok (.clo k []) ρ
  | .callM f es, ρ => (evs Φ es ρ).bind fun os ρ1 => match nodupN (OV.refs os), getAll ρ1 os with
    | true, some ds => if plainL ds then match Φ f ds with
      | .ok d as => if as.length = ds.length ∧ d.plain = true ∧ plainL as = true then .ok d (putBack os as ρ1) else .stk
      | .exc c d as => if d.plain = true ∧ plainL as = true then .exc c d (putBack os as ρ1) else .stk
      | .stk => .stk else .stk
    | _, _ => .stk
  | .lcM ks vs tg i elt, ρ => match getE ρ i with
    | some d => match d.frz with
      | .lst _ xs => match closeL ks (ρ.set i (some d.frz)) xs with
        | some ds => if ds.length ≤ SZ then match lcLoop (fun d ρ2 => match bindT [] tg d (wipeE vs ρ2) with
            | some ρ3 => (ev Φ elt ρ3).bind fun e ρ4 => .ok (some e) ρ4
            | none => .stk) ds [] (List.replicate ρ.length none) with
          | .ok es _ => if plainL es && !ownL es then .ok (.lst true es) (ρ.set i (some d.frz)) else .stk
          | _ => .stk
          else .stk
        | none => .stk
      | _ => .stk
    | none => .stk
  | .lzip es, ρ => (evs Φ es ρ).bind fun os ρ1 => match itemsAll ρ1 os with
    | some [a, b, c] => if a.length = b.length ∧ a.length = c.length ∧ a.length ≤ SZ then .ok (.lst true (zip3 a b c)) ρ1 else .stk
    | _ => .stk
  | .isx ex es, ρ => (evs Φ es ρ).bind fun os ρ1 => match getAll ρ1 os with
    | some [.exc k _, .cls c] => if ex.contains k && ex.contains c then .ok (.bl (k == c)) ρ1 else .stk
    | _ => .stk
  | .fld ex e, ρ => (ev Φ e ρ).bind fun d ρ1 => match d with
    | .exc k x => if ex.contains k && !x.own then .ok x ρ1 else .stk
    | _ => .stk
  | .rng tup es, ρ => (evs Φ es ρ).bind fun os ρ1 => match (getAll ρ1 os).bind rangeOf with
    | some ds => .ok (if tup then .tup ds else .lst true ds) ρ1
    | none => .stk
  | .frz e, ρ => (ev Φ e ρ).bind fun d ρ1 => .ok d.frz ρ1
  | .lc vs tg it ifs elt, ρ => (evIt Φ it ρ).bind fun ds ρ1 =>
    if ds.length ≤ SZ ∧ unowned ρ1 vs = true then
      (lcLoop (fun d ρ2 => match bindT [] tg d (wipeE vs ρ2) with
        | some ρ3 => (evIfs Φ ifs ρ3).bind fun b ρ4 => match b with
          | true => (ev Φ elt ρ4).bind fun e ρ5 => .ok (some e) ρ5
          | false => .ok none ρ4
        | none => .stk) ds [] ρ1).bind fun es ρ6 => .ok (.lst true es) (backE ρ1 vs ρ6)
    else .stk
def evs (Φ : Fns) : List IE → Env → R (List OV)
  | [], ρ => .ok [] ρ
  | .peek i :: es, ρ => match getE ρ i with
    | some _ => (evs Φ es ρ).bind fun os ρ1 => .ok (.ref i :: os) ρ1
    | none => .stk
  | .peekF i :: es, ρ => match getE ρ i with
    | some d => (evs Φ es (ρ.set i (some d.frz))).bind fun os ρ1 => .ok (.ref i :: os) ρ1
    | none => .stk
  | .star e :: es, ρ => (ev Φ e ρ).bind fun d ρ1 => match seqOf d with
    | some ds => if ownL ds then .stk else (evs Φ es ρ1).bind fun os ρ2 => .ok (ds.map .val ++ os) ρ2
    | none => .stk
  | e :: es, ρ => (ev Φ e ρ).bind fun d ρ1 => (evs Φ es ρ1).bind fun os ρ2 => .ok (.val d :: os) ρ2
/-- a bound of a slice -/
def evB (Φ : Fns) : List IE → Env → R (Option Int)
  | [], ρ => .ok none ρ
  | [e], ρ => (ev Φ e ρ).bind fun d ρ1 => match d with
    | .int i => .ok (some i) ρ1
    | _ => .stk
  | _ :: _ :: _, _ => .stk
/-- tests, from the left, up to the first that fails -/
def evIfs (Φ : Fns) : List IE → Env → R Bool
  | [], ρ => .ok true ρ
  | e :: es, ρ => (ev Φ e ρ).bind fun d ρ1 => match d with
    | .bl true => evIfs Φ es ρ1
    | .bl false => .ok false ρ1
    | _ => .stk
/-- what a loop walks through: values that nobody changes -/
def evIt (Φ : Fns) : It → Env → R (List D)
  | .seq es, ρ => (evs Φ es ρ).bind fun os ρ1 => ofOpt ((itemsAll ρ1 os).bind seqG) ρ1
  | .range es, ρ => (evs Φ es ρ).bind fun os ρ1 => ofOpt ((getAll ρ1 os).bind rangeOf) ρ1
  | .enum es, ρ => (evs Φ es ρ).bind fun os ρ1 => ofOpt ((itemsAll ρ1 os).bind enumG) ρ1
  | .zip es, ρ => (evs Φ es ρ).bind fun os ρ1 => ofOpt ((itemsAll ρ1 os).bind zipG) ρ1
end

/-! ### statements -/
inductive SR where
  | nx (ρ : Env) | ret (d : D) (ρ : Env) | exc (c : String) (d : D) (ρ : Env) | stk
def ofR {α : Type} (r : R α) (f : α → Env → SR) : SR := match r with
  | .ok a ρ => f a ρ
  | .exc c d ρ => .exc c d ρ
  | .stk => .stk
def forL (lk : List Nat) (tg : Tg) (body : Env → SR) : List D → Env → SR
  | [], ρ => .nx ρ
  | d :: ds, ρ => match bindT lk tg d ρ with
    | some ρ1 => match body ρ1 with
      | .nx ρ2 => forL lk tg body ds ρ2
      | r => r
    | none => .stk
def whL (c : Env → R D) (body : Env → SR) : Nat → Env → SR
  | 0, _ => .stk
  | n + 1, ρ => match c ρ with
    | .ok (.bl true) ρ1 => match body ρ1 with
      | .nx ρ2 => whL c body n ρ2
      | r => r
    | .ok (.bl false) ρ1 => .nx ρ1
    | .exc c d ρ1 => .exc c d ρ1
    | _ => .stk
def FUEL : Nat := 1000000
def parE (lk : List Nat) : List Nat → List OV → Env → Option Env
  | [], [], ρ => some ρ
  | i :: is, .val d :: os, ρ => if lk.contains i then none else if i < ρ.length then parE lk is os (ρ.set i (some d)) else none
  | _, _, _ => none
def isOwnL : Option D → Bool
  | some (.lst true _) => true
  | _ => false
mutual
def exS (Φ : Fns) (lk : List Nat) : IS → Env → SR
  | .ex e, ρ => ofR (ev Φ e ρ) fun _ ρ1 => .nx ρ1
  | .asg tg e, ρ => ofR (ev Φ e ρ) fun d ρ1 => match bindT lk tg d ρ1 with
    | some ρ2 => .nx ρ2
    | none => .stk
  | .par is es, ρ => ofR (evs Φ es ρ) fun os ρ1 => if os.length ≤ SZ then match parE lk is.reverse os.reverse ρ1 with
      | some ρ2 => .nx ρ2
      | none => .stk
    else .stk
  | .seti i e ix, ρ => ofR (ev Φ e ρ) fun d ρ1 => if isOwnL (getE ρ1 i) then ofR (ev Φ ix ρ1) fun k ρ2 => match getE ρ2 i, k with
      | some (.lst true xs), .int k => match L2.ixN xs.length k with
        | some j => .nx (ρ2.set i (some (.lst true (xs.set j d))))
        | none => .stk
      | _, _ => .stk
    else .stk
  | .app i e, ρ => if isOwnL (getE ρ i) then ofR (ev Φ e ρ) fun d ρ1 => match getE ρ1 i with
      | some (.lst true xs) => if xs.length < SZ then .nx (ρ1.set i (some (.lst true (xs ++ [d])))) else .stk
      | _ => .stk
    else .stk
  | .appi i ix e, ρ => if isOwnL (getE ρ i) then ofR (ev Φ ix ρ) fun k ρ1 => match getE ρ1 i, k with
      | some (.lst true xs), .int k => match L2.ixN xs.length k with
        | some j => match xs[j]? with
          | some (.lst true ys) => ofR (ev Φ e (ρ1.set i none)) fun d ρ2 => if i < ρ2.length ∧ ys.length < SZ then .nx (ρ2.set i (some (.lst true (xs.set j (.lst true (ys ++ [d])))))) else .stk
          | _ => .stk
        | none => .stk
      | _, _ => .stk
    else .stk
  | .ext i e, ρ => if isOwnL (getE ρ i) then ofR (ev Φ e ρ) fun d ρ1 => match getE ρ1 i, d with
      | some (.lst true xs), .lst true ys => if xs.length + ys.length ≤ SZ then .nx (ρ1.set i (some (.lst true (xs ++ ys)))) else .stk
      | _, _ => .stk
    else .stk
  | .aug i sub e, ρ => match getE ρ i with
    | some (.int a) => ofR (ev Φ e ρ) fun d ρ1 => match d with
      | .int b => if i < ρ1.length ∧ lk.contains i = false then .nx (ρ1.set i (some (.int (if sub then a - b else a + b)))) else .stk
      | _ => .stk
    | _ => .stk
  | .augi i sub ix e, ρ => if isOwnL (getE ρ i) then ofR (ev Φ ix ρ) fun k ρ1 => match getE ρ1 i, k with
      | some (.lst true xs), .int k => match L2.atI xs k with
        | some (.int a) => ofR (ev Φ e ρ1) fun d ρ2 => match getE ρ2 i, d with
          | some (.lst true ys), .int b => match L2.ixN ys.length k with
            | some j => .nx (ρ2.set i (some (.lst true (ys.set j (.int (if sub then a - b else a + b))))))
            | none => .stk
          | _, _ => .stk
        | _ => .stk
      | _, _ => .stk
    else .stk
  | .ret e, ρ => ofR (ev Φ e ρ) fun d ρ1 => .ret d ρ1
  | .raise c e, ρ => ofR (ev Φ e ρ) fun d ρ1 => if d.own then .stk else .exc c d ρ1
  | .ifs c a b, ρ => ofR (ev Φ c ρ) fun d ρ1 => match d with
    | .bl true => exSs Φ lk a ρ1
    | .bl false => exSs Φ lk b ρ1
    | _ => .stk
  | .for_ tg it body, ρ => ofR (evIt Φ it ρ) fun ds ρ1 => forL lk tg (exSs Φ lk body) ds ρ1
  | .while_ c body, ρ => whL (ev Φ c) (exSs Φ lk body) FUEL ρ
  | .tryA ex k b i j, ρ => match getE ρ k with
    | some (.clo f (.non :: cs)) => if (plainL cs && !ownL cs && decide (b < ρ.length) && decide (i < ρ.length) && decide (j < ρ.length) && !lk.contains b && !lk.contains i && !lk.contains j) = true then match Φ f cs with
        | .ok d _ => if d.plain && !d.own then .nx (ρ.set b (some d)) else .stk
        | .exc c d _ => if d.plain && !d.own && ex.contains c then .nx ((ρ.set j (some (.exc c d))).set i none) else .stk
        | .stk => .stk
      else .stk
    | _ => .stk
  | .tryR ex k i, ρ => match getE ρ k with
    | some (.clo f (.non :: cs)) => if (plainL cs && !ownL cs && decide (i < ρ.length) && !lk.contains i) = true then match Φ f cs with
        | .ok d _ => if d.plain && !d.own then .nx ρ else .stk
        | .exc c d _ => if d.plain && !d.own && ex.contains c then .ret (.exc c d) (ρ.set i none) else .stk
        | .stk => .stk
      else .stk
    | _ => .stk
  | .never, _ => .stk
def exSs (Φ : Fns) (lk : List Nat) : List IS → Env → SR
  | [], ρ => .nx ρ
  | s :: r, ρ => match exS Φ lk s ρ with
    | .nx ρ1 => exSs Φ lk r ρ1
    | x => x
end

/-! ### functions -/
structure Fd where
  np : Nat
  ns : Nat
  /-- parameters that the body stores anew: frozen at the entry -/
  fz : List Nat
  body : List IS
  /-- a def that makes lambdas -/
  mkr : Bool := false
def frzEnv : List Nat → Env → Env
  | [], ρ => ρ
  | i :: fz, ρ => match getE ρ i with
    | some d => frzEnv fz (ρ.set i (some d.frz))
    | none => frzEnv fz ρ
def lockOf (fd : Fd) : List Nat := (List.range fd.np).filter fun i => !fd.fz.contains i
/-- what the parameters are worth at the end: the frozen ones as at the entry (ρ0), the others as now -/
def outAt (fz : List Nat) : Nat → Nat → Env → Env → Option (List D)
  | _, 0, _, _ => some []
  | i, n + 1, x0 :: ρ0, x :: ρ => match (if fz.contains i then x0 else x), outAt fz (i + 1) n ρ0 ρ with
    | some d, some ds => some (d :: ds)
    | _, _ => none
  | _, _ + 1, _, _ => none
def startE (fd : Fd) (as : List D) : Env := frzEnv fd.fz (as.map some ++ List.replicate (fd.ns - fd.np) none)
def noLam : FR → FR
  | .ok d as => if d.plain && plainL as then .ok d as else .stk
  | .exc c d as => if d.plain && plainL as then .exc c d as else .stk
  | .stk => .stk
def callF0 (Φ : Fns) (fd : Fd) (as : List D) : FR :=
  if as.length = fd.np then
    match exSs Φ (lockOf fd) fd.body (startE fd as) with
    | .nx ρ => match outAt fd.fz 0 fd.np (startE fd as) ρ with
      | some xs => .ok .non xs
      | none => .stk
    | .ret d ρ => match outAt fd.fz 0 fd.np (startE fd as) ρ with
      | some xs => .ok d xs
      | none => .stk
    | .exc c d ρ => match outAt fd.fz 0 fd.np (startE fd as) ρ with
      | some xs => .exc c d xs
      | none => .stk
    | .stk => .stk
  else .stk
def callF (Φ : Fns) (fd : Fd) (as : List D) : FR := if fd.mkr then (if plainL as then noLam (callF0 Φ fd as) else .stk) else callF0 Φ fd as
def runN (P : List Fd) : Nat → Fns
  | 0 => fun _ _ => .stk
  | k + 1 => fun f as => match P[f]? with
    | some fd => callF (runN P k) fd as
    | none => .stk
end Mi
end

section
set_option linter.all false
set_option maxRecDepth 100000
/-! Lambdas and caught exceptions as things on the abstract heap. -/
namespace Mi
open PySem PySem.Spec PyProof.Rows L2 LamX NdefX
/-- the text's lambdas: what stands for the k-th; the names that it captures -/
class LT where
  ok : Nat → Arguments → Expr → Scope → Str → Prop
  caps : Nat → List Str
  /-- the tables of code objects of the defs that make lambdas, the names of what they make -/
  T : List (Addr × Str)
/-- the cells of the frame that runs -/
class Fr where
  cells : List (Str × Addr)
def tru : HO := .ext fun _ => True
def LamO (F : NF) (e : Expr) (pm ctv : Value) : HO := .frz (PySem.W.kla_obj "<lambda>" F.qual F.params e F.scope F.cl pm F.c ctv) tru
theorem LamO.inj {F F' : NF} {e e' : Expr} {pm pm' ctv ctv' : Value} (h : LamO F e pm ctv = LamO F' e' pm' ctv') : F.cl = F'.cl := by
  unfold LamO at h
  have h1 := (HO.frz.inj h).1
  have h2 : Data.func (PySem.W.kla_fn "<lambda>" F.qual F.params e F.scope F.cl pm (.ref F.c) ctv) = Data.func (PySem.W.kla_fn "<lambda>" F'.qual F'.params e' F'.scope F'.cl pm' (.ref F'.c) ctv') := congrArg Obj.data h1
  have h3 := Data.func.inj h2
  exact congrArg FuncData.closure h3
/-- the captured cells are known -/
def CellsF (F : Hp) (cl : List (Str × Addr)) : Prop := ∀ y c, cl.lookup y = some c → ∃ (o : Obj) (x : Option Value), F c = some (.frz o tru) ∧ o.data = .cell x
def Closed (F : Hp) : Prop := ∀ f LF e pm ctv, F f = some (LamO LF e pm ctv) → CellsF F LF.cl
/-- not made as values are -/
def Hard : HO → Prop
  | .tbl _ => True
  | .ext _ => True
  | .frz _ _ => True
  | _ => False
/-- a caught exception of the class cls, its dict at d -/
def ExV (cls : Value) (d : Option Addr) (a : Addr) : HO := .ext fun h => ∃ oe : Obj, h.get? a = some oe ∧ Zc cls d oe ∧ ∃ vs, oe.data = .fields vs
structure InjCl (cl : List (Str × Addr)) : Prop where
  inj : ∀ x y c, cl.lookup x = some c → cl.lookup y = some c → x = y
theorem CellsF.mono {F F' : Hp} {cl : List (Str × Addr)} (h : ∀ b o, F b = some o → F' b = some o) (c : CellsF F cl) : CellsF F' cl := fun y a e => by
  obtain ⟨o, x, h1, h2⟩ := c y a e
  exact ⟨o, x, h _ _ h1, h2⟩
theorem hard_lam {F : NF} {e : Expr} {pm ctv : Value} : Hard (LamO F e pm ctv) := True.intro
/-- a frame without cells that lambdas captured -/
@[reducible] def Fr0 : Fr := ⟨[]⟩
end Mi
end

section
set_option Elab.async false
set_option linter.all false
set_option maxRecDepth 100000
/-! How the values of the small language lie on the abstract heap. -/
namespace Mi
open PySem PySem.Spec PyProof.Rows L2
variable [LT] [Fr]

mutual
/-- v tells d: frozen things and tuples lie on F (they stay), owned lists on H, at the addresses fp -/
def Rep (K : PySem.W.Frag) (F H : Hp) : D → V → List Addr → Prop
  | .non, v, fp => v = .non ∧ fp = []
  | .bl b, v, fp => v = .bl b ∧ fp = []
  | .int i, v, fp => v = .int i ∧ fp = []
  | .str s, v, fp => v = .str s ∧ fp = []
  | .tup ds, v, fp => ∃ a vs, v = .ref a ∧ SqT K F a vs ∧ RepL K F H ds vs fp
  | .lst true ds, v, fp => ∃ a vs fp', v = .ref a ∧ H a = some (.lst vs) ∧ RepL K F H ds vs fp' ∧ fp = a :: fp'
  | .lst false ds, v, fp => ∃ a vs, v = .ref a ∧ F a = some (.lst vs) ∧ RepL K F H ds vs [] ∧ fp = []
  | .typ n, v, fp => v = .ty n ∧ fp = []
  | .scr ds, v, fp => ∃ a vs, v = .ref a ∧ SqL K F a vs ∧ RepL K F H ds vs [] ∧ fp = []
  | .cls c, v, fp => v = .ref (He.ga K (PySem.Str.ofString c)) ∧ fp = []
  | .dct _ _ _, _, _ => False
  | .exc c d, v, fp => ∃ a dx w, v = .ref a ∧ F a = some (ExV (.ref (He.ga K (PySem.Str.ofString c))) (some dx) a) ∧ F dx = some (.xd [("value", w)]) ∧ Rep K F H d w [] ∧ fp = []
  | .clo k cs, v, fp => ∃ f LF e pm ctv vs, v = .ref f ∧ F f = some (LamO LF e pm ctv) ∧ F LF.c = some (LamX.CodeO LF.c LF.qual) ∧ LT.ok k LF.params e LF.scope LF.qual ∧ InjCl LF.cl ∧ RepL K F H cs vs [] ∧ (cs = [] → (∀ y c, LF.cl.lookup y = some c → Fr.cells.lookup y = some c) ∧ ∀ y ∈ LT.caps k, ∃ c, LF.cl.lookup y = some c) ∧
      (cs ≠ [] → CellsF F LF.cl ∧ vs.length = (LT.caps k).length + 1 ∧ ∀ (i : Nat) y w, (LT.caps k)[i]? = some y → vs[i + 1]? = some w → ∃ c o u, LF.cl.lookup y = some c ∧ F c = some (.frz o tru) ∧ o.data = .cell (some u) ∧ RelV w u) ∧ fp = []
def RepL (K : PySem.W.Frag) (F H : Hp) : List D → List V → List Addr → Prop
  | [], vs, fp => vs = [] ∧ fp = []
  | d :: ds, vs, fp => ∃ v vs' f1 f2, vs = v :: vs' ∧ Rep K F H d v f1 ∧ RepL K F H ds vs' f2 ∧ fp = f1 ++ f2
end
variable {K : PySem.W.Frag} {F F' H H' : Hp}

omit [LT] [Fr] in
theorem Same.seqT {K : PySem.W.Frag} {H H' : Hp} {a : Addr} {xs : List V} (e : Same H H') (h : SqT K H a xs) : SqT K H' a xs := by
  rcases h with (h | ⟨o, h⟩) | h
  · exact .inl (.inl (e _ _ h))
  · exact .inl (.inr ⟨o, e _ _ h⟩)
  · exact .inr h

mutual
theorem Rep.mono (hF : Same F F') : ∀ (d : D) (v : V) (fp : List Addr), (∀ a ∈ fp, H' a = H a) → Rep K F H d v fp → Rep K F' H' d v fp
  | .non, v, fp, hH, h => by simpa only [Rep] using h
  | .bl _, v, fp, hH, h => by simpa only [Rep] using h
  | .int _, v, fp, hH, h => by simpa only [Rep] using h
  | .str _, v, fp, hH, h => by simpa only [Rep] using h
  | .typ _, v, fp, hH, h => by simpa only [Rep] using h
  | .tup ds, v, fp, hH, h => by
    simp only [Rep] at h ⊢
    obtain ⟨a, vs, e, hs, hl⟩ := h
    exact ⟨a, vs, e, Same.seqT hF hs, RepL.mono hF ds vs fp hH hl⟩
  | .lst true ds, v, fp, hH, h => by
    simp only [Rep] at h ⊢
    obtain ⟨a, vs, fp', e, hs, hl, rfl⟩ := h
    exact ⟨a, vs, fp', e, by rw [hH a (by simp)]; exact hs, RepL.mono hF ds vs fp' (fun b hb => hH b (by simp [hb])) hl, rfl⟩
  | .lst false ds, v, fp, hH, h => by
    simp only [Rep] at h ⊢
    obtain ⟨a, vs, e, hs, hl, rfl⟩ := h
    exact ⟨a, vs, e, hF _ _ hs, RepL.mono hF ds vs [] (fun b hb => nomatch hb) hl, rfl⟩
  | .scr ds, v, fp, hH, h => by
    simp only [Rep] at h ⊢
    obtain ⟨a, vs, e, hs, hl, rfl⟩ := h
    exact ⟨a, vs, e, Same.seq hF hs, RepL.mono hF ds vs [] (fun b hb => nomatch hb) hl, rfl⟩
  | .cls _, v, fp, hH, h => by simpa only [Rep] using h
  | .dct _ _ _, _, _, _, h => by simp only [Rep] at h
  | .exc c d, v, fp, hH, h => by
    simp only [Rep] at h ⊢
    obtain ⟨a, dx, w, e, h1, h2, h3, rfl⟩ := h
    exact ⟨a, dx, w, e, hF _ _ h1, hF _ _ h2, Rep.mono hF d w [] (fun b hb => nomatch hb) h3, rfl⟩
  | .clo k cs, v, fp, hH, h => by
    simp only [Rep] at h ⊢
    obtain ⟨f, LF, e, pm, ctv, vs, e1, h1, h2, h3, h4, h5, h7, h6, rfl⟩ := h
    refine ⟨f, LF, e, pm, ctv, vs, e1, hF _ _ h1, hF _ _ h2, h3, h4, RepL.mono hF cs vs [] (fun b hb => nomatch hb) h5, h7, fun hn => ?_, rfl⟩
    obtain ⟨a1, a2, a3⟩ := h6 hn
    refine ⟨fun y c q => ?_, a2, fun i y w q1 q2 => ?_⟩
    · obtain ⟨o, x, q1, q2⟩ := a1 y c q
      exact ⟨o, x, hF _ _ q1, q2⟩
    · obtain ⟨c, o, u, q3, q4, q5, q6⟩ := a3 i y w q1 q2
      exact ⟨c, o, u, q3, hF _ _ q4, q5, q6⟩
theorem RepL.mono (hF : Same F F') : ∀ (ds : List D) (vs : List V) (fp : List Addr), (∀ a ∈ fp, H' a = H a) → RepL K F H ds vs fp → RepL K F' H' ds vs fp
  | [], vs, fp, hH, h => by simpa only [RepL] using h
  | d :: ds, vs, fp, hH, h => by
    simp only [RepL] at h ⊢
    obtain ⟨v, vs', f1, f2, e, h1, h2, rfl⟩ := h
    exact ⟨v, vs', f1, f2, e, Rep.mono hF d v f1 (fun a ha => hH a (by simp [ha])) h1, RepL.mono hF ds vs' f2 (fun a ha => hH a (by simp [ha])) h2, rfl⟩
end
mutual
/-- nothing owned: nothing held -/
theorem Rep.noOwn : ∀ (d : D) (v : V) (fp : List Addr), d.own = false → Rep K F H d v fp → fp = []
  | .non, v, fp, _, h => by simp only [Rep] at h; exact h.2
  | .bl _, v, fp, _, h => by simp only [Rep] at h; exact h.2
  | .int _, v, fp, _, h => by simp only [Rep] at h; exact h.2
  | .str _, v, fp, _, h => by simp only [Rep] at h; exact h.2
  | .typ _, v, fp, _, h => by simp only [Rep] at h; exact h.2
  | .tup ds, v, fp, ho, h => by
    simp only [Rep] at h
    obtain ⟨a, vs, e, hs, hl⟩ := h
    exact RepL.noOwn ds vs fp (by simpa only [D.own] using ho) hl
  | .lst true ds, v, fp, ho, h => by simp [D.own] at ho
  | .lst false ds, v, fp, ho, h => by
    simp only [Rep] at h
    obtain ⟨a, vs, e, hs, hl, rfl⟩ := h
    rfl
  | .scr ds, v, fp, ho, h => by
    simp only [Rep] at h
    obtain ⟨a, vs, e, hs, hl, rfl⟩ := h
    rfl
  | .cls _, v, fp, _, h => by simp only [Rep] at h; exact h.2
  | .dct _ _ _, _, _, _, h => by simp only [Rep] at h
  | .exc _ _, _, _, _, h => by
    simp only [Rep] at h
    obtain ⟨a, dx, w, e, h1, h2, h3, e2⟩ := h
    exact e2
  | .clo _ _, _, _, _, h => by
    simp only [Rep] at h
    obtain ⟨f, LF, e, pm, ctv, vs, e1, h1, h2, h3, h4, h5, h7, h6, e2⟩ := h
    exact e2
theorem RepL.noOwn : ∀ (ds : List D) (vs : List V) (fp : List Addr), ownL ds = false → RepL K F H ds vs fp → fp = []
  | [], vs, fp, _, h => by simp only [RepL] at h; exact h.2
  | d :: ds, vs, fp, ho, h => by
    simp only [RepL] at h
    obtain ⟨v, vs', f1, f2, e, h1, h2, rfl⟩ := h
    simp only [ownL, Bool.or_eq_false_iff] at ho
    rw [Rep.noOwn d v f1 ho.1 h1, RepL.noOwn ds vs' f2 ho.2 h2]
    rfl
end
mutual
theorem Rep.frz (hF : Same F F') : ∀ (d : D) (v : V) (fp : List Addr), (∀ a ∈ fp, F' a = H a) → Rep K F H d v fp → Rep K F' H' d.frz v []
  | .non, v, fp, _, h => by simp only [Rep, D.frz] at h ⊢; exact ⟨h.1, trivial⟩
  | .bl _, v, fp, _, h => by simp only [Rep, D.frz] at h ⊢; exact ⟨h.1, trivial⟩
  | .int _, v, fp, _, h => by simp only [Rep, D.frz] at h ⊢; exact ⟨h.1, trivial⟩
  | .str _, v, fp, _, h => by simp only [Rep, D.frz] at h ⊢; exact ⟨h.1, trivial⟩
  | .typ _, v, fp, _, h => by simp only [Rep, D.frz] at h ⊢; exact ⟨h.1, trivial⟩
  | .tup ds, v, fp, hH, h => by
    simp only [Rep, D.frz] at h ⊢
    obtain ⟨a, vs, e, hs, hl⟩ := h
    exact ⟨a, vs, e, Same.seqT hF hs, RepL.frz hF ds vs fp hH hl⟩
  | .lst true ds, v, fp, hH, h => by
    simp only [Rep, D.frz] at h ⊢
    obtain ⟨a, vs, fp', e, hs, hl, rfl⟩ := h
    exact ⟨a, vs, e, (by rw [hH a (by simp)]; exact hs), RepL.frz hF ds vs fp' (fun b hb => hH b (by simp [hb])) hl, trivial⟩
  | .lst false ds, v, fp, hH, h => by
    simp only [Rep, D.frz] at h ⊢
    obtain ⟨a, vs, e, hs, hl, rfl⟩ := h
    exact ⟨a, vs, e, hF _ _ hs, RepL.frz hF ds vs [] (fun b hb => nomatch hb) hl, trivial⟩
  | .scr ds, v, fp, hH, h => by
    simp only [Rep, D.frz] at h ⊢
    obtain ⟨a, vs, e, hs, hl, rfl⟩ := h
    exact ⟨a, vs, e, Same.seq hF hs, RepL.frz hF ds vs [] (fun b hb => nomatch hb) hl, trivial⟩
  | .cls _, v, fp, _, h => by simp only [Rep, D.frz] at h ⊢; exact ⟨h.1, trivial⟩
  | .dct _ _ _, _, _, _, h => by simp only [Rep] at h
  | .exc c d, v, fp, hH, h => by
    simp only [Rep, D.frz] at h ⊢
    obtain ⟨a, dx, w, e, h1, h2, h3, e2⟩ := h
    exact ⟨a, dx, w, e, hF _ _ h1, hF _ _ h2, Rep.frz hF d w [] (fun b hb => nomatch hb) h3, trivial⟩
  | .clo k cs, v, fp, hH, h => by
    simp only [Rep, D.frz] at h ⊢
    obtain ⟨f, LF, e, pm, ctv, vs, e1, h1, h2, h3, h4, h5, h7, h6, e2⟩ := h
    refine ⟨f, LF, e, pm, ctv, vs, e1, hF _ _ h1, hF _ _ h2, h3, h4, RepL.frz hF cs vs [] (fun b hb => nomatch hb) h5, fun z => h7 (by cases cs with
      | nil => rfl
      | cons c cs => simp [frzL] at z), fun hn => ?_, trivial⟩
    obtain ⟨a1, a2, a3⟩ := h6 (fun z => hn (by rw [z]; rfl))
    refine ⟨fun y c q => ?_, a2, fun i y w q1 q2 => ?_⟩
    · obtain ⟨o, x, q1, q2⟩ := a1 y c q
      exact ⟨o, x, hF _ _ q1, q2⟩
    · obtain ⟨c, o, u, q3, q4, q5, q6⟩ := a3 i y w q1 q2
      exact ⟨c, o, u, q3, hF _ _ q4, q5, q6⟩
theorem RepL.frz (hF : Same F F') : ∀ (ds : List D) (vs : List V) (fp : List Addr), (∀ a ∈ fp, F' a = H a) → RepL K F H ds vs fp → RepL K F' H' (frzL ds) vs []
  | [], vs, fp, _, h => by simp only [RepL, frzL] at h ⊢; exact ⟨h.1, trivial⟩
  | d :: ds, vs, fp, hH, h => by
    simp only [RepL, frzL] at h ⊢
    obtain ⟨v, vs', f1, f2, e, h1, h2, rfl⟩ := h
    exact ⟨v, vs', [], [], e, Rep.frz hF d v f1 (fun a ha => hH a (by simp [ha])) h1, RepL.frz hF ds vs' f2 (fun a ha => hH a (by simp [ha])) h2, rfl⟩
end
mutual
theorem D.frz_own : ∀ d : D, d.frz.own = false
  | .non => rfl | .bl _ => rfl | .int _ => rfl | .str _ => rfl | .typ _ => rfl | .cls _ => rfl
  | .tup ds => by simp only [D.frz, D.own]; exact frzL_own ds
  | .lst _ ds => by simp only [D.frz, D.own, Bool.false_or]; exact frzL_own ds
  | .dct _ ks vs => by simp only [D.frz, D.own, Bool.false_or]; rw [frzL_own ks, frzL_own vs]; rfl
  | .exc _ d => by simp only [D.frz, D.own]; exact D.frz_own d
  | .clo _ cs => by simp only [D.frz, D.own]; exact frzL_own cs
  | .scr cs => by simp only [D.frz, D.own]; exact frzL_own cs
theorem frzL_own : ∀ ds : List D, ownL (frzL ds) = false
  | [] => rfl
  | d :: ds => by simp only [frzL, ownL]; rw [D.frz_own d, frzL_own ds]; rfl
end
mutual
theorem D.frz_id : ∀ d : D, d.own = false → d.frz = d
  | .non, _ => rfl | .bl _, _ => rfl | .int _, _ => rfl | .str _, _ => rfl | .typ _, _ => rfl | .cls _, _ => rfl
  | .tup ds, h => by simp only [D.frz]; rw [frzL_id ds (by simpa only [D.own] using h)]
  | .lst o ds, h => by
    simp only [D.own, Bool.or_eq_false_iff] at h
    simp only [D.frz]; rw [frzL_id ds h.2, h.1]
  | .dct o ks vs, h => by
    simp only [D.own, Bool.or_eq_false_iff] at h
    simp only [D.frz]; rw [frzL_id ks h.2.1, frzL_id vs h.2.2, h.1]
  | .exc _ d, h => by simp only [D.frz]; rw [D.frz_id d (by simpa only [D.own] using h)]
  | .clo _ cs, h => by simp only [D.frz]; rw [frzL_id cs (by simpa only [D.own] using h)]
  | .scr cs, h => by simp only [D.frz]; rw [frzL_id cs (by simpa only [D.own] using h)]
theorem frzL_id : ∀ ds : List D, ownL ds = false → frzL ds = ds
  | [], _ => rfl
  | d :: ds, h => by
    simp only [ownL, Bool.or_eq_false_iff] at h
    simp only [frzL]; rw [D.frz_id d h.1, frzL_id ds h.2]
end
mutual
/-- what is held are lists -/
theorem Rep.lists : ∀ (d : D) (v : V) (fp : List Addr), Rep K F H d v fp → ∀ a ∈ fp, ∃ xs, H a = some (.lst xs)
  | .non, v, fp, h => by simp only [Rep] at h; rw [h.2]; exact fun a ha => nomatch ha
  | .bl _, v, fp, h => by simp only [Rep] at h; rw [h.2]; exact fun a ha => nomatch ha
  | .int _, v, fp, h => by simp only [Rep] at h; rw [h.2]; exact fun a ha => nomatch ha
  | .str _, v, fp, h => by simp only [Rep] at h; rw [h.2]; exact fun a ha => nomatch ha
  | .typ _, v, fp, h => by simp only [Rep] at h; rw [h.2]; exact fun a ha => nomatch ha
  | .tup ds, v, fp, h => by
    simp only [Rep] at h
    obtain ⟨a, vs, e, hs, hl⟩ := h
    exact RepL.lists ds vs fp hl
  | .lst true ds, v, fp, h => by
    simp only [Rep] at h
    obtain ⟨a, vs, fp', e, hs, hl, rfl⟩ := h
    intro b hb
    rcases List.mem_cons.mp hb with rfl | hb
    · exact ⟨_, hs⟩
    · exact RepL.lists ds vs fp' hl b hb
  | .lst false ds, v, fp, h => by
    simp only [Rep] at h
    obtain ⟨a, vs, e, hs, hl, rfl⟩ := h
    exact fun a ha => nomatch ha
  | .scr ds, v, fp, h => by
    simp only [Rep] at h
    obtain ⟨a, vs, e, hs, hl, rfl⟩ := h
    exact fun a ha => nomatch ha
  | .cls _, v, fp, h => by simp only [Rep] at h; rw [h.2]; exact fun a ha => nomatch ha
  | .dct _ _ _, _, _, h => by simp only [Rep] at h
  | .exc _ _, _, _, h => by
    simp only [Rep] at h
    obtain ⟨a, dx, w, e, h1, h2, h3, e2⟩ := h
    rw [e2]; exact fun a ha => nomatch ha
  | .clo _ _, _, _, h => by
    simp only [Rep] at h
    obtain ⟨f, LF, e, pm, ctv, vs, e1, h1, h2, h3, h4, h5, h7, h6, e2⟩ := h
    rw [e2]; exact fun a ha => nomatch ha
theorem RepL.lists : ∀ (ds : List D) (vs : List V) (fp : List Addr), RepL K F H ds vs fp → ∀ a ∈ fp, ∃ xs, H a = some (.lst xs)
  | [], vs, fp, h => by simp only [RepL] at h; rw [h.2]; exact fun a ha => nomatch ha
  | d :: ds, vs, fp, h => by
    simp only [RepL] at h
    obtain ⟨v, vs', f1, f2, e, h1, h2, rfl⟩ := h
    intro a ha
    rcases List.mem_append.mp ha with ha | ha
    · exact Rep.lists d v f1 h1 a ha
    · exact RepL.lists ds vs' f2 h2 a ha
end
mutual
/-- plain data, for the library's rules -/
theorem Rep.dp (hs : Same F H) : ∀ (d : D) (v : V) (fp : List Addr), d.isPd = true → Rep K F H d v fp → Dp K H v d.pd
  | .non, v, fp, _, h => by simp only [Rep] at h; rw [h.1]; exact .non
  | .bl b, v, fp, _, h => by simp only [Rep] at h; rw [h.1]; exact .bl b
  | .int i, v, fp, _, h => by simp only [Rep] at h; rw [h.1]; exact .int i
  | .str s, v, fp, _, h => by simp only [Rep] at h; rw [h.1]; exact .str s
  | .tup ds, v, fp, hp, h => by
    simp only [Rep] at h
    obtain ⟨a, vs, rfl, hq, hl⟩ := h
    simp only [D.pd]
    exact .tup (Same.seqT hs hq) (RepL.dp hs ds vs fp (by simpa only [D.isPd] using hp) hl)
  | .lst true ds, v, fp, hp, h => by
    simp only [Rep] at h
    obtain ⟨a, vs, fp', rfl, hq, hl, rfl⟩ := h
    simp only [D.pd]
    exact .lst (SqL.of hq) (RepL.dp hs ds vs fp' (by simpa only [D.isPd] using hp) hl)
  | .lst false ds, v, fp, hp, h => by
    simp only [Rep] at h
    obtain ⟨a, vs, rfl, hq, hl, rfl⟩ := h
    simp only [D.pd]
    exact .lst (SqL.of (hs _ _ hq)) (RepL.dp hs ds vs [] (by simpa only [D.isPd] using hp) hl)
  | .typ _, _, _, hp, _ => by simp [D.isPd] at hp
  | .cls _, _, _, hp, _ => by simp [D.isPd] at hp
  | .dct _ _ _, _, _, hp, _ => by simp [D.isPd] at hp
  | .exc _ _, _, _, hp, _ => by simp [D.isPd] at hp
  | .clo _ _, _, _, hp, _ => by simp [D.isPd] at hp
  | .scr _, _, _, hp, _ => by simp [D.isPd] at hp
theorem RepL.dp (hs : Same F H) : ∀ (ds : List D) (vs : List V) (fp : List Addr), isPdL ds = true → RepL K F H ds vs fp → DpAll K H vs (pdL ds)
  | [], vs, fp, _, h => by simp only [RepL] at h; rw [h.1]; exact .nil
  | d :: ds, vs, fp, hp, h => by
    simp only [RepL] at h
    obtain ⟨v, vs', f1, f2, rfl, h1, h2, rfl⟩ := h
    simp only [isPdL, Bool.and_eq_true] at hp
    exact .cons (Rep.dp hs d v f1 hp.1 h1) (RepL.dp hs ds vs' f2 hp.2 h2)
end
theorem RepL.length : ∀ (ds : List D) (vs : List V) (fp : List Addr), RepL K F H ds vs fp → vs.length = ds.length
  | [], vs, fp, h => by simp only [RepL] at h; rw [h.1]; rfl
  | d :: ds, vs, fp, h => by
    simp only [RepL] at h
    obtain ⟨v, vs', f1, f2, rfl, h1, h2, rfl⟩ := h
    simp only [List.length_cons]; rw [RepL.length ds vs' f2 h2]
theorem RepL.get : ∀ {ds : List D} {vs : List V} {fp : List Addr} (i : Nat) {d : D}, RepL K F H ds vs fp → ds[i]? = some d → ∃ v f, vs[i]? = some v ∧ Rep K F H d v f ∧ ∀ a ∈ f, a ∈ fp
  | [], vs, fp, i, d, h, e => by simp at e
  | d0 :: ds, vs, fp, 0, d, h, e => by
    simp only [RepL] at h
    obtain ⟨v, vs', f1, f2, rfl, h1, h2, rfl⟩ := h
    simp at e; subst e
    exact ⟨v, f1, rfl, h1, fun a ha => by simp [ha]⟩
  | d0 :: ds, vs, fp, i + 1, d, h, e => by
    simp only [RepL] at h
    obtain ⟨v, vs', f1, f2, rfl, h1, h2, rfl⟩ := h
    obtain ⟨v', f, a1, a2, a3⟩ := RepL.get (ds := ds) i h2 (by simpa using e)
    exact ⟨v', f, by simpa using a1, a2, fun a ha => by simp [a3 a ha]⟩
theorem RepL.app : ∀ {ds es : List D} {vs us : List V} {f g : List Addr}, RepL K F H ds vs f → RepL K F H es us g → RepL K F H (ds ++ es) (vs ++ us) (f ++ g)
  | [], es, vs, us, f, g, h1, h2 => by simp only [RepL] at h1; rw [h1.1, h1.2]; simpa using h2
  | d :: ds, es, vs, us, f, g, h1, h2 => by
    simp only [RepL, List.cons_append] at h1 ⊢
    obtain ⟨v, vs', f1, f2, rfl, a1, a2, rfl⟩ := h1
    exact ⟨v, vs' ++ us, f1, f2 ++ g, rfl, a1, RepL.app a2 h2, by simp⟩
theorem RepL.drop : ∀ {ds : List D} {vs : List V} (n : Nat), RepL K F H ds vs [] → RepL K F H (ds.drop n) (vs.drop n) []
  | ds, vs, 0, h => h
  | [], vs, n + 1, h => by simp only [RepL] at h; rw [h.1]; simp [RepL]
  | d :: ds, vs, n + 1, h => by
    simp only [RepL] at h
    obtain ⟨v, vs', f1, f2, rfl, a1, a2, e⟩ := h
    obtain ⟨rfl, rfl⟩ : f1 = [] ∧ f2 = [] := List.append_eq_nil_iff.mp e.symm
    exact RepL.drop (ds := ds) n a2
theorem RepL.take : ∀ {ds : List D} {vs : List V} (n : Nat), RepL K F H ds vs [] → RepL K F H (ds.take n) (vs.take n) []
  | ds, vs, 0, h => by simp [RepL]
  | [], vs, n + 1, h => by simp only [RepL] at h; rw [h.1]; simp [RepL]
  | d :: ds, vs, n + 1, h => by
    simp only [RepL] at h
    obtain ⟨v, vs', f1, f2, rfl, a1, a2, e⟩ := h
    obtain ⟨rfl, rfl⟩ : f1 = [] ∧ f2 = [] := List.append_eq_nil_iff.mp e.symm
    simp only [List.take_succ_cons, RepL]
    exact ⟨v, vs'.take n, [], [], rfl, a1, RepL.take (ds := ds) n a2, rfl⟩
theorem RepL.rep {ds : List D} {vs : List V} (h : RepL K F H ds vs []) : ∀ n : Nat, RepL K F H (List.replicate n ds).flatten (List.replicate n vs).flatten []
  | 0 => by simp [RepL]
  | n + 1 => by
    rw [List.replicate_succ, List.replicate_succ, List.flatten_cons, List.flatten_cons]
    have := RepL.app h (RepL.rep h n)
    simpa using this
theorem Rep.nil {d : D} {v : V} {fp : List Addr} (ho : d.own = false) (h : Rep K F H d v fp) : Rep K F H d v [] := by
  have e := Rep.noOwn d v fp ho h
  subst e
  exact h
theorem RepL.nil {d : List D} {v : List V} {fp : List Addr} (ho : ownL d = false) (h : RepL K F H d v fp) : RepL K F H d v [] := by
  have e := RepL.noOwn d v fp ho h
  subst e
  exact h

/-! ### what an operation that changes nothing hands back -/
structure PrimRes (K : PySem.W.Frag) (F H F' H' : Hp) (d : D) (v : V) (fp : List Addr) : Prop where
  rep : Rep K F' H' d v fp
  fF : Same F F'
  hH : Same H H'
  sub : Same F' H'
  nw : ∀ a ∈ fp, H a = none ∧ F' a = none
  nd : fp.Nodup
  fr : ∀ b o, F' b = some o → F b = some o ∨ H b = none
  nt : ∀ b u, Hard u → F' b = some u → F b = some u
theorem PrimRes.here {d : D} {v : V} (s : Same F H) (h : Rep K F H d v []) : PrimRes K F H F H d v [] :=
  ⟨h, Same.refl _, Same.refl _, s, fun _ ha => (nomatch ha), .nil, fun _ _ e => .inl e, fun _ _ _ e => e⟩
omit [LT] [Fr] in
theorem same_upd {H : Hp} {p : Addr} {o : HO} (hp : H p = none) : Same H (upd H p o) := fun b u e => by
  rw [upd_ne (ne_of_none e hp)]; exact e
omit [LT] [Fr] in
theorem Same.none {F H : Hp} (s : Same F H) {p : Addr} (h : H p = none) : F p = none := Same.free s h
/-- a new list of things that stay -/
theorem PrimRes.newL {ds : List D} {vs : List V} {p : Addr} (s : Same F H) (h : RepL K F H ds vs []) (hp : H p = none) : PrimRes K F H F (upd H p (.lst vs)) (.lst true ds) (.ref p) [p] := by
  refine ⟨?_, Same.refl _, same_upd hp, Same.trans s (same_upd hp), fun a ha => ?_, by simp, fun _ _ e => .inl e, fun _ _ _ e => e⟩
  · simp only [Rep]
    exact ⟨p, vs, [], rfl, upd_same, RepL.mono (Same.refl _) ds vs [] (fun _ h => nomatch h) h, rfl⟩
  · have e : a = p := by simpa using ha
    subst e
    exact ⟨hp, Same.none s hp⟩
/-- a new tuple of things that stay -/
theorem PrimRes.newT {ds : List D} {vs : List V} {p : Addr} (s : Same F H) (h : RepL K F H ds vs []) (hp : H p = none) : PrimRes K F H (upd F p (.tup vs)) (upd H p (.tup vs)) (.tup ds) (.ref p) [] := by
  have fp := Same.none s hp
  refine ⟨?_, same_upd fp, same_upd hp, fun b o e => ?_, fun a ha => (nomatch ha), .nil, fun b o e => ?_, fun b u hu e => ?_⟩
  · simp only [Rep]
    exact ⟨p, vs, rfl, SqT.of upd_same, RepL.mono (same_upd fp) ds vs [] (fun _ h => nomatch h) h⟩
  · by_cases q : b = p
    · subst q; rw [upd_same] at e ⊢; exact e
    · rw [upd_ne q] at e ⊢; exact s b o e
  · by_cases q : b = p
    · subst q; exact .inr hp
    · rw [upd_ne q] at e; exact .inl e
  · by_cases q : b = p
    · subst q; rw [upd_same] at e; cases e; exact hu.elim
    · rw [upd_ne q] at e; exact e
abbrev WRep (K : PySem.W.Frag) (F H : Hp) (d : D) (v : V) : Prop := ∃ fp, Rep K F H d v fp
def WRepL (K : PySem.W.Frag) (F H : Hp) : List D → List V → Prop
  | [], [] => True
  | d :: ds, v :: vs => WRep K F H d v ∧ WRepL K F H ds vs
  | _, _ => False
section
def Soft : HO → Prop := fun u => ∀ o φ, u ≠ .frz o (.ext φ)
mutual
theorem Rep.thin {fr1 fr2 : Fr} (hF : ∀ b u, F b = some u → Soft u → F' b = some u) : ∀ (d : D) (v : V) (fp : List Addr), d.plain = true → (∀ a ∈ fp, H' a = H a) → @Rep _ fr1 K F H d v fp → @Rep _ fr2 K F' H' d v fp
  | .non, v, fp, _, hH, h => by simpa only [Rep] using h
  | .bl _, v, fp, _, hH, h => by simpa only [Rep] using h
  | .int _, v, fp, _, hH, h => by simpa only [Rep] using h
  | .str _, v, fp, _, hH, h => by simpa only [Rep] using h
  | .typ _, v, fp, _, hH, h => by simpa only [Rep] using h
  | .tup ds, v, fp, hp, hH, h => by
    simp only [Rep] at h ⊢
    obtain ⟨a, vs, e, hs, hl⟩ := h
    refine ⟨a, vs, e, ?_, RepL.thin hF ds vs fp (by simpa only [D.plain] using hp) hH hl⟩
    rcases hs with (hs | ⟨o, hs⟩) | hs
    · exact .inl (.inl (hF _ _ hs (fun _ _ z => nomatch z)))
    · exact .inl (.inr ⟨o, hF _ _ hs (fun _ _ z => nomatch z)⟩)
    · exact .inr hs
  | .lst true ds, v, fp, hp, hH, h => by
    simp only [Rep] at h ⊢
    obtain ⟨a, vs, fp', e, hs, hl, rfl⟩ := h
    exact ⟨a, vs, fp', e, by rw [hH a (by simp)]; exact hs, RepL.thin hF ds vs fp' (by simpa only [D.plain] using hp) (fun b hb => hH b (by simp [hb])) hl, rfl⟩
  | .lst false ds, v, fp, hp, hH, h => by
    simp only [Rep] at h ⊢
    obtain ⟨a, vs, e, hs, hl, rfl⟩ := h
    exact ⟨a, vs, e, hF _ _ hs (fun _ _ z => nomatch z), RepL.thin hF ds vs [] (by simpa only [D.plain] using hp) (fun b hb => nomatch hb) hl, rfl⟩
  | .scr ds, v, fp, hp, hH, h => by simp [D.plain] at hp
  | .cls _, _, _, hp, _, _ => by simp [D.plain] at hp
  | .dct _ _ _, _, _, hp, _, _ => by simp [D.plain] at hp
  | .exc c d, v, fp, hp, hH, h => by
    simp only [Rep] at h ⊢
    obtain ⟨a, dx, w, e, h1, h2, h3, rfl⟩ := h
    exact ⟨a, dx, w, e, hF _ _ h1 (fun _ _ z => by unfold ExV at z; cases z), hF _ _ h2 (fun _ _ z => nomatch z), Rep.thin hF d w [] (by simpa only [D.plain] using hp) (fun b hb => nomatch hb) h3, rfl⟩
  | .clo _ _, _, _, hp, _, _ => by simp [D.plain] at hp
theorem RepL.thin {fr1 fr2 : Fr} (hF : ∀ b u, F b = some u → Soft u → F' b = some u) : ∀ (ds : List D) (vs : List V) (fp : List Addr), plainL ds = true → (∀ a ∈ fp, H' a = H a) → @RepL _ fr1 K F H ds vs fp → @RepL _ fr2 K F' H' ds vs fp
  | [], vs, fp, _, hH, h => by simpa only [RepL] using h
  | d :: ds, vs, fp, hp, hH, h => by
    simp only [RepL] at h ⊢
    obtain ⟨v, vs', f1, f2, e, h1, h2, rfl⟩ := h
    simp only [plainL, Bool.and_eq_true] at hp
    exact ⟨v, vs', f1, f2, e, Rep.thin hF d v f1 hp.1 (fun a ha => hH a (by simp [ha])) h1, RepL.thin hF ds vs' f2 hp.2 (fun a ha => hH a (by simp [ha])) h2, rfl⟩
end

end
end Mi
end

section
set_option Elab.async false
set_option linter.all false
set_option maxRecDepth 100000
/-! A tuple times one, times nothing. -/
namespace Mi
open PySem PySem.Spec PyProof.Rows L2
theorem tuple_mulSame (l : Addr) (items : Array Value) (n : Nat) (dd : Option Addr) (sl : Array (Option Value)) (x : Int) (u : Tok) (c0 : (decide (x < -(2 ^ 63)) || decide (x ≥ 2 ^ 63)) = false) (c1 : (items.isEmpty || x == 1) = true) :
    Meets (Builtin.«tuple.__mul__» ⟨[.ref l, .int x u], []⟩) (fun _ R s => s.heap.get? l = some { cls := .type "tuple", dict := dd, data := .seq items n, slots := sl } ∧ R (.ok (.ret (Value.ref l))) s) :=
  .of_wp fun prog w A R s h => by
    obtain ⟨hp, g, d, tk, os⟩ := s
    obtain ⟨hl, h⟩ := h
    have f1 := AutoSeq1.idx_int
    wp_walk using wpAny_loadPart' hl
    repeat (first
      | (refine wpAny_ite_false (decide_eq_false (by rw [c0]; exact Bool.false_ne_true)) ?_; wp_walk using wpAny_loadPart' hl)
      | (refine wpAny_ite_true (decide_eq_true c1) ?_; wp_walk using wpAny_loadPart' hl))
    exact ⟨_, rfl, h⟩
theorem tuple_mulNone (l : Addr) (items : Array Value) (n : Nat) (dd : Option Addr) (sl : Array (Option Value)) (x : Int) (u : Tok) (c0 : (decide (x < -(2 ^ 63)) || decide (x ≥ 2 ^ 63)) = false) (c1 : (items.isEmpty || x == 1) = false) (c2 : (decide (x ≤ 0) || items.isEmpty) = true) :
    Meets (Builtin.«tuple.__mul__» ⟨[.ref l, .int x u], []⟩) (fun _ R s => s.heap.get? l = some { cls := .type "tuple", dict := dd, data := .seq items n, slots := sl } ∧
      R (.ok (.ret (Value.ref s.heap.objs.size))) { s with heap := s.heap.push { cls := Value.type "tuple", data := Data.seq #[] }, toks := s.toks }) :=
  .of_wp fun prog w A R s h => by
    obtain ⟨hp, g, d, tk, os⟩ := s
    obtain ⟨hl, h⟩ := h
    have f1 := AutoSeq1.idx_int
    wp_walk using wpAny_loadPart' hl
    repeat (first
      | (refine wpAny_ite_false (decide_eq_false (by rw [c0]; exact Bool.false_ne_true)) ?_; wp_walk using wpAny_loadPart' hl)
      | (refine wpAny_ite_false (decide_eq_false (by rw [c1]; exact Bool.false_ne_true)) ?_; wp_walk using wpAny_loadPart' hl)
      | (refine wpAny_ite_true (decide_eq_true c2) ?_; wp_walk using wpAny_loadPart' hl))
    exact ⟨_, rfl, h⟩
variable {X : Cx}
/-- a tuple times k: the same where k is one or nothing is in it; the empty tuple where k is not above nothing -/
def rRepU (K : PySem.W.Frag) : R2 := fun x y H Q => ∃ l k xs, x = .ref l ∧ y = .int k ∧ SqT K H l xs ∧ -1000000 < k ∧ k < 1000000 ∧ (((xs = [] ∨ k = 1) ∧ Q (.ref l) H) ∨ (xs ≠ [] ∧ k ≤ 0 ∧ ∀ p, H p = none → Q (.ref p) (upd H p (.tup []))))
theorem op_repU : OpR X (binaryOp .Mult) (rRepU X.K) := by
  intro pins s σ H x y v u Q I rx ry h
  obtain ⟨l, k, xs, rfl, rfl, hT, h1, h2, q⟩ := h
  cases rx
  obtain ⟨t, rfl⟩ := ry
  obtain ⟨its, r, ⟨⟨cls, dd, data, sl⟩, ho, hc, n, hd⟩, hs⟩ := I.tuple hT
  simp only at hc hd
  subst hc hd
  have hle := r.length
  have c0 : (decide (k < -(2 ^ 63)) || decide (k ≥ 2 ^ 63)) = false := by
    rw [decide_eq_false (by omega), decide_eq_false (by omega)] <;> rfl
  have go : ∀ {Q' : Value → Shared → Prop}, wpAny (model X.prog X.w) X.A (call (.builtin "tuple.__mul__") [.ref l, .int k t]) Q' X.xe s → wpAny (model X.prog X.w) X.A (binaryOp .Mult (.ref l) (.int k t)) Q' X.xe s := fun {Q'} h =>
    wpAny_binaryOp_repeat_ref (T := "tuple") (U := "int") (by decide) ⟨_, ho, rfl⟩ (fun s' => typeIs_int s' k t) noFill_tuple_mul F.fills_int_mul F.slot_int_rmul repeat_tuple F.slot_int_index.lookup
      (call_meets F.slot_int_rmul (typeIs_int s k t) F.entry_int_rmul (F.args_int_rmul_2 _ _) (int_rmul_tuple k t l its.toArray n dd sl) ⟨ho, rfl, ⟨_, ho, rfl⟩, h⟩)
  rcases q with ⟨hq, q⟩ | ⟨hne, hk, q⟩
  · have c1 : (its.toArray.isEmpty || k == 1) = true := by
      rcases hq with rfl | rfl
      · have : its = [] := List.eq_nil_of_length_eq_zero (by rw [← hle]; rfl)
        subst this
        rfl
      · simp
    exact go (call_meets F.slot_tuple_mul ⟨_, ho, rfl⟩ F.entry_tuple_mul (F.args_tuple_mul_2 _ _) (tuple_mulSame l its.toArray n dd sl k t c0 c1) ⟨ho, .ref l, H, I, rfl, q⟩)
  · have hi : its.toArray.isEmpty = false := by
      cases its with
      | nil => exact absurd (List.eq_nil_of_length_eq_zero hle) hne
      | cons a b => rfl
    have c1 : (its.toArray.isEmpty || k == 1) = false := by
      rw [hi, Bool.false_or]
      exact beq_eq_false_iff_ne.mpr (by omega)
    have c2 : (decide (k ≤ 0) || its.toArray.isEmpty) = true := by rw [decide_eq_true hk]; rfl
    refine go (call_meets F.slot_tuple_mul ⟨_, ho, rfl⟩ F.entry_tuple_mul (F.args_tuple_mul_2 _ _) (tuple_mulNone l its.toArray n dd sl k t c0 c1 c2) ⟨ho, ?_⟩)
    exact ⟨.ref s.heap.objs.size, upd H s.heap.objs.size (.tup []), I.laid (t' := s.toks) (fun b u e => Heap.get?_push_of_some _ e) (Nat.le_refl _) ⟨by show 0 ≤ sizeLine; decide, [], .nil, ⟨_, Heap.get?_push_size _ rfl, rfl, _, rfl⟩⟩, rfl, q _ (I.hok.fresh (Nat.le_refl _))⟩
end Mi
end

section
set_option Elab.async false
set_option linter.all false
set_option maxRecDepth 100000
/-! Each operation of the small language is what the model does. -/
namespace Mi
open PySem PySem.Spec PyProof.Rows L2
variable [LT] [Fr]
variable {X : Cx}

theorem SZ_eq : SZ = sizeLine := by unfold SZ; decide

/-- an operator's reading -/
def rP2 (K : PySem.W.Frag) (o : Op2) : R2 := fun x y H Q => ∃ F a b d, Same F H ∧ WRep K F H a x ∧ WRep K F H b y ∧ op2 o a b = some d ∧
  ∀ v F' H' fp, PrimRes K F H F' H' d v fp → Q v H'
theorem rep_int {K : PySem.W.Frag} {F H : Hp} {i : Int} {v : V} {fp : List Addr} (h : Rep K F H (.int i) v fp) : v = .int i := by simp only [Rep] at h; exact h.1
theorem rep_bl {K : PySem.W.Frag} {F H : Hp} {i : Bool} {v : V} {fp : List Addr} (h : Rep K F H (.bl i) v fp) : v = .bl i := by simp only [Rep] at h; exact h.1
theorem rep_str {K : PySem.W.Frag} {F H : Hp} {i : Str} {v : V} {fp : List Addr} (h : Rep K F H (.str i) v fp) : v = .str i := by simp only [Rep] at h; exact h.1
theorem rep_non {K : PySem.W.Frag} {F H : Hp} {v : V} {fp : List Addr} (h : Rep K F H .non v fp) : v = .non := by simp only [Rep] at h; exact h.1
theorem rep_lst {K : PySem.W.Frag} {F H : Hp} {o : Bool} {ds : List D} {v : V} {fp : List Addr} (s : Same F H) (h : Rep K F H (.lst o ds) v fp) : ∃ a vs f, v = .ref a ∧ H a = some (.lst vs) ∧ RepL K F H ds vs f := by
  cases o with
  | true =>
    simp only [Rep] at h
    obtain ⟨a, vs, f, e, h1, h2, _⟩ := h
    exact ⟨a, vs, f, e, h1, h2⟩
  | false =>
    simp only [Rep] at h
    obtain ⟨a, vs, e, h1, h2, _⟩ := h
    exact ⟨a, vs, [], e, s _ _ h1, h2⟩
theorem rep_tup {K : PySem.W.Frag} {F H : Hp} {ds : List D} {v : V} {fp : List Addr} (s : Same F H) (h : Rep K F H (.tup ds) v fp) : ∃ a vs, v = .ref a ∧ SqT K F a vs ∧ SqT K H a vs ∧ RepL K F H ds vs fp := by
  simp only [Rep] at h
  obtain ⟨a, vs, e, h1, h2⟩ := h
  exact ⟨a, vs, e, h1, Same.seqT s h1, h2⟩
theorem rep_scr {K : PySem.W.Frag} {F H : Hp} {ds : List D} {v : V} {fp : List Addr} (s : Same F H) (h : Rep K F H (.scr ds) v fp) : ∃ a vs, v = .ref a ∧ SqL K H a vs ∧ RepL K F H ds vs [] := by
  simp only [Rep] at h
  obtain ⟨a, vs, e, h1, h2, _⟩ := h
  exact ⟨a, vs, e, Same.seq s h1, h2⟩
theorem res_int {K : PySem.W.Frag} {F H : Hp} (s : Same F H) (i : Int) : PrimRes K F H F H (.int i) (.int i) [] := .here s (by simp [Rep])
theorem res_bl {K : PySem.W.Frag} {F H : Hp} (s : Same F H) (i : Bool) : PrimRes K F H F H (.bl i) (.bl i) [] := .here s (by simp [Rep])
theorem res_str {K : PySem.W.Frag} {F H : Hp} (s : Same F H) (i : Str) : PrimRes K F H F H (.str i) (.str i) [] := .here s (by simp [Rep])
theorem res_non {K : PySem.W.Frag} {F H : Hp} (s : Same F H) : PrimRes K F H F H .non .non [] := .here s (by simp [Rep])

theorem op_addP : OpR X (binaryOp .Add) (rP2 X.K .add) := by
  intro pins s σ H x y v u Q I rx ry h
  obtain ⟨F, a, b, d, sF, ⟨f1, ra⟩, ⟨f2, rb⟩, e, q⟩ := h
  simp only [op2] at e
  unfold addD at e
  split at e
  · obtain rfl := rep_int ra
    obtain rfl := rep_int rb
    cases e
    exact op_add pins s σ H _ _ v u Q I rx ry ⟨_, _, rfl, rfl, q _ _ _ _ (res_int sF _)⟩
  · rename_i i j
    obtain rfl := rep_str ra
    obtain rfl := rep_str rb
    split at e
    · rename_i hz
      cases e
      exact op_add_str pins s σ H _ _ v u Q I rx ry ⟨_, _, rfl, rfl, by rw [← SZ_eq]; exact hz, q _ _ _ _ (res_str sF _)⟩
    · cases e
  · rename_i o1 xs o2 ys
    obtain ⟨a1, vs1, g1, rfl, h1, l1⟩ := rep_lst sF ra
    obtain ⟨a2, vs2, g2, rfl, h2, l2⟩ := rep_lst sF rb
    split at e
    · cases e
    · rename_i ho
      simp only [Bool.or_eq_true, not_or, Bool.not_eq_true] at ho
      split at e
      · rename_i hz
        cases e
        have k1 := RepL.nil ho.1 l1
        have k2 := RepL.nil ho.2 l2
        refine op_cat pins s σ H _ _ v u Q I rx ry ⟨a1, a2, vs1, vs2, rfl, rfl, h1, h2, ?_, fun p hp => q _ _ _ _ (.newL sF (by simpa using RepL.app k1 k2) hp)⟩
        rw [RepL.length _ _ _ k1, RepL.length _ _ _ k2, ← SZ_eq]
        exact hz
      · cases e
  · rename_i xs ys
    obtain ⟨a1, vs1, rfl, t1, h1, l1⟩ := rep_tup sF ra
    obtain ⟨a2, vs2, rfl, t2, h2, l2⟩ := rep_tup sF rb
    split at e
    · cases e
    · rename_i ho
      simp only [Bool.or_eq_true, not_or, Bool.not_eq_true] at ho
      split at e
      · rename_i hz
        cases e
        have k1 := RepL.nil ho.1 l1
        have k2 := RepL.nil ho.2 l2
        have e1 := RepL.length _ _ _ k1
        have e2 := RepL.length _ _ _ k2
        refine op_catA pins s σ H _ _ v u Q I rx ry ⟨a1, a2, vs1, vs2, rfl, rfl, h1, h2, ?_, fun z => ?_, fun _ z => ?_, fun _ _ p hp => q _ _ _ _ (.newT sF (by simpa using RepL.app k1 k2) hp)⟩
        · rw [e1, e2, ← SZ_eq]
          exact hz
        · subst z
          have : xs = [] := List.length_eq_zero_iff.mp (by simpa using e1.symm)
          subst this
          refine q _ _ _ _ (.here sF ?_)
          simp only [Rep, List.nil_append]
          exact ⟨a2, vs2, rfl, t2, k2⟩
        · subst z
          have : ys = [] := List.length_eq_zero_iff.mp (by simpa using e2.symm)
          subst this
          refine q _ _ _ _ (.here sF ?_)
          simp only [Rep, List.append_nil]
          exact ⟨a1, vs1, rfl, t1, k1⟩
      · cases e
  · cases e
theorem op_subP : OpR X (binaryOp .Sub) (rP2 X.K .sub) := by
  intro pins s σ H x y v u Q I rx ry h
  obtain ⟨F, a, b, d, sF, ⟨f1, ra⟩, ⟨f2, rb⟩, e, q⟩ := h
  simp only [op2] at e
  unfold subD at e
  split at e
  · obtain rfl := rep_int ra
    obtain rfl := rep_int rb
    cases e
    exact op_sub pins s σ H _ _ v u Q I rx ry ⟨_, _, rfl, rfl, q _ _ _ _ (res_int sF _)⟩
  · cases e
theorem op_mulP : OpR X (binaryOp .Mult) (rP2 X.K .mul) := by
  intro pins s σ H x y v u Q I rx ry h
  obtain ⟨F, a, b, d, sF, ⟨f1, ra⟩, ⟨f2, rb⟩, e, q⟩ := h
  simp only [op2] at e
  unfold mulD at e
  split at e
  · obtain rfl := rep_int ra
    obtain rfl := rep_int rb
    split at e
    · rename_i hm
      cases e
      refine op_mul pins s σ H _ _ v u Q I rx ry ⟨_, _, rfl, rfl, ?_, q _ _ _ _ (res_int sF _)⟩
      unfold mulOk at hm
      simp only [Bool.or_eq_true, decide_eq_true_eq] at hm
      unfold CMul
      rcases hm with h | h
      · left; constructor <;> omega
      · right; constructor <;> omega
    · cases e
  · rename_i o xs k
    obtain rfl := rep_int rb
    obtain ⟨a1, vs1, g1, rfl, h1, l1⟩ := rep_lst sF ra
    split at e
    · cases e
    · rename_i ho
      split at e
      · rename_i hz
        cases e
        simp only [Bool.and_eq_true, decide_eq_true_eq] at hz
        have k1 := RepL.nil (by simpa using ho) l1
        refine op_rep pins s σ H _ _ v u Q I rx ry ⟨a1, k, vs1, rfl, rfl, h1, by omega, by omega, ?_, fun p hp => q _ _ _ _ (.newL sF (RepL.rep k1 _) hp)⟩
        rw [RepL.length _ _ _ k1, ← SZ_eq]
        unfold SZ
        omega
      · cases e
  · rename_i xs k
    obtain rfl := rep_int rb
    simp only [Rep] at ra
    obtain ⟨a1, vs1, rfl, h1, l1⟩ := ra
    have hT := Same.seqT sF h1
    split at e
    · cases e
    · rename_i ho
      have k1 := RepL.nil (by simpa using ho) l1
      have hlen := RepL.length _ _ _ k1
      split at e
      · rename_i hz
        simp only [Bool.and_eq_true, decide_eq_true_eq] at hz
        split at e
        · rename_i hc
          cases e
          refine op_repU pins s σ H _ _ v u Q I rx ry ⟨a1, k, vs1, rfl, rfl, hT, hz.1, hz.2, .inl ⟨?_, ?_⟩⟩
          · simp only [Bool.or_eq_true] at hc
            rcases hc with hc | hc
            · left
              have : xs = [] := by simpa using hc
              subst this
              exact List.eq_nil_of_length_eq_zero hlen
            · right
              simpa using hc
          · exact q _ _ _ _ (.here sF (by simp only [Rep]; exact ⟨a1, vs1, rfl, h1, k1⟩))
        · rename_i hc
          have hne : xs ≠ [] ∧ k ≠ 1 := by
            simp only [Bool.or_eq_true, not_or] at hc
            exact ⟨fun z => hc.1 (by simp [z]), fun z => hc.2 (by simp [z])⟩
          have hv : vs1 ≠ [] := fun z => by
            rw [z] at hlen
            exact hne.1 (List.eq_nil_of_length_eq_zero hlen.symm)
          split at e
          · rename_i hk
            cases e
            exact op_repU pins s σ H _ _ v u Q I rx ry ⟨a1, k, vs1, rfl, rfl, hT, hz.1, hz.2, .inr ⟨hv, hk, fun p hp => q _ _ _ _ (.newT sF (by simp [RepL]) hp)⟩⟩
          · split at e
            · rename_i hk hk2
              simp only [Bool.and_eq_true, decide_eq_true_eq] at hk2
              cases e
              exact op_repT pins s σ H _ _ v u Q I rx ry ⟨a1, k, vs1, rfl, rfl, hT, hv, by omega, hk2.1, by omega, fun p hp => q _ _ _ _ (.newT sF (RepL.rep k1 _) hp)⟩
            · cases e
      · cases e
  · cases e
theorem op_fdivP : OpR X (binaryOp .FloorDiv) (rP2 X.K .fdiv) := by
  intro pins s σ H x y v u Q I rx ry h
  obtain ⟨F, a, b, d, sF, ⟨f1, ra⟩, ⟨f2, rb⟩, e, q⟩ := h
  simp only [op2] at e
  unfold fdivD at e
  split at e
  · obtain rfl := rep_int ra
    obtain rfl := rep_int rb
    split at e
    · rename_i hz
      cases e
      exact op_fdiv pins s σ H _ _ v u Q I rx ry ⟨_, _, rfl, rfl, hz, q _ _ _ _ (res_int sF _)⟩
    · cases e
  · cases e
theorem op_modP : OpR X (binaryOp .Mod) (rP2 X.K .mod) := by
  intro pins s σ H x y v u Q I rx ry h
  obtain ⟨F, a, b, d, sF, ⟨f1, ra⟩, ⟨f2, rb⟩, e, q⟩ := h
  simp only [op2] at e
  unfold modD at e
  split at e
  · obtain rfl := rep_int ra
    obtain rfl := rep_int rb
    split at e
    · rename_i hz
      cases e
      exact op_mod pins s σ H _ _ v u Q I rx ry ⟨_, _, rfl, rfl, hz, q _ _ _ _ (res_int sF _)⟩
    · cases e
  · cases e
theorem intBits_log (x : Int) : Builtin.Int.intBits x ≤ x.natAbs.log2 + 1 := by
  unfold Builtin.Int.intBits
  split <;> omega
theorem op_powP : OpR X (binaryOp .Pow) (rP2 X.K .pow) := by
  intro pins s σ H x y v u Q I rx ry h
  obtain ⟨F, a, b, d, sF, ⟨f1, ra⟩, ⟨f2, rb⟩, e, q⟩ := h
  simp only [op2] at e
  unfold powD at e
  split at e
  · rename_i i j
    obtain rfl := rep_int ra
    obtain rfl := rep_int rb
    obtain ⟨t1, rfl⟩ := rx
    obtain ⟨t2, rfl⟩ := ry
    split at e
    · rename_i hz
      cases e
      obtain ⟨h0, h1, h2⟩ := hz
      refine pow_int h0 ?_ ⟨.int _, H, I.tok _, ⟨_, rfl⟩, q _ _ _ _ (res_int sF _)⟩
      have hb := intBits_log i
      have h3 : Builtin.Int.intBits i * j.toNat ≤ 1000000 := Nat.le_trans (Nat.mul_le_mul_right _ hb) h2
      have h4 : ((Builtin.Int.intBits i : Nat) : Int) * j = ((Builtin.Int.intBits i * j.toNat : Nat) : Int) := by
        rw [Int.natCast_mul, Int.toNat_of_nonneg h0]
      rw [h4]
      exact Int.le_trans (Int.ofNat_le.mpr h3) (by decide)
    · cases e
  · cases e
theorem op_cmpP {op : CmpOp} {p : Int → Int → Bool} {o : Op2} (ho : OpR X (compareOp op) (rI0 fun i j => .bl (p i j))) (e0 : ∀ a b, op2 o a b = cmpD p a b) : OpR X (compareOp op) (rP2 X.K o) := by
  intro pins s σ H x y v u Q I rx ry h
  obtain ⟨F, a, b, d, sF, ⟨f1, ra⟩, ⟨f2, rb⟩, e, q⟩ := h
  rw [e0] at e
  unfold cmpD at e
  split at e
  · obtain rfl := rep_int ra
    obtain rfl := rep_int rb
    cases e
    exact ho pins s σ H _ _ v u Q I rx ry ⟨_, _, rfl, rfl, q _ _ _ _ (res_bl sF _)⟩
  · cases e
theorem intsOf_map : ∀ {ds : List D} {is : List Int} {K : PySem.W.Frag} {F H : Hp} {vs : List V} {fp : List Addr}, intsOf ds = some is → RepL K F H ds vs fp → vs = is.map V.int
  | [], is, K, F, H, vs, fp, e, h => by
    simp only [intsOf] at e; cases e
    simp only [RepL] at h; exact h.1
  | d :: ds, is, K, F, H, vs, fp, e, h => by
    simp only [RepL] at h
    obtain ⟨v, vs', f1, f2, rfl, h1, h2, rfl⟩ := h
    cases d <;> simp only [intsOf] at e <;> try (cases e)
    rename_i i
    cases e1 : intsOf ds with
    | none => rw [e1] at e; cases e
    | some r =>
      rw [e1] at e
      cases e
      rw [intsOf_map e1 h2, rep_int h1]
      rfl
theorem op_ltP (hu : X.A.units < cLine) : OpR X (compareOp .Lt) (rP2 X.K .lt) := by
  intro pins s σ H x y v u Q I rx ry h
  obtain ⟨F, a, b, d, sF, ⟨f1, ra⟩, ⟨f2, rb⟩, e, q⟩ := h
  simp only [op2] at e
  unfold ltD at e
  split at e
  · obtain rfl := rep_int ra
    obtain rfl := rep_int rb
    cases e
    exact op_lt pins s σ H _ _ v u Q I rx ry ⟨_, _, rfl, rfl, q _ _ _ _ (res_bl sF _)⟩
  · rename_i xs ys
    obtain ⟨a1, vs1, rfl, _, h1, l1⟩ := rep_tup sF ra
    obtain ⟨a2, vs2, rfl, _, h2, l2⟩ := rep_tup sF rb
    cases e1 : intsOf xs with
    | none => rw [e1] at e; cases e
    | some ns =>
      cases e2 : intsOf ys with
      | none => rw [e1, e2] at e; cases e
      | some ms =>
        rw [e1, e2] at e
        cases e
        have q1 := intsOf_map e1 l1
        have q2 := intsOf_map e2 l2
        subst q1
        subst q2
        exact op_ltT hu pins s σ H _ _ v u Q I rx ry ⟨a1, a2, ns, ms, rfl, rfl, h1, h2, q _ _ _ _ (res_bl sF _)⟩
  · cases e
theorem op_leP : OpR X (compareOp .LtE) (rP2 X.K .le) := op_cmpP op_le fun _ _ => rfl
theorem op_gtP : OpR X (compareOp .Gt) (rP2 X.K .gt) := op_cmpP op_gt fun _ _ => rfl
theorem op_geP : OpR X (compareOp .GtE) (rP2 X.K .ge) := op_cmpP op_ge fun _ _ => rfl
theorem op_eqP (hu : X.A.units + 64 < cLine) : OpR X (compareOp .Eq) (rP2 X.K .eq) := by
  intro pins s σ H x y v u Q I rx ry h
  obtain ⟨F, a, b, d, sF, ⟨f1, ra⟩, ⟨f2, rb⟩, e, q⟩ := h
  simp only [op2] at e
  unfold eqD at e
  split at e
  · rename_i hz
    simp only [Bool.and_eq_true] at hz
    cases e
    exact op_eqD hu pins s σ H _ _ v u Q I rx ry ⟨_, _, Rep.dp sF _ _ _ hz.1.1.1 ra, Rep.dp sF _ _ _ hz.1.1.2 rb, hz.1.2, hz.2, q _ _ _ _ (res_bl sF _)⟩
  · cases e
theorem op_neP (hu : X.A.units + 64 < cLine) : OpR X (compareOp .NotEq) (rP2 X.K .ne) := by
  intro pins s σ H x y v u Q I rx ry h
  obtain ⟨F, a, b, d, sF, ⟨f1, ra⟩, ⟨f2, rb⟩, e, q⟩ := h
  simp only [op2] at e
  unfold eqD at e
  split at e
  · rename_i hz
    simp only [Bool.and_eq_true] at hz
    cases e
    exact op_neD hu pins s σ H _ _ v u Q I rx ry ⟨_, _, Rep.dp sF _ _ _ hz.1.1.1 ra, Rep.dp sF _ _ _ hz.1.1.2 rb, hz.1.2, hz.2, q _ _ _ _ (res_bl sF _)⟩
  · cases e
theorem memD_some {a : D} {xs : List D} {r : Bool} (e : memD a xs = some r) : a.isPd = true ∧ isPdL xs = true ∧ SeqAt.shaped a.pd = true ∧ SeqAt.shaped (.list (pdL xs)) = true ∧ r = (pdL xs).any fun z => PyData.eqv z a.pd := by
  unfold memD at e
  split at e
  · rename_i hz
    simp only [Bool.and_eq_true] at hz
    exact ⟨hz.1.1.1, hz.1.1.2, hz.1.2, hz.2, (Option.some.inj e).symm⟩
  · cases e
theorem shaped_list {ds : List PyData} (h : SeqAt.shaped (.list ds) = true) : PyData.canLayAll0 ds = true := by
  have := SeqAt.canLay_of_shaped h
  simpa only [PyData.canLay0] using this
theorem op_inP (hu : X.A.units + 65 < cLine) : OpR X (compareOp .In) (rP2 X.K .mem) := by
  intro pins s σ H x y v u Q I rx ry h
  obtain ⟨F, a, b, d, sF, ⟨f1, ra⟩, ⟨f2, rb⟩, e, q⟩ := h
  simp only [op2] at e
  unfold inD at e
  split at e
  · rename_i o xs
    cases em : memD a xs with
    | none => rw [em] at e; cases e
    | some r =>
      rw [em] at e
      cases e
      obtain ⟨p1, p2, s1, s2, rfl⟩ := memD_some em
      have hb := Rep.dp sF (.lst o xs) y _ (by simpa only [D.isPd] using p2) rb
      simp only [D.pd] at hb
      refine op_inD hu pins s σ H _ _ v u Q I rx ry ⟨_, _, Rep.dp sF _ _ _ p1 ra, hb, s1, s2, ?_⟩
      have := q _ _ _ _ (res_bl sF _)
      simpa using this
  · rename_i xs
    cases em : memD a xs with
    | none => rw [em] at e; cases e
    | some r =>
      rw [em] at e
      cases e
      obtain ⟨p1, p2, s1, s2, rfl⟩ := memD_some em
      have hb := Rep.dp sF (.tup xs) y _ (by simpa only [D.isPd] using p2) rb
      simp only [D.pd] at hb
      obtain ⟨as, r1⟩ := Dp.reads I _ x v (Rep.dp sF _ _ _ p1 ra) rx
      obtain ⟨bs, r2⟩ := Dp.reads I _ y u hb ry
      refine SeqAt.in_tuple_reads r2 r1 (shaped_list s2) (SeqAt.canLay_of_shaped s1) (room_in_shaped s1 hu) ⟨.bl _, H, I, rfl, ?_⟩
      have := q _ _ _ _ (res_bl sF _)
      simpa using this
  · cases e
theorem op_notInP (hu : X.A.units + 65 < cLine) : OpR X (compareOp .NotIn) (rP2 X.K .nmem) := by
  intro pins s σ H x y v u Q I rx ry h
  obtain ⟨F, a, b, d, sF, ⟨f1, ra⟩, ⟨f2, rb⟩, e, q⟩ := h
  simp only [op2] at e
  unfold inD at e
  split at e
  · rename_i o xs
    cases em : memD a xs with
    | none => rw [em] at e; cases e
    | some r =>
      rw [em] at e
      cases e
      obtain ⟨p1, p2, s1, s2, rfl⟩ := memD_some em
      have hb := Rep.dp sF (.lst o xs) y _ (by simpa only [D.isPd] using p2) rb
      simp only [D.pd] at hb
      refine op_notInD hu pins s σ H _ _ v u Q I rx ry ⟨_, _, Rep.dp sF _ _ _ p1 ra, hb, s1, s2, ?_⟩
      have := q _ _ _ _ (res_bl sF _)
      simpa using this
  · rename_i xs
    cases em : memD a xs with
    | none => rw [em] at e; cases e
    | some r =>
      rw [em] at e
      cases e
      obtain ⟨p1, p2, s1, s2, rfl⟩ := memD_some em
      have hb := Rep.dp sF (.tup xs) y _ (by simpa only [D.isPd] using p2) rb
      simp only [D.pd] at hb
      obtain ⟨as, r1⟩ := Dp.reads I _ x v (Rep.dp sF _ _ _ p1 ra) rx
      obtain ⟨bs, r2⟩ := Dp.reads I _ y u hb ry
      refine SeqAt.notIn_tuple_reads r2 r1 (shaped_list s2) (SeqAt.canLay_of_shaped s1) (room_in_shaped s1 hu) ⟨.bl _, H, I, rfl, ?_⟩
      have := q _ _ _ _ (res_bl sF _)
      simpa using this
  · cases e

/-! ### subscripts -/
def rIxP (K : PySem.W.Frag) : R2 := fun x y H Q => ∃ F a b d, Same F H ∧ WRep K F H a x ∧ WRep K F H b y ∧ idxD a b = some d ∧
  ∀ v F' H' fp, PrimRes K F H F' H' d v fp → Q v H'
theorem atI_rep {K : PySem.W.Frag} {F H : Hp} {ds : List D} {vs : List V} {fp : List Addr} {i : Int} {d : D} (h : RepL K F H ds vs fp) (e : (atI ds i).bind itemD = some d) : ∃ v, atI vs i = some v ∧ Rep K F H d v [] := by
  have hl := RepL.length _ _ _ h
  cases e1 : atI ds i with
  | none => rw [e1] at e; cases e
  | some d0 =>
    rw [e1] at e
    have e : itemD d0 = some d := e
    unfold itemD at e
    split at e
    · cases e
    · rename_i ho
      cases e
      unfold atI at e1 ⊢
      rw [hl]
      cases e2 : ixN ds.length i with
      | none => rw [e2] at e1; cases e1
      | some j =>
        rw [e2] at e1
        obtain ⟨v, f, a1, a2, _⟩ := RepL.get j h e1
        exact ⟨v, a1, Rep.nil (by simpa using ho) a2⟩
theorem ix_P : IxR X (rIxP X.K) := by
  intro value slice pins s σ H x y v u Q I rx ry h
  obtain ⟨F, a, b, d, sF, ⟨f1, ra⟩, ⟨f2, rb⟩, e, q⟩ := h
  unfold idxD at e
  split at e
  · obtain rfl := rep_int rb
    obtain ⟨a1, vs1, g1, rfl, h1, l1⟩ := rep_lst sF ra
    obtain ⟨w, e1, e2⟩ := atI_rep l1 e
    exact ix_list value slice pins s σ H _ _ v u Q I rx ry ⟨a1, vs1, _, w, rfl, rfl, SqL.of h1, e1, q _ _ _ _ (.here sF e2)⟩
  · obtain rfl := rep_int rb
    obtain ⟨a1, vs1, rfl, _, h1, l1⟩ := rep_tup sF ra
    obtain ⟨w, e1, e2⟩ := atI_rep l1 e
    exact ix_tup value slice pins s σ H _ _ v u Q I rx ry ⟨a1, vs1, _, w, rfl, rfl, h1, e1, q _ _ _ _ (.here sF e2)⟩
  · obtain rfl := rep_int rb
    obtain ⟨a1, vs1, rfl, h1, l1⟩ := rep_scr sF ra
    obtain ⟨w, e1, e2⟩ := atI_rep l1 e
    exact ix_list value slice pins s σ H _ _ v u Q I rx ry ⟨a1, vs1, _, w, rfl, rfl, h1, e1, q _ _ _ _ (.here sF e2)⟩
  · cases e
def rSlP (K : PySem.W.Frag) : V → Option Int → Option Int → Hp → VK → Prop := fun x lo hi H Q => ∃ F a d, Same F H ∧ WRep K F H a x ∧ slcD a lo hi = some d ∧
  ∀ v F' H' fp, PrimRes K F H F' H' d v fp → Q v H'
theorem cut_rep {K : PySem.W.Frag} {F H : Hp} {ds : List D} {vs : List V} (lo hi : Option Int) (h : RepL K F H ds vs []) : RepL K F H (cutD ds lo hi) (cutV vs lo hi) [] := by
  unfold cutD cutV
  rw [RepL.length _ _ _ h]
  exact RepL.take _ (RepL.drop _ h)
theorem sl_P : SlR X (rSlP X.K) := by
  intro pins s σ H x v vl vu lo hi sl Q I rx hs pl pu h
  obtain ⟨F, a, d, sF, ⟨f1, ra⟩, e, q⟩ := h
  cases a with
  | lst o xs =>
    simp only [slcD] at e
    obtain ⟨a1, vs1, g1, rfl, h1, l1⟩ := rep_lst sF ra
    split at e
    · cases e
    · rename_i ho
      cases e
      have k1 := RepL.nil (by simpa using ho) l1
      exact sl_list pins s σ H _ v vl vu _ _ sl Q I rx hs pl pu ⟨a1, vs1, rfl, SqL.of h1, fun p hp => q _ _ _ _ (.newL sF (cut_rep _ _ k1) hp)⟩
  | tup xs =>
    simp only [slcD] at e
    obtain ⟨a1, vs1, rfl, h0, h1, l1⟩ := rep_tup sF ra
    split at e
    · cases e
    · rename_i ho
      cases e
      have k1 := RepL.nil (by simpa using ho) l1
      have hl := RepL.length _ _ _ k1
      refine sl_tupA pins s σ H _ v vl vu _ _ sl Q I rx hs pl pu ⟨a1, vs1, rfl, h1, fun z => ?_, fun _ p hp => q _ _ _ _ (.newT sF (cut_rep _ _ k1) hp)⟩
      have e : cutD xs lo hi = xs := by
        unfold cutD
        rw [hl] at z
        rw [z.1, z.2]
        simp
      refine q _ _ _ _ (.here sF ?_)
      rw [e]
      simp only [Rep]
      exact ⟨a1, vs1, rfl, h0, k1⟩
  | scr xs =>
    simp only [slcD] at e
    obtain ⟨a1, vs1, rfl, h1, l1⟩ := rep_scr sF ra
    split at e
    · cases e
    · rename_i ho
      cases e
      exact sl_list pins s σ H _ v vl vu _ _ sl Q I rx hs pl pu ⟨a1, vs1, rfl, h1, fun p hp => q _ _ _ _ (.newL sF (cut_rep _ _ l1) hp)⟩
  | _ => simp [slcD] at e

/-! ### built-ins by name -/
def rPr (K : PySem.W.Frag) (p : Pr) : List V → Hp → VK → Prop := fun vs H Q => ∃ F ds d, Same F H ∧ WRepL K F H ds vs ∧ prD p ds = some d ∧
  ∀ v F' H' fp, PrimRes K F H F' H' d v fp → Q v H'
theorem prD1 {p : Pr} {g : D → Option D} {K : PySem.W.Frag} {F H : Hp} {ds : List D} {vs : List V} {d : D} (w : WRepL K F H ds vs) (e : prD p ds = some d)
    (hp : ∀ ds, prD p ds = some d → ∃ a, ds = [a] ∧ g a = some d) : ∃ a x, ds = [a] ∧ vs = [x] ∧ WRep K F H a x ∧ g a = some d := by
  obtain ⟨a, rfl, ea⟩ := hp ds e
  cases vs with
  | nil => exact absurd w (by simp [WRepL])
  | cons x r =>
    cases r with
    | nil => exact ⟨a, x, rfl, rfl, w.1, ea⟩
    | cons _ _ => exact absurd w.2 (by simp [WRepL])
theorem one_of {p : Pr} {g : D → Option D} {ds : List D} {d : D} (h1 : ∀ a, prD p [a] = g a) (h0 : prD p [] = none) (h2 : ∀ a b r, prD p (a :: b :: r) = none) (e : prD p ds = some d) : ∃ a, ds = [a] ∧ g a = some d := by
  match ds with
  | [] => rw [h0] at e; cases e
  | [a] => exact ⟨a, rfl, by rw [← h1]; exact e⟩
  | a :: b :: r => rw [h2] at e; cases e
/-- a built-in of one argument -/
theorem cb_one {f : Value} {p : Pr} {g : D → Option D} (h1 : ∀ a, prD p [a] = g a) (h0 : prD p [] = none) (h2 : ∀ a b r, prD p (a :: b :: r) = none)
    (k : ∀ (pins : List (Addr × Obj)) (s : Shared) (σ : L2.St) (H : Hp) (x : V) (u : Value) (Q : VK) (F : Hp) (a d : D), Inv X pins σ H s → RelV x u → Same F H → WRep X.K F H a x → g a = some d →
      (∀ v F' H' fp, PrimRes X.K F H F' H' d v fp → Q v H') → wpAny (model X.prog X.w) X.A (call f [u]) (EP X pins σ Q) X.xe s) : CallR X f (rPr X.K p) := by
  intro pins s σ H xs us Q I r h
  obtain ⟨F, ds, d, sF, w, e, q⟩ := h
  obtain ⟨a, x, rfl, rfl, wa, ea⟩ := prD1 w e (fun ds e => one_of h1 h0 h2 e)
  obtain ⟨u, rfl, rx⟩ := vals1 r
  exact k pins s σ H x u Q F a d I rx sF wa ea q
theorem vcons {x : V} {u : Value} (r : RelV x u) : Vals [x] [u] := .cons r .nil
theorem cb_len : CallR X (.builtin "len") (rPr X.K .len) := by
  refine cb_one (g := lenD) (fun _ => rfl) rfl (fun _ _ _ => rfl) fun pins s σ H x u Q F a d I rx sF ⟨fp, ra⟩ e q => ?_
  unfold lenD at e
  split at e
  · obtain ⟨a1, vs1, g1, rfl, h1, l1⟩ := rep_lst sF ra
    cases e
    refine call_len pins s σ H _ _ Q I (vcons rx) ⟨_, _, rfl, .inl ⟨vs1, SqL.of h1, rfl⟩, ?_⟩
    rw [RepL.length _ _ _ l1]
    exact q _ _ _ _ (res_int sF _)
  · obtain ⟨a1, vs1, rfl, _, h1, l1⟩ := rep_tup sF ra
    cases e
    refine call_len pins s σ H _ _ Q I (vcons rx) ⟨_, _, rfl, .inr ⟨vs1, h1, rfl⟩, ?_⟩
    rw [RepL.length _ _ _ l1]
    exact q _ _ _ _ (res_int sF _)
  · obtain ⟨a1, vs1, rfl, h1, l1⟩ := rep_scr sF ra
    cases e
    refine call_len pins s σ H _ _ Q I (vcons rx) ⟨_, _, rfl, .inl ⟨vs1, h1, rfl⟩, ?_⟩
    rw [RepL.length _ _ _ l1]
    exact q _ _ _ _ (res_int sF _)
  · obtain rfl := rep_str ra
    split at e
    · rename_i hz
      cases e
      exact call_len pins s σ H _ _ Q I (vcons rx) ⟨_, _, rfl, ⟨by rw [← SZ_eq]; exact hz, rfl⟩, q _ _ _ _ (res_int sF _)⟩
    · cases e
  · cases e
theorem boolsOf_map : ∀ {ds : List D} {is : List Bool} {K : PySem.W.Frag} {F H : Hp} {vs : List V} {fp : List Addr}, boolsOf ds = some is → RepL K F H ds vs fp → vs = is.map V.bl
  | [], is, K, F, H, vs, fp, e, h => by
    simp only [boolsOf] at e; cases e
    simp only [RepL] at h; exact h.1
  | d :: ds, is, K, F, H, vs, fp, e, h => by
    simp only [RepL] at h
    obtain ⟨v, vs', f1, f2, rfl, h1, h2, rfl⟩ := h
    cases d <;> simp only [boolsOf] at e <;> try (cases e)
    rename_i i
    cases e1 : boolsOf ds with
    | none => rw [e1] at e; cases e
    | some r =>
      rw [e1] at e
      cases e
      rw [boolsOf_map e1 h2, rep_bl h1]
      rfl
theorem cb_all (hc : X.calm = true) : CallR X (.builtin "all") (rPr X.K .all) := by
  refine cb_one (g := allD) (fun _ => rfl) rfl (fun _ _ _ => rfl) fun pins s σ H x u Q F a d I rx sF ⟨fp, ra⟩ e q => ?_
  cases a with
  | lst o xs =>
    simp only [allD] at e
    obtain ⟨a1, vs1, g1, rfl, h1, l1⟩ := rep_lst sF ra
    cases eb : boolsOf xs with
    | none => rw [eb] at e; cases e
    | some bs =>
      rw [eb] at e
      cases e
      exact cr_all hc pins s σ H _ _ Q I (vcons rx) ⟨a1, bs, rfl, by rw [← boolsOf_map eb l1]; exact SqL.of h1, q _ _ _ _ (res_bl sF _)⟩
  | _ => simp [allD] at e
theorem cb_any (hc : X.calm = true) : CallR X (.builtin "any") (rPr X.K .any) := by
  refine cb_one (g := anyD) (fun _ => rfl) rfl (fun _ _ _ => rfl) fun pins s σ H x u Q F a d I rx sF ⟨fp, ra⟩ e q => ?_
  cases a with
  | lst o xs =>
    simp only [anyD] at e
    obtain ⟨a1, vs1, g1, rfl, h1, l1⟩ := rep_lst sF ra
    cases eb : boolsOf xs with
    | none => rw [eb] at e; cases e
    | some bs =>
      rw [eb] at e
      cases e
      exact cr_any hc pins s σ H _ _ Q I (vcons rx) ⟨a1, bs, rfl, by rw [← boolsOf_map eb l1]; exact SqL.of h1, q _ _ _ _ (res_bl sF _)⟩
  | _ => simp [anyD] at e
theorem cb_abs : CallR X (.builtin "abs") (rPr X.K .abs) := by
  refine cb_one (g := absD) (fun _ => rfl) rfl (fun _ _ _ => rfl) fun pins s σ H x u Q F a d I rx sF ⟨fp, ra⟩ e q => ?_
  unfold absD at e
  split at e
  · obtain rfl := rep_int ra
    cases e
    exact call_abs pins s σ H _ _ Q I (vcons rx) ⟨_, rfl, q _ _ _ _ (res_int sF _)⟩
  · cases e
theorem cb_int : CallR X (.type "int") (rPr X.K .int) := by
  refine cb_one (g := intD) (fun _ => rfl) rfl (fun _ _ _ => rfl) fun pins s σ H x u Q F a d I rx sF ⟨fp, ra⟩ e q => ?_
  unfold intD at e
  split at e
  · obtain rfl := rep_int ra
    cases e
    exact call_int1 pins s σ H _ _ Q I (vcons rx) (.inl ⟨_, rfl, q _ _ _ _ (res_int sF _)⟩)
  · obtain rfl := rep_bl ra
    cases e
    exact call_int1 pins s σ H _ _ Q I (vcons rx) (.inr ⟨_, rfl, q _ _ _ _ (res_int sF _)⟩)
  · cases e
theorem maxI_spec : ∀ (is : List Int) (m : Int), maxI m is ∈ m :: is ∧ ∀ y ∈ m :: is, y ≤ maxI m is
  | [], m => ⟨by simp [maxI], by simp [maxI]⟩
  | x :: r, m => by
    simp only [maxI]
    by_cases hx : x > m
    · rw [if_pos hx]
      obtain ⟨h1, h2⟩ := maxI_spec r x
      refine ⟨?_, fun y hy => ?_⟩
      · rcases List.mem_cons.mp h1 with h | h
        · rw [h]; simp
        · simp [h]
      · have h3 := h2 x (List.mem_cons_self ..)
        rcases List.mem_cons.mp hy with rfl | hy
        · omega
        · exact h2 y hy
    · rw [if_neg hx]
      obtain ⟨h1, h2⟩ := maxI_spec r m
      refine ⟨?_, fun y hy => ?_⟩
      · rcases List.mem_cons.mp h1 with h | h
        · rw [h]; simp
        · simp [h]
      · have h3 := h2 m (List.mem_cons_self ..)
        rcases List.mem_cons.mp hy with rfl | hy
        · exact h3
        · rcases List.mem_cons.mp hy with rfl | hy
          · omega
          · exact h2 y (by simp [hy])
theorem minI_spec : ∀ (is : List Int) (m : Int), minI m is ∈ m :: is ∧ ∀ y ∈ m :: is, minI m is ≤ y
  | [], m => ⟨by simp [minI], by simp [minI]⟩
  | x :: r, m => by
    simp only [minI]
    by_cases hx : x < m
    · rw [if_pos hx]
      obtain ⟨h1, h2⟩ := minI_spec r x
      refine ⟨?_, fun y hy => ?_⟩
      · rcases List.mem_cons.mp h1 with h | h
        · rw [h]; simp
        · simp [h]
      · have h3 := h2 x (List.mem_cons_self ..)
        rcases List.mem_cons.mp hy with rfl | hy
        · omega
        · exact h2 y hy
    · rw [if_neg hx]
      obtain ⟨h1, h2⟩ := minI_spec r m
      refine ⟨?_, fun y hy => ?_⟩
      · rcases List.mem_cons.mp h1 with h | h
        · rw [h]; simp
        · simp [h]
      · have h3 := h2 m (List.mem_cons_self ..)
        rcases List.mem_cons.mp hy with rfl | hy
        · exact h3
        · rcases List.mem_cons.mp hy with rfl | hy
          · omega
          · exact h2 y (by simp [hy])
theorem two_of {p : Pr} {g : D → Option D} {g2 : D → D → Option D} {ds : List D} {d : D} (h1 : ∀ a, prD p [a] = g a) (h0 : prD p [] = none) (h2 : ∀ a b, prD p [a, b] = g2 a b) (h3 : ∀ a b c r, prD p (a :: b :: c :: r) = none) (e : prD p ds = some d) :
    (∃ a, ds = [a] ∧ g a = some d) ∨ ∃ a b, ds = [a, b] ∧ g2 a b = some d := by
  match ds with
  | [] => rw [h0] at e; cases e
  | [a] => exact .inl ⟨a, rfl, by rw [← h1]; exact e⟩
  | [a, b] => exact .inr ⟨a, b, rfl, by rw [← h2]; exact e⟩
  | a :: b :: c :: r => rw [h3] at e; cases e
theorem wrep1 {K : PySem.W.Frag} {F H : Hp} {a : D} {vs : List V} (w : WRepL K F H [a] vs) : ∃ x, vs = [x] ∧ WRep K F H a x := by
  cases vs with
  | nil => exact absurd w (by simp [WRepL])
  | cons x r =>
    cases r with
    | nil => exact ⟨x, rfl, w.1⟩
    | cons _ _ => exact absurd w.2 (by simp [WRepL])
theorem wrep2 {K : PySem.W.Frag} {F H : Hp} {a b : D} {vs : List V} (w : WRepL K F H [a, b] vs) : ∃ x y, vs = [x, y] ∧ WRep K F H a x ∧ WRep K F H b y := by
  cases vs with
  | nil => exact absurd w (by simp [WRepL])
  | cons x r =>
    obtain ⟨y, rfl, wy⟩ := wrep1 (vs := r) w.2
    exact ⟨x, y, rfl, w.1, wy⟩
theorem cb_min (hc : X.calm = true) : CallR X (.builtin "min") (rPr X.K .min) := by
  intro pins s σ H xs us Q I r h
  obtain ⟨F, ds, d, sF, w, e, q⟩ := h
  rcases two_of (p := .min) (g := min1) (g2 := min2D) (fun _ => rfl) rfl (fun _ _ => rfl) (fun _ _ _ _ => rfl) e with ⟨a, rfl, ea⟩ | ⟨a, b, rfl, ea⟩
  · obtain ⟨x, rfl, fp, ra⟩ := wrep1 w
    unfold min1 at ea
    split at ea
    · rename_i o xs
      obtain ⟨a1, vs1, g1, rfl, h1, l1⟩ := rep_lst sF ra
      split at ea
      · rename_i i is ei
        cases ea
        obtain ⟨k1, k2⟩ := minI_spec is i
        refine cr_min hc pins s σ H _ _ Q I r ⟨a1, i :: is, rfl, by rw [← intsOf_map ei l1]; exact SqL.of h1, by simp, fun m hm hle => ?_⟩
        obtain rfl : m = minI i is := Int.le_antisymm (hle _ k1) (k2 m hm)
        exact q _ _ _ _ (res_int sF _)
      · cases ea
    · cases ea
  · obtain ⟨x, y, rfl, ⟨f1, ra⟩, ⟨f2, rb⟩⟩ := wrep2 w
    unfold min2D at ea
    split at ea
    · obtain rfl := rep_int ra
      obtain rfl := rep_int rb
      cases ea
      exact call_min2 hc pins s σ H _ _ Q I r ⟨_, _, rfl, q _ _ _ _ (res_int sF _)⟩
    · cases ea
theorem insI_perm (x : Int) : ∀ l : List Int, (insI x l).Perm (x :: l)
  | [] => .refl _
  | y :: r => by
    unfold insI
    split
    · exact .refl _
    · exact ((insI_perm x r).cons y).trans (.swap x y r)
theorem sortI_perm : ∀ l : List Int, (sortI l).Perm l
  | [] => .refl _
  | x :: r => (insI_perm x (sortI r)).trans ((sortI_perm r).cons x)
theorem insI_sorted (x : Int) : ∀ l : List Int, l.Pairwise (· ≤ ·) → (insI x l).Pairwise (· ≤ ·)
  | [], _ => by simp [insI]
  | y :: r, h => by
    unfold insI
    have hy := List.pairwise_cons.mp h
    split
    · rename_i hxy
      refine List.pairwise_cons.mpr ⟨fun z hz => ?_, h⟩
      rcases List.mem_cons.mp hz with rfl | hz
      · exact hxy
      · exact Int.le_trans hxy (hy.1 z hz)
    · rename_i hxy
      refine List.pairwise_cons.mpr ⟨fun z hz => ?_, insI_sorted x r hy.2⟩
      rcases List.mem_cons.mp ((insI_perm x r).mem_iff.mp hz) with rfl | hz
      · omega
      · exact hy.1 z hz
theorem sortI_sorted : ∀ l : List Int, (sortI l).Pairwise (· ≤ ·)
  | [] => .nil
  | x :: r => insI_sorted x _ (sortI_sorted r)
theorem sorted_one {l m : List Int} (hp : l.Perm m) (h1 : l.Pairwise (· ≤ ·)) (h2 : m.Pairwise (· ≤ ·)) : l = m := List.Perm.eq_of_pairwise (le := (· ≤ ·)) (fun a b _ _ h h' => Int.le_antisymm h h') h1 h2 hp
theorem rep_ints {K : PySem.W.Frag} {F H : Hp} : ∀ is : List Int, RepL K F H (is.map D.int) (is.map V.int) []
  | [] => by simp [RepL]
  | i :: r => by
    simp only [List.map_cons, RepL]
    exact ⟨.int i, r.map V.int, [], [], rfl, by simp [Rep], rep_ints r, rfl⟩
theorem cb_sorted : CallR X (.builtin "sorted") (rPr X.K .sorted) := by
  refine cb_one (g := sortedD) (fun _ => rfl) rfl (fun _ _ _ => rfl) fun pins s σ H x u Q F a d I rx sF ⟨fp, ra⟩ e q => ?_
  cases a with
  | lst o xs =>
    simp only [sortedD] at e
    obtain ⟨a1, vs1, g1, rfl, h1, l1⟩ := rep_lst sF ra
    cases eb : intsOf xs with
    | none => rw [eb] at e; cases e
    | some bs =>
      rw [eb] at e
      cases e
      refine cr_sortedI pins s σ H _ _ Q I (vcons rx) ⟨a1, bs, rfl, by rw [← intsOf_map eb l1]; exact SqL.of h1, fun ns' p h1 h2 hp => ?_⟩
      obtain rfl : ns' = sortI bs := sorted_one (h1.trans (sortI_perm bs).symm) h2 (sortI_sorted bs)
      exact q _ _ _ _ (.newL sF (rep_ints _) hp)
  | _ => simp [sortedD] at e
theorem rep_seq {K : PySem.W.Frag} {F H : Hp} {d : D} {xs : List D} {v : V} {fp : List Addr} (s : Same F H) (e : seqOf d = some xs) (h : Rep K F H d v fp) : ∃ a vs f, v = .ref a ∧ (SqL K H a vs ∨ SqT K H a vs) ∧ RepL K F H xs vs f := by
  unfold seqOf at e
  split at e
  · cases e
    obtain ⟨a1, vs1, g1, rfl, h1, l1⟩ := rep_lst s h
    exact ⟨a1, vs1, g1, rfl, .inl (SqL.of h1), l1⟩
  · cases e
    obtain ⟨a1, vs1, rfl, _, h1, l1⟩ := rep_tup s h
    exact ⟨a1, vs1, _, rfl, .inr h1, l1⟩
  · cases e
    obtain ⟨a1, vs1, rfl, h1, l1⟩ := rep_scr s h
    exact ⟨a1, vs1, _, rfl, .inl h1, l1⟩
  · cases e
theorem cb_list : CallR X (.type "list") (rPr X.K .list) := by
  refine cb_one (g := listD) (fun _ => rfl) rfl (fun _ _ _ => rfl) fun pins s σ H x u Q F a d I rx sF ⟨fp, ra⟩ e q => ?_
  unfold listD at e
  cases es : seqOf a with
  | none => rw [es] at e; cases e
  | some xs =>
    rw [es] at e
    have e : (if ownL xs = true then none else some (D.lst true xs)) = some d := e
    obtain ⟨a1, vs1, g1, rfl, h1, l1⟩ := rep_seq sF es ra
    split at e
    · cases e
    · rename_i ho
      cases e
      exact call_list_of pins s σ H _ _ Q I (vcons rx) ⟨a1, vs1, rfl, h1, fun p hp => q _ _ _ _ (.newL sF (RepL.nil (by simpa using ho) l1) hp)⟩
theorem cb_tuple : CallR X (.type "tuple") (rPr X.K .tuple) := by
  refine cb_one (g := tupleD) (fun _ => rfl) rfl (fun _ _ _ => rfl) fun pins s σ H x u Q F a d I rx sF ⟨fp, ra⟩ e q => ?_
  unfold tupleD at e
  cases es : seqOf a with
  | none => rw [es] at e; cases e
  | some xs =>
    rw [es] at e
    have e : (if ownL xs = true then none else some (D.tup xs)) = some d := e
    split at e
    · cases e
    · rename_i ho
      cases e
      unfold seqOf at es
      split at es
      · cases es
        obtain ⟨a1, vs1, g1, rfl, h1, l1⟩ := rep_lst sF ra
        exact call_tuple_of pins s σ H _ _ Q I (vcons rx) ⟨a1, vs1, rfl, .inl ⟨SqL.of h1, fun p hp => q _ _ _ _ (.newT sF (RepL.nil (by simpa using ho) l1) hp)⟩⟩
      · cases es
        obtain ⟨a1, vs1, rfl, h0, h1, l1⟩ := rep_tup sF ra
        refine call_tuple_of pins s σ H _ _ Q I (vcons rx) ⟨a1, vs1, rfl, .inr ⟨h1, q _ _ _ _ (.here sF ?_)⟩⟩
        simp only [Rep]
        exact ⟨a1, vs1, rfl, h0, RepL.nil (by simpa using ho) l1⟩
      · cases es
        obtain ⟨a1, vs1, rfl, h1, l1⟩ := rep_scr sF ra
        exact call_tuple_of pins s σ H _ _ Q I (vcons rx) ⟨a1, vs1, rfl, .inl ⟨h1, fun p hp => q _ _ _ _ (.newT sF (RepL.nil (by simpa using ho) l1) hp)⟩⟩
      · cases es
mutual
theorem pd_noDict : ∀ d : D, d.pd.hasDict = false
  | .non => rfl | .bl _ => rfl | .int _ => rfl | .str _ => rfl | .typ _ => rfl | .cls _ => rfl | .dct _ _ _ => rfl | .exc _ _ => rfl | .clo _ _ => rfl | .scr _ => rfl
  | .lst _ ds => by simp only [D.pd, PyData.hasDict]; exact pdL_noDict ds
  | .tup ds => by simp only [D.pd, PyData.hasDict]; exact pdL_noDict ds
theorem pdL_noDict : ∀ ds : List D, PyData.hasDictAll (pdL ds) = false
  | [] => rfl
  | d :: ds => by simp only [pdL, PyData.hasDictAll]; rw [pd_noDict d, pdL_noDict ds]; rfl
end
theorem cb_repr (hg : X.A.guards = some []) (hu : X.A.units + 64 < cLine) : CallR X (.builtin "repr") (rPr X.K .repr) := by
  refine cb_one (g := reprD) (fun _ => rfl) rfl (fun _ _ _ => rfl) fun pins s σ H x u Q F a d I rx sF ⟨fp, ra⟩ e q => ?_
  unfold reprD at e
  split at e
  · rename_i hz
    simp only [Bool.and_eq_true, decide_eq_true_eq] at hz
    obtain ⟨⟨⟨hp, hs⟩, hd⟩, hl⟩ := hz
    cases e
    have q1 := q _ _ _ _ (res_str sF a.pd.shown)
    obtain ⟨as, rd⟩ := Dp.reads I _ x u (Rep.dp sF _ _ _ hp ra) rx
    have hn : a.pd.hasDict = true → sysModules ∉ as := fun z => by rw [pd_noDict] at z; cases z
    rw [SZ_eq] at hl
    have big : ∀ b : Addr, u = .ref b → wpAny (model X.prog X.w) X.A (call (.builtin "repr") [u]) (EP X pins σ Q) X.xe s := fun b e => by
      subst e
      exact repr_of_reads' (h₀ := s.heap) rd hs hn hg (by omega) (fun _ _ h => h) (fun h' t tk hk => ⟨.str _, H, I.kept hk, ⟨_, rfl⟩, q1⟩) hl
    cases a with
    | non =>
      obtain rfl := rep_non ra
      cases rx
      exact PySem.P.repr_of_none ⟨.str _, H, I.tok _, ⟨_, rfl⟩, q1⟩
    | bl b =>
      obtain rfl := rep_bl ra
      cases rx
      exact PySem.P.repr_of_bool ⟨.str _, H, I.tok _, ⟨_, rfl⟩, q1⟩
    | int i =>
      obtain rfl := rep_int ra
      obtain ⟨t, rfl⟩ := rx
      simp only [D.pd, PyData.showable, decide_eq_true_eq] at hs
      exact PySem.P.repr_of_int hs ⟨.str _, H, I.tok _, ⟨_, rfl⟩, q1⟩
    | str z =>
      obtain rfl := rep_str ra
      obtain ⟨t, rfl⟩ := rx
      exact PySem.P.repr_of_str ⟨.str _, H, I.tok _, ⟨_, rfl⟩, q1⟩ hl
    | tup ds =>
      obtain ⟨a1, _, rfl, _⟩ := rep_tup sF ra
      exact big a1 rx
    | lst o ds =>
      obtain ⟨a1, _, _, rfl, _⟩ := rep_lst sF ra
      exact big a1 rx
    | dct _ _ _ => simp [D.isPd] at hp
    | scr _ => simp [D.isPd] at hp
    | typ _ => simp [D.isPd] at hp
    | cls _ => simp [D.isPd] at hp
    | exc _ _ => simp [D.isPd] at hp
    | clo _ _ => simp [D.isPd] at hp
  · cases e
theorem cb_isi : CallR X (.builtin "isinstance") (rPr X.K .isi) := by
  intro pins s σ H xs us Q I r h
  obtain ⟨F, ds, d, sF, w, e, q⟩ := h
  have e2 : ∃ a b, ds = [a, b] ∧ isD a b = some d := by
    match ds, e with
    | [a, b], e => exact ⟨a, b, rfl, e⟩
    | [], e => cases e
    | [a], e => cases e
    | _ :: _ :: _ :: _, e => cases e
  obtain ⟨a, b, rfl, ea⟩ := e2
  obtain ⟨x, y, rfl, ⟨f1, ra⟩, ⟨f2, rb⟩⟩ := wrep2 w
  unfold isD at ea
  split at ea
  · rename_i n
    split at ea
    · rename_i hn
      obtain rfl : y = .ty n := by simp only [Rep] at rb; exact rb.1
      cases ei : isiD a n with
      | none => rw [ei] at ea; cases ea
      | some k =>
        rw [ei] at ea
        cases ea
        have fin : ∀ t : String, TyX X.K H x (.type t) → kitB t n = some k → wpAny (model X.prog X.w) X.A (call (.builtin "isinstance") us) (EP X pins σ Q) X.xe s := fun t ht hk =>
          call_isi pins s σ H _ us Q I r ⟨x, .ty n, .type t, .type n, k, rfl, .ty n, ht, kit_ty hk, q _ _ _ _ (res_bl sF _)⟩
        have tab : ∀ t : String, (n = "int" ∨ n = "bool" ∨ n = "str" ∨ n = "tuple" ∨ n = "list" ∨ n = "dict") := fun _ => by
          simp only [typeKnown, Bool.or_eq_true, beq_iff_eq] at hn
          rcases hn with ((((h | h) | h) | h) | h) | h <;> simp [h]
        have hn6 := tab ""
        clear tab
        unfold isiD at ei
        split at ei
        · obtain rfl := rep_int ra
          refine fin "int" (.base (.int _)) ?_
          rcases hn6 with rfl | rfl | rfl | rfl | rfl | rfl <;> (rw [← ei]; decide +kernel)
        · obtain rfl := rep_bl ra
          refine fin "bool" (.base (.bl _)) ?_
          rcases hn6 with rfl | rfl | rfl | rfl | rfl | rfl <;> (rw [← ei]; decide +kernel)
        · obtain rfl := rep_str ra
          refine fin "str" (.base (.str _)) ?_
          rcases hn6 with rfl | rfl | rfl | rfl | rfl | rfl <;> (rw [← ei]; decide +kernel)
        · obtain rfl := rep_non ra
          refine fin "NoneType" (.base .non) ?_
          rcases hn6 with rfl | rfl | rfl | rfl | rfl | rfl <;> (rw [← ei]; decide +kernel)
        · obtain ⟨a1, vs1, rfl, _, h1, l1⟩ := rep_tup sF ra
          have ht : TyX X.K H (.ref a1) (.type "tuple") := by
            rcases h1 with (h1 | ⟨o, h1⟩) | ⟨o, its, m, lk, hc, _⟩
            · exact .base (.tup h1)
            · exact .fTuple h1
            · exact .kTuple lk hc
          refine fin "tuple" ht ?_
          rcases hn6 with rfl | rfl | rfl | rfl | rfl | rfl <;> (rw [← ei]; decide +kernel)
        · obtain ⟨a1, vs1, g1, rfl, h1, l1⟩ := rep_lst sF ra
          refine fin "list" (.base (.lst h1)) ?_
          rcases hn6 with rfl | rfl | rfl | rfl | rfl | rfl <;> (rw [← ei]; decide +kernel)
        · cases ei
    · cases ea
  · cases ea
end Mi
end

section
set_option Elab.async false
set_option linter.all false
set_option maxRecDepth 100000
namespace Mi
open PySem PySem.Spec PyProof.Rows L2
variable [LT] [Fr]
variable {X : Cx}
/-- the sum of a tuple of ints -/
theorem tupleSum {prog : Program} {w : World} {A : Around} {E : Value → Shared → Prop} {s : Shared} {l : Addr} {its : List Value} {ns : List Int} {Q : Value → Shared → Prop} (hh : A.handled = none) (hT : s.heap.IsTuple l its.toArray) (hi : IntsAre its ns)
    (h : ∀ h' tk t', (∀ b o, s.heap.get? b = some o → h'.get? b = some o) → Q (.int ns.sum t') { s with heap := h', toks := tk }) : wpAny (model prog w) A (call (.builtin "sum") [.ref l]) Q E s := by
  obtain ⟨xs, e⟩ := hi.allInts.items
  have hn : numsOf (intItems xs).toList = ns := by rw [← e]; exact hi.numsOf
  rw [nums_intItems] at hn
  rw [e] at hT
  refine call_sum_walkG (wpAny_pyIter_tuple hT ?_)
  have hlt : l < s.heap.objs.size := by obtain ⟨o, ho, _⟩ := hT; exact Heap.lt_size ho
  refine ⟨_, [_, l], [_], _, _, _, numAt xs, rfl, Walks.tuple (A := A.in1) hh _ l (Nat.ne_of_lt hlt) (intItems xs), ⟨⟨_, Heap.get?_push_size _ rfl, rfl, rfl⟩, hT.push _⟩, fun c hc => ?_, fun i v hv => intItems_at hv, fun h' tk t' hk => ?_⟩
  · show c < (s.heap.push _).objs.size
    rw [Heap.size_push]
    rcases List.mem_cons.mp hc with rfl | hc
    · exact Nat.lt_succ_self _
    · rcases List.mem_cons.mp hc with rfl | hc
      · exact Nat.lt_succ_of_lt hlt
      · cases hc
  · have q := h h' tk t' fun b o e => hk b o (fun hm => by
      rcases List.mem_cons.mp hm with e1 | hm
      · have := Heap.lt_size e; rw [e1] at this; exact Nat.lt_irrefl _ this
      · cases hm) (Heap.get?_push_of_some _ e)
    have hsz : (intItems xs).size = xs.size := by simp [intItems]
    rw [hsz, preSum_eq, List.take_of_length_le (by simp), hn]
    exact q
theorem ints_of_vals : ∀ {is : List Int} {us : List Value}, Vals (is.map V.int) us → IntsAre us is := fun r => r.ints
theorem cb_sum (hc : X.calm = true) : CallR X (.builtin "sum") (rPr X.K .sum) := by
  refine cb_one (g := sumD) (fun _ => rfl) rfl (fun _ _ _ => rfl) fun pins s σ H x u Q F a d I rx sF ⟨fp, ra⟩ e q => ?_
  unfold sumD at e
  cases es : seqOf a with
  | none => rw [es] at e; cases e
  | some xs =>
    rw [es] at e
    have e : (intsOf xs).map (fun is => D.int is.sum) = some d := e
    cases ei : intsOf xs with
    | none => rw [ei] at e; cases e
    | some is =>
      rw [ei] at e
      cases e
      obtain ⟨a1, vs1, f, rfl, h1, l1⟩ := rep_seq sF es ra
      have ev := intsOf_map ei l1
      subst ev
      rcases h1 with h1 | h1
      · exact cr_sum hc pins s σ H _ _ Q I (vcons rx) ⟨a1, is, rfl, h1, q _ _ _ _ (res_int sF _)⟩
      · obtain ⟨its, rv, hT, hz⟩ := I.tuple h1
        cases rx
        obtain ⟨o, ho, hcl, n, hd⟩ := hT
        exact tupleSum (I.ok.hd hc) ⟨o, ho, hcl, n, hd⟩ (ints_of_vals rv) fun h' tk t' hk => ⟨.int _, H, I.kept hk, ⟨_, rfl⟩, q _ _ _ _ (res_int sF _)⟩
end Mi
end

section
set_option Elab.async false
set_option linter.all false
set_option maxRecDepth 100000
/-! The state of a body: its slots, its values in flight, what they hold. -/
namespace Mi
open PySem PySem.Spec PyProof.Rows L2
variable [LT]

inductive Tm where
  | own (d : D) (fp : List Addr) | ref (i : Nat)
def Tm.fp : Tm → List Addr
  | .own _ fp => fp
  | .ref _ => []
/-- the heap at a def's entry: what stays, all, what the arguments hold -/
structure Bs where
  F0 : Hp
  H0 : Hp
  fp0 : List Addr
/-- what is held: all addresses, no one twice, apart from what stays -/
structure OwnOk (B : Bs) (F H : Hp) (all : List Addr) : Prop where
  sub : Same F H
  base : Same B.F0 F
  frame : ∀ b o, B.H0 b = some o → (∀ ps, o ≠ .tbl ps) → b ∉ B.fp0 → H b = some o
  tbl : ∀ b ps, B.H0 b = some (.tbl ps) → ∃ qs, H b = some (.tbl qs)
  nof : ∀ b ps, F b ≠ some (.tbl ps)
  tabs : LamX.Tabs LT.T B.H0 → LamX.Tabs LT.T H
  ownB : ∀ a ∈ all, a ∈ B.fp0 ∨ B.H0 a = none
  frzB : ∀ b o, F b = some o → B.F0 b = some o ∨ b ∈ B.fp0 ∨ B.H0 b = none ∨ (B.H0 b = some o ∧ ∃ φ, o = .ext φ)
  nodup : all.Nodup
  disj : ∀ a ∈ all, F a = none
  live : ∀ a ∈ all, ∃ xs, H a = some (.lst xs)
def SubP (l m : List Addr) : Prop := ∃ r, (l ++ r).Perm m
theorem SubP.refl (l : List Addr) : SubP l l := ⟨[], by simp⟩
theorem SubP.trans {l m n : List Addr} (h : SubP l m) (k : SubP m n) : SubP l n := by
  obtain ⟨r, h⟩ := h
  obtain ⟨q, k⟩ := k
  exact ⟨r ++ q, by rw [← List.append_assoc]; exact (h.append_right q).trans k⟩
theorem SubP.mem {l m : List Addr} (h : SubP l m) {a : Addr} (ha : a ∈ l) : a ∈ m := by
  obtain ⟨r, h⟩ := h
  exact h.mem_iff.mp (List.mem_append_left r ha)
theorem SubP.of_perm {l m : List Addr} (h : l.Perm m) : SubP l m := ⟨[], by simpa using h⟩
theorem SubP.right (l m : List Addr) : SubP m (l ++ m) := ⟨l, List.perm_append_comm⟩
theorem SubP.left (l m : List Addr) : SubP l (l ++ m) := ⟨m, .refl _⟩
theorem SubP.app {l m : List Addr} (h : SubP l m) (k : List Addr) : SubP (k ++ l) (k ++ m) := by
  obtain ⟨r, h⟩ := h
  exact ⟨r, by rw [List.append_assoc]; exact h.append_left k⟩
theorem SubP.app2 {l m : List Addr} (h : SubP l m) (k : List Addr) : SubP (l ++ k) (m ++ k) := by
  obtain ⟨r, h⟩ := h
  refine ⟨r, ?_⟩
  exact ((List.perm_append_comm (l₁ := l ++ k) (l₂ := r)).trans (by rw [← List.append_assoc]; exact (List.perm_append_comm.append_right k))).trans (h.append_right k)
theorem SubP.nodup {l m : List Addr} (h : SubP l m) (n : m.Nodup) : l.Nodup := by
  obtain ⟨r, h⟩ := h
  exact (List.nodup_append.mp (h.nodup_iff.mpr n)).1
variable {K : PySem.W.Frag} {B : Bs} {F F' H H' : Hp} {all fp : List Addr}
theorem OwnOk.less (o : OwnOk B F H all) {l : List Addr} (h : SubP l all) : OwnOk B F H l :=
  ⟨o.sub, o.base, o.frame, o.tbl, o.nof, o.tabs, fun a ha => o.ownB a (h.mem ha), o.frzB, h.nodup o.nodup, fun a ha => o.disj a (h.mem ha), fun a ha => o.live a (h.mem ha)⟩
theorem nodup_app {l m : List Addr} (h1 : l.Nodup) (h2 : m.Nodup) (h : ∀ a ∈ l, a ∉ m) : (l ++ m).Nodup :=
  List.nodup_append.mpr ⟨h1, h2, fun a ha b hb e => h a ha (e ▸ hb)⟩
theorem apart {l m : List Addr} (h : (l ++ m).Nodup) {a : Addr} (h1 : a ∈ l) (h2 : a ∈ m) : False :=
  (List.nodup_append.mp h).2.2 a h1 a h2 rfl
/-- what is free now was so at the entry, but for what the arguments hold -/
theorem OwnOk.fresh0 (o : OwnOk B F H all) {a : Addr} (h : H a = none) (hb : a ∉ B.fp0) : B.H0 a = none := by
  cases q : B.H0 a with
  | none => rfl
  | some u =>
    by_cases ht : ∃ ps, u = .tbl ps
    · obtain ⟨ps, rfl⟩ := ht
      obtain ⟨qs, e⟩ := o.tbl a ps q
      rw [h] at e; cases e
    · have := o.frame a u q (fun ps z => ht ⟨ps, z⟩) hb
      rw [h] at this; cases this
theorem OwnOk.grow (o : OwnOk B F H all) (hF : Same F F') (hH : Same H H') (hs : Same F' H') (nw : ∀ a ∈ fp, H a = none ∧ F' a = none) (nd : fp.Nodup) (fr : ∀ b u, F' b = some u → F b = some u ∨ H b = none)
    (lv : ∀ a ∈ fp, ∃ xs, H' a = some (.lst xs)) (nt : ∀ b ps, F' b = some (.tbl ps) → F b = some (.tbl ps)) : OwnOk B F' H' (fp ++ all) where
  sub := hs
  base := Same.trans o.base hF
  frame := fun b u e m n => hH _ _ (o.frame b u e m n)
  tbl := fun b ps e => by
    obtain ⟨qs, z⟩ := o.tbl b ps e
    exact ⟨qs, hH _ _ z⟩
  nof := fun b ps e => o.nof b ps (nt b _ e)
  tabs := fun h => (o.tabs h).ext hH
  ownB := fun a ha => by
    rcases List.mem_append.mp ha with h | h
    · by_cases hb : a ∈ B.fp0
      · exact .inl hb
      · exact .inr (o.fresh0 (nw a h).1 hb)
    · exact o.ownB a h
  frzB := fun b u e => by
    rcases fr b u e with h | h
    · exact o.frzB b u h
    · by_cases hb : b ∈ B.fp0
      · exact .inr (.inl hb)
      · exact .inr (.inr (.inl (o.fresh0 h hb)))
  nodup := nodup_app nd o.nodup fun a h1 h2 => by
    obtain ⟨xs, e⟩ := o.live a h2
    rw [(nw a h1).1] at e
    cases e
  disj := fun a ha => by
    rcases List.mem_append.mp ha with h | h
    · exact (nw a h).2
    · cases q : F' a with
      | none => rfl
      | some u =>
        rcases fr a u q with z | z
        · rw [o.disj a h] at z; cases z
        · obtain ⟨xs, e⟩ := o.live a h
          rw [z] at e; cases e
  live := fun a ha => by
    rcases List.mem_append.mp ha with h | h
    · exact lv a h
    · obtain ⟨xs, e⟩ := o.live a h
      exact ⟨xs, hH _ _ e⟩
theorem OwnOk.prim [Fr] {d : D} {v : V} (o : OwnOk B F H all) (p : PrimRes K F H F' H' d v fp) : OwnOk B F' H' (fp ++ all) :=
  o.grow p.fF p.hH p.sub p.nw p.nd p.fr (Rep.lists d v fp p.rep) fun b ps => p.nt b _ True.intro
/-- a tuple is made -/
theorem OwnOk.tuple (o : OwnOk B F H all) {p : Addr} (hp : H p = none) (vs : List V) : OwnOk B (upd F p (.tup vs)) (upd H p (.tup vs)) all := by
  have e := Same.none o.sub hp
  have := o.grow (F' := upd F p (.tup vs)) (H' := upd H p (.tup vs)) (fp := []) (same_upd e) (same_upd hp) (fun b u z => by
    by_cases q : b = p
    · subst q; rw [upd_same] at z ⊢; exact z
    · rw [upd_ne q] at z ⊢; exact o.sub b u z) (fun _ h => nomatch h) .nil (fun b u z => by
    by_cases q : b = p
    · subst q; exact .inr hp
    · rw [upd_ne q] at z; exact .inl z) (fun _ h => nomatch h) (fun b u z => by
    by_cases q : b = p
    · subst q; rw [upd_same] at z; cases z
    · rw [upd_ne q] at z; exact z)
  simpa using this
theorem OwnOk.list (o : OwnOk B F H all) {p : Addr} (hp : H p = none) (vs : List V) : OwnOk B F (upd H p (.lst vs)) (p :: all) := by
  have e := Same.none o.sub hp
  have := o.grow (F' := F) (H' := upd H p (.lst vs)) (fp := [p]) (Same.refl _) (same_upd hp) (Same.trans o.sub (same_upd hp)) (fun a h => by
    have z : a = p := by simpa using h
    subst z; exact ⟨hp, e⟩) (by simp) (fun b u z => .inl z) (fun a h => by
    have z : a = p := by simpa using h
    subst z; exact ⟨vs, upd_same⟩) (fun _ _ z => z)
  simpa using this
/-- what is held at fp becomes a thing that stays -/
def frzF (F H : Hp) (fp : List Addr) : Hp := fun b => if b ∈ fp then H b else F b
theorem frzF_same (o : OwnOk B F H (fp ++ all)) : Same F (frzF F H fp) := fun b u e => by
  unfold frzF
  split
  · exact o.sub b u e
  · exact e
theorem frzF_at {a : Addr} (h : a ∈ fp) : frzF F H fp a = H a := by unfold frzF; rw [if_pos h]
theorem frzF_nt (o : OwnOk B F H (fp ++ all)) : ∀ b u, Hard u → frzF F H fp b = some u → F b = some u := fun b u hu e => by
  unfold frzF at e
  split at e
  · rename_i hb
    obtain ⟨xs, q⟩ := o.live b (List.mem_append_left _ hb)
    rw [q] at e
    cases e
    exact hu.elim
  · exact e
theorem OwnOk.freeze (o : OwnOk B F H (fp ++ all)) : OwnOk B (frzF F H fp) H all where
  sub := fun b u e => by
    unfold frzF at e
    split at e
    · exact e
    · exact o.sub b u e
  base := Same.trans o.base (frzF_same o)
  frame := o.frame
  tbl := o.tbl
  nof := fun b ps e => by
    unfold frzF at e
    split at e
    · rename_i hb
      obtain ⟨xs, z⟩ := o.live b (List.mem_append_left _ hb)
      rw [z] at e; cases e
    · exact o.nof b ps e
  tabs := o.tabs
  ownB := fun a ha => o.ownB a (List.mem_append_right _ ha)
  frzB := fun b u e => by
    unfold frzF at e
    split at e
    · rename_i hb
      rcases o.ownB b (List.mem_append_left _ hb) with h | h
      · exact .inr (.inl h)
      · exact .inr (.inr (.inl h))
    · exact o.frzB b u e
  nodup := (SubP.right fp all).nodup o.nodup
  disj := fun a ha => by
    unfold frzF
    rw [if_neg fun h => apart o.nodup h ha]
    exact o.disj a (List.mem_append_right _ ha)
  live := fun a ha => o.live a (List.mem_append_right _ ha)
theorem OwnOk.write (o : OwnOk B F H all) {a : Addr} (ha : a ∈ all) (xs : List V) : OwnOk B F (upd H a (.lst xs)) all where
  sub := fun b u e => by
    have : b ≠ a := fun z => by subst z; rw [o.disj b ha] at e; cases e
    rw [upd_ne this]
    exact o.sub b u e
  base := o.base
  frame := fun b u e m n => by
    have : b ≠ a := fun z => by
      subst z
      rcases o.ownB b ha with h | h
      · exact n h
      · rw [h] at e; cases e
    rw [upd_ne this]
    exact o.frame b u e m n
  tbl := fun b ps e => by
    obtain ⟨qs, z⟩ := o.tbl b ps e
    obtain ⟨ys, y⟩ := o.live a ha
    have : b ≠ a := fun w => by subst w; rw [y] at z; cases z
    exact ⟨qs, by rw [upd_ne this]; exact z⟩
  nof := o.nof
  tabs := fun h p hp => by
    obtain ⟨ys, y⟩ := o.live a ha
    obtain ⟨ps, z1, z2, z3⟩ := o.tabs h p hp
    have n1 : p.1 ≠ a := fun w => by rw [w, y] at z1; cases z1
    refine ⟨ps, by rw [upd_ne n1]; exact z1, z2, fun pos cv hc => ?_⟩
    obtain ⟨c, e1, e2⟩ := z3 pos cv hc
    have n2 : c ≠ a := fun w => by
      rw [w, y] at e2
      have e3 := Option.some.inj e2
      unfold LamX.CodeO at e3
      cases e3
    exact ⟨c, e1, by rw [upd_ne n2]; exact e2⟩
  ownB := o.ownB
  frzB := o.frzB
  nodup := o.nodup
  disj := o.disj
  live := fun b hb => by
    by_cases e : b = a
    · subst e; exact ⟨xs, upd_same⟩
    · rw [upd_ne e]; exact o.live b hb

variable [Fr]
/-! ### slots and values in flight -/
def tfp : List (V × Tm) → List Addr
  | [] => []
  | t :: ts => t.2.fp ++ tfp ts
theorem tfp_app : ∀ a b : List (V × Tm), tfp (a ++ b) = tfp a ++ tfp b
  | [], b => rfl
  | t :: a, b => by simp only [List.cons_append, tfp]; rw [tfp_app a b, List.append_assoc]
def TmOk (K : PySem.W.Frag) (F H : Hp) (σ : L2.St) (t : V × Tm) : Prop := match t.2 with
  | .own d fp => Rep K F H d t.1 fp
  | .ref i => σ[i]? = some (some t.1)
structure Sta (K : PySem.W.Frag) (B : Bs) (lk : List (Nat × V)) (F H : Hp) (σ : L2.St) (ρ : Env) (fps : List (List Addr)) (ts : List (V × Tm)) : Prop where
  own : OwnOk B F H (tfp ts ++ fps.flatten)
  len : σ.length = ρ.length
  lenF : fps.length = ρ.length
  slots : ∀ i d, getE ρ i = some d → ∃ v, σ[i]? = some (some v) ∧ Rep K F H d v (fps.getD i [])
  temps : ∀ t ∈ ts, TmOk K F H σ t
  locks : ∀ p ∈ lk, σ[p.1]? = some (some p.2)
  tb : LamX.Tabs LT.T B.H0
  opn : ∀ f LF e pm ctv, F f = some (LamO LF e pm ctv) → CellsF F LF.cl ∨ ∀ y c, LF.cl.lookup y = some c → Fr.cells.lookup y = some c
variable {lk : List (Nat × V)} {σ : L2.St} {ρ : Env} {fps : List (List Addr)} {ts : List (V × Tm)}

theorem getE_lt {i : Nat} {d : D} (h : getE ρ i = some d) : i < ρ.length := by
  unfold getE at h
  split at h
  · rename_i o e
    exact (List.getElem?_eq_some_iff.mp e).1
  · cases h
theorem getE_set_same {i : Nat} {x : Option D} (h : i < ρ.length) : getE (ρ.set i x) i = x := by
  unfold getE
  rw [List.getElem?_set_self h]
theorem getE_set_ne {i j : Nat} {x : Option D} (h : i ≠ j) : getE (ρ.set i x) j = getE ρ j := by
  unfold getE
  rw [List.getElem?_set_ne h]
theorem flat_split : ∀ (fps : List (List Addr)) (i : Nat), i < fps.length → fps.flatten.Perm (fps.getD i [] ++ (fps.set i []).flatten)
  | [], i, h => by simp at h
  | f :: r, 0, _ => by simp
  | f :: r, i + 1, h => by
    simp only [List.flatten_cons, List.getD_cons_succ, List.set_cons_succ]
    have := flat_split r i (by simpa using h)
    refine (this.append_left f).trans ?_
    rw [← List.append_assoc, ← List.append_assoc]
    exact List.perm_append_comm.append_right _
theorem flat_set (fps : List (List Addr)) (i : Nat) (x : List Addr) (h : i < fps.length) : (fps.set i x).flatten.Perm (x ++ (fps.set i []).flatten) := by
  have := flat_split (fps.set i x) i (by simpa using h)
  simpa [List.getD, h] using this
theorem getD_set_ne {fps : List (List Addr)} {i j : Nat} {x : List Addr} (h : i ≠ j) : (fps.set i x).getD j [] = fps.getD j [] := by
  simp [List.getD, List.getElem?_set_ne h]
theorem getD_set_same {fps : List (List Addr)} {i : Nat} {x : List Addr} (h : i < fps.length) : (fps.set i x).getD i [] = x := by
  simp [List.getD, h]
theorem getD_mem {fps : List (List Addr)} {i : Nat} {a : Addr} (h : a ∈ fps.getD i []) : a ∈ fps.flatten := by
  rw [List.getD_eq_getElem?_getD] at h
  cases e : fps[i]? with
  | none => rw [e] at h; simp at h
  | some f =>
    rw [e] at h
    exact List.mem_flatten.mpr ⟨f, List.mem_of_getElem? e, h⟩
theorem tfp_mem : ∀ {ts : List (V × Tm)} {t : V × Tm} {a : Addr}, t ∈ ts → a ∈ t.2.fp → a ∈ tfp ts
  | [], _, _, h, _ => nomatch h
  | u :: ts, t, a, h, ha => by
    simp only [tfp]
    rcases List.mem_cons.mp h with rfl | h
    · exact List.mem_append_left _ ha
    · exact List.mem_append_right _ (tfp_mem h ha)
/-- where nothing held is changed -/
theorem TmOk.mono {t : V × Tm} (hF : Same F F') (hH : ∀ a ∈ t.2.fp, H' a = H a) (h : TmOk K F H σ t) : TmOk K F' H' σ t := by
  unfold TmOk at h ⊢
  cases e : t.2 with
  | own d fp => rw [e] at h hH; exact Rep.mono hF _ _ _ hH h
  | ref i => rw [e] at h; exact h
theorem Sta.mono0 (S : Sta K B lk F H σ ρ fps ts) (hF : Same F F') (hH : ∀ a ∈ tfp ts ++ fps.flatten, H' a = H a) (o : OwnOk B F' H' (tfp ts ++ fps.flatten)) (op : ∀ f LF e pm ctv, F' f = some (LamO LF e pm ctv) → CellsF F' LF.cl ∨ ∀ y c, LF.cl.lookup y = some c → Fr.cells.lookup y = some c) : Sta K B lk F' H' σ ρ fps ts :=
  ⟨o, S.len, S.lenF, fun i d e => by
    obtain ⟨v, e1, r⟩ := S.slots i d e
    exact ⟨v, e1, Rep.mono hF _ _ _ (fun a ha => hH a (List.mem_append_right _ (getD_mem ha))) r⟩,
    fun t ht => TmOk.mono hF (h := S.temps t ht) fun a ha => hH a (List.mem_append_left _ (tfp_mem ht ha)), S.locks, S.tb, op⟩
theorem Sta.mono {all : List Addr} (S : Sta K B lk F H σ ρ fps ts) (hF : Same F F') (hH : ∀ a ∈ tfp ts ++ fps.flatten, H' a = H a) (o : OwnOk B F' H' (tfp ts ++ fps.flatten)) (nt : ∀ b u, Hard u → F' b = some u → F b = some u) : Sta K B lk F' H' σ ρ fps ts :=
  ⟨o, S.len, S.lenF, fun i d e => by
    obtain ⟨v, e1, r⟩ := S.slots i d e
    exact ⟨v, e1, Rep.mono hF _ _ _ (fun a ha => hH a (List.mem_append_right _ (getD_mem ha))) r⟩,
    fun t ht => TmOk.mono hF (h := S.temps t ht) fun a ha => hH a (List.mem_append_left _ (tfp_mem ht ha)), S.locks, S.tb, fun f LF e pm ctv q => (S.opn f LF e pm ctv (nt _ _ hard_lam q)).imp_left (CellsF.mono hF)⟩
theorem live_keep {a : Addr} (o : OwnOk B F H all) (hH : Same H H') (ha : a ∈ all) : H' a = H a := by
  obtain ⟨xs, e⟩ := o.live a ha
  rw [e, hH _ _ e]
theorem Sta.push {d : D} {v : V} (S : Sta K B lk F H σ ρ fps ts) (p : PrimRes K F H F' H' d v fp) : Sta K B lk F' H' σ ρ fps ((v, .own d fp) :: ts) := by
  have o := S.own.prim p
  have S' := Sta.mono (all := []) S p.fF (fun a ha => live_keep S.own p.hH ha) (o.less (SubP.right _ _)) p.nt
  refine ⟨?_, S'.len, S'.lenF, S'.slots, fun t ht => ?_, S'.locks, S'.tb, S'.opn⟩
  · simp only [tfp, Tm.fp]
    rw [List.append_assoc]
    exact o
  · rcases List.mem_cons.mp ht with rfl | ht
    · exact p.rep
    · exact S'.temps t ht
theorem Sta.drop {t : V × Tm} (S : Sta K B lk F H σ ρ fps (t :: ts)) : Sta K B lk F H σ ρ fps ts :=
  ⟨S.own.less (by simp only [tfp]; rw [List.append_assoc]; exact SubP.right _ _), S.len, S.lenF, S.slots, fun u hu => S.temps u (List.mem_cons_of_mem _ hu), S.locks, S.tb, S.opn⟩
theorem Sta.drops {us : List (V × Tm)} (S : Sta K B lk F H σ ρ fps (us ++ ts)) : Sta K B lk F H σ ρ fps ts := by
  induction us with
  | nil => exact S
  | cons u us ih => exact ih S.drop
theorem Sta.pushS {d : D} {v : V} (S : Sta K B lk F H σ ρ fps ts) (h : Rep K F H d v []) : Sta K B lk F H σ ρ fps ((v, .own d []) :: ts) := S.push (.here S.own.sub h)
theorem Sta.pushRef {i : Nat} {v : V} (S : Sta K B lk F H σ ρ fps ts) (h : σ[i]? = some (some v)) : Sta K B lk F H σ ρ fps ((v, .ref i) :: ts) := by
  refine ⟨?_, S.len, S.lenF, S.slots, fun t ht => ?_, S.locks, S.tb, S.opn⟩
  · simp only [tfp, Tm.fp, List.nil_append]; exact S.own
  · rcases List.mem_cons.mp ht with rfl | ht
    · exact h
    · exact S.temps t ht
theorem Sta.pushOwn {d : D} {v : V} {fp : List Addr} (S : Sta K B lk F H σ ρ fps ts) (o : OwnOk B F H (fp ++ (tfp ts ++ fps.flatten))) (h : Rep K F H d v fp) : Sta K B lk F H σ ρ fps ((v, .own d fp) :: ts) := by
  refine ⟨?_, S.len, S.lenF, S.slots, fun t ht => ?_, S.locks, S.tb, S.opn⟩
  · simp only [tfp, Tm.fp]; rw [List.append_assoc]; exact o
  · rcases List.mem_cons.mp ht with rfl | ht
    · exact h
    · exact S.temps t ht
/-- all that is held, the i-th slot's first -/
theorem Sta.split {i : Nat} (S : Sta K B lk F H σ ρ fps ts) (h : i < ρ.length) : (tfp ts ++ fps.flatten).Perm (fps.getD i [] ++ (tfp ts ++ (fps.set i []).flatten)) := by
  refine ((flat_split fps i (by rw [S.lenF]; exact h)).append_left (tfp ts)).trans ?_
  rw [← List.append_assoc, ← List.append_assoc]
  exact List.perm_append_comm.append_right _
theorem OwnOk.perm {l : List Addr} (o : OwnOk B F H all) (h : l.Perm all) : OwnOk B F H l := o.less (.of_perm h)
/-- a slot is emptied -/
theorem Sta.clear {i : Nat} (S : Sta K B lk F H σ ρ fps ts) (h : i < ρ.length) : Sta K B lk F H σ (ρ.set i none) (fps.set i []) ts := by
  refine ⟨(S.own.perm (S.split h).symm).less (SubP.right _ _), by simp [S.len], by simp [S.lenF], fun j d e => ?_, S.temps, S.locks, S.tb, S.opn⟩
  by_cases hj : i = j
  · subst hj
    rw [getE_set_same h] at e
    cases e
  · rw [getE_set_ne hj] at e
    rw [getD_set_ne hj]
    exact S.slots j d e
theorem Sta.move {i : Nat} {d : D} (S : Sta K B lk F H σ ρ fps ts) (e : getE ρ i = some d) : ∃ v, σ[i]? = some (some v) ∧ Sta K B lk F H σ (ρ.set i none) (fps.set i []) ((v, .own d (fps.getD i [])) :: ts) := by
  obtain ⟨v, e1, r⟩ := S.slots i d e
  have hl := getE_lt e
  exact ⟨v, e1, (S.clear hl).pushOwn (S.own.perm (S.split hl).symm) r⟩
/-- a name's value is frozen -/
theorem Sta.freeze {i : Nat} {d : D} (S : Sta K B lk F H σ ρ fps ts) (e : getE ρ i = some d) : ∃ v F', σ[i]? = some (some v) ∧ Same F F' ∧ Rep K F' H d.frz v [] ∧ Sta K B lk F' H σ (ρ.set i (some d.frz)) (fps.set i []) ts := by
  obtain ⟨v, e1, r⟩ := S.slots i d e
  have hl := getE_lt e
  have o := S.own.perm (S.split hl).symm
  have r' : Rep K (frzF F H (fps.getD i [])) H d.frz v [] := Rep.frz (frzF_same o) _ _ _ (fun a ha => frzF_at ha) r
  have C := Sta.mono (all := []) (S.clear hl) (frzF_same o) (fun _ _ => rfl) o.freeze (frzF_nt o)
  refine ⟨v, _, e1, frzF_same o, r', C.own, by simp [S.len], by simp [S.lenF], fun j d' e' => ?_, C.temps, C.locks, C.tb, C.opn⟩
  by_cases hj : i = j
  · subst hj
    rw [getE_set_same hl] at e'
    cases e'
    rw [getD_set_same (by rw [S.lenF]; exact hl)]
    exact ⟨v, e1, r'⟩
  · have := C.slots j d' (by rw [getE_set_ne hj]; rw [getE_set_ne hj] at e'; exact e')
    exact this
/-- a value in flight is frozen -/
theorem Sta.freezeT {d : D} {v : V} {fp : List Addr} (S : Sta K B lk F H σ ρ fps ((v, .own d fp) :: ts)) : ∃ F', Same F F' ∧ Rep K F' H d.frz v [] ∧ Sta K B lk F' H σ ρ fps ts := by
  have o : OwnOk B F H (fp ++ (tfp ts ++ fps.flatten)) := by
    have := S.own
    simp only [tfp, Tm.fp] at this
    rw [List.append_assoc] at this
    exact this
  have r : Rep K F H d v fp := S.temps _ (List.mem_cons_self ..)
  exact ⟨_, frzF_same o, Rep.frz (frzF_same o) _ _ _ (fun a ha => frzF_at ha) r, Sta.mono (all := []) S.drop (frzF_same o) (fun _ _ => rfl) o.freeze (frzF_nt o)⟩
/-- a value goes into a slot -/
theorem Sta.store {i : Nat} {d : D} {v : V} {fp : List Addr} (S : Sta K B lk F H σ ρ fps ((v, .own d fp) :: ts)) (hi : i < ρ.length) (hk : ∀ p ∈ lk, p.1 ≠ i) (ht : ∀ t ∈ ts, t.2 ≠ .ref i) :
    Sta K B lk F H (σ.set i (some v)) (ρ.set i (some d)) (fps.set i fp) ts := by
  have hf : i < fps.length := by rw [S.lenF]; exact hi
  have r : Rep K F H d v fp := S.temps _ (List.mem_cons_self ..)
  refine ⟨?_, by simp [S.len], by simp [S.lenF], fun j d' e => ?_, fun t h => ?_, fun p hp => ?_, S.tb, S.opn⟩
  · refine S.own.less ?_
    simp only [tfp, Tm.fp]
    rw [List.append_assoc]
    have h1 : (tfp ts ++ (fps.set i fp).flatten).Perm (fp ++ (tfp ts ++ (fps.set i []).flatten)) := by
      refine ((flat_set fps i fp hf).append_left (tfp ts)).trans ?_
      rw [← List.append_assoc, ← List.append_assoc]
      exact List.perm_append_comm.append_right _
    have h2 : SubP (fps.set i []).flatten fps.flatten := SubP.trans (SubP.right (fps.getD i []) _) (.of_perm (flat_split fps i hf).symm)
    exact SubP.trans (.of_perm h1) (SubP.app (SubP.app h2 (tfp ts)) fp)
  · by_cases hj : i = j
    · subst hj
      rw [getE_set_same hi] at e
      cases e
      rw [getD_set_same hf, List.getElem?_set_self (by rw [S.len]; exact hi)]
      exact ⟨v, rfl, r⟩
    · rw [getE_set_ne hj] at e
      rw [getD_set_ne hj, List.getElem?_set_ne hj]
      exact S.slots j d' e
  · have q := S.temps t (List.mem_cons_of_mem _ h)
    have ne := ht t h
    unfold TmOk at q ⊢
    cases e : t.2 with
    | own d fp => rw [e] at q; exact q
    | ref j =>
      rw [e] at q ne
      show (σ.set i (some v))[j]? = some (some t.1)
      rw [List.getElem?_set_ne (fun z => ne (by rw [z]))]
      exact q
  · rw [List.getElem?_set_ne (fun z => hk p hp z.symm)]
    exact S.locks p hp
/-- a held list's items are changed; what the new ones hold is what the old ones and a value in flight held -/
theorem Sta.write {i : Nat} {o : Bool} {ds ds' : List D} {a : Addr} {vs vs' : List V} {f f' g : List Addr} {v : V} {e : D} (S : Sta K B lk F H σ ρ fps ((v, .own e g) :: ts)) (hd : getE ρ i = some (.lst true ds)) (hv : σ[i]? = some (some (.ref a))) (ha : H a = some (.lst vs))
    (hp : fps.getD i [] = a :: f) (hr : ∀ H', (∀ b ∈ f ++ g, H' b = H b) → RepL K F H' ds' vs' f') (hf : SubP f' (f ++ g)) :
    Sta K B lk F (upd H a (.lst vs')) σ (ρ.set i (some (.lst true ds'))) (fps.set i (a :: f')) ts := by
  have hl := getE_lt hd
  have hfl : i < fps.length := by rw [S.lenF]; exact hl
  have hperm : (tfp ((v, .own e g) :: ts) ++ fps.flatten).Perm (a :: ((f ++ g) ++ (tfp ts ++ (fps.set i []).flatten))) := by
    simp only [tfp, Tm.fp]
    rw [List.append_assoc]
    refine ((S.drop.split hl).append_left g).trans ?_
    rw [hp]
    refine (List.perm_append_comm (l₁ := g) (l₂ := (a :: f) ++ (tfp ts ++ (fps.set i []).flatten))).trans ?_
    simp only [List.cons_append, List.append_assoc]
    refine List.Perm.cons a ?_
    refine List.Perm.append_left f ?_
    rw [← List.append_assoc]
    exact List.perm_append_comm
  have o0 := S.own.perm hperm.symm
  have o1 := o0.write (a := a) (List.mem_cons_self ..) vs'
  have hn : a ∉ (f ++ g) ++ (tfp ts ++ (fps.set i []).flatten) := (List.nodup_cons.mp o0.nodup).1
  have keepH : ∀ b ∈ (f ++ g) ++ (tfp ts ++ (fps.set i []).flatten), upd H a (.lst vs') b = H b := fun b hb => upd_ne fun z => hn (z ▸ hb)
  refine ⟨?_, by simp [S.len], by simp [S.lenF], fun j d e => ?_, fun t ht => ?_, S.locks, S.tb, S.opn⟩
  · refine o1.less (SubP.trans (m := a :: (f' ++ (tfp ts ++ (fps.set i []).flatten))) (.of_perm (((flat_set fps i (a :: f') hfl).append_left (tfp ts)).trans ?_)) ?_)
    · simp only [List.cons_append]
      refine (List.perm_middle).trans (List.Perm.cons a ?_)
      rw [← List.append_assoc, ← List.append_assoc]
      exact List.perm_append_comm.append_right _
    · have := SubP.app (SubP.app2 hf (tfp ts ++ (fps.set i []).flatten)) [a]
      simpa using this
  · by_cases hj : i = j
    · subst hj
      rw [getE_set_same hl] at e
      cases e
      rw [getD_set_same hfl]
      refine ⟨.ref a, hv, ?_⟩
      simp only [Rep]
      exact ⟨a, vs', f', rfl, upd_same, hr _ fun b hb => keepH b (List.mem_append_left _ hb), rfl⟩
    · rw [getE_set_ne hj] at e
      rw [getD_set_ne hj]
      obtain ⟨w, e1, r⟩ := S.slots j d e
      refine ⟨w, e1, Rep.mono (Same.refl _) _ _ _ (fun b hb => keepH b (List.mem_append_right _ (List.mem_append_right _ ?_))) r⟩
      rw [← getD_set_ne (i := i) (x := []) hj] at hb
      exact getD_mem hb
  · exact TmOk.mono (Same.refl _) (h := S.temps t (List.mem_cons_of_mem _ ht)) fun b hb => keepH b (List.mem_append_right _ (List.mem_append_left _ (tfp_mem ht hb)))
end Mi
end

section
set_option Elab.async false
set_option linter.all false
set_option maxRecDepth 100000
/-! What the small language computes, as readings. -/
namespace Mi
open PySem PySem.Spec PyProof.Rows L2
variable [LT] [Fr]

/-- x: what is wanted of an exception -/
def Out {α : Type} (x : String → D → Env → Prop) (r : R α) (k : α → Env → Prop) : Prop := match r with
  | .ok a ρ => k a ρ
  | .exc c d ρ => x c d ρ
  | .stk => False
theorem out_bind {α β : Type} {x : String → D → Env → Prop} {r : R α} {f : α → Env → R β} {k : β → Env → Prop} : Out x (r.bind f) k ↔ Out x r fun a ρ => Out x (f a ρ) k := by
  cases r <;> exact Iff.rfl
theorem Out.imp {α : Type} {x : String → D → Env → Prop} {r : R α} {k k' : α → Env → Prop} (h : Out x r k) (hk : ∀ a ρ, k a ρ → k' a ρ) : Out x r k' := by
  cases r with
  | ok a ρ => exact hk _ _ h
  | exc _ _ _ => exact h
  | stk => exact h

theorem Out.imp' {α : Type} {x : String → D → Env → Prop} {r : R α} {k k' : α → Env → Prop} (h : Out x r k) (hk : ∀ a ρ, r = .ok a ρ → k a ρ → k' a ρ) : Out x r k' := by
  cases r with
  | ok a ρ => exact hk _ _ rfl h
  | exc _ _ _ => exact h
  | stk => exact h

/-- an exception of the class at c that bears d -/
def RepX (K : PySem.W.Frag) (F H : Hp) (c : String) (d : D) (cls : Value) (dx : Option Addr) : Prop := cls = .ref (He.ga K (PySem.Str.ofString c)) ∧ ∃ a v, dx = some a ∧ F a = some (.xd [("value", v)]) ∧ Rep K F H d v []
/-- what is wanted of an exception that leaves the body -/
def XC (K : PySem.W.Frag) (E : XK) (B : Bs) (lk : List (Nat × V)) (σ : L2.St) (c : String) (d : D) (ρ : Env) : Prop := ∀ cls dx F H fps, Sta K B lk F H σ ρ fps [] → RepX K F H c d cls dx → E cls dx H
def noX : XK := fun _ _ _ => False

def OvIs : OV → Tm → Prop
  | .val d, t => ∃ fp, t = .own d fp
  | .ref i, t => t = .ref i
def OvsIs : List OV → List (V × Tm) → Prop
  | [], [] => True
  | o :: os, t :: ts => OvIs o t.2 ∧ OvsIs os ts
  | _, _ => False
theorem OvsIs.app : ∀ {os os' : List OV} {ts ts' : List (V × Tm)}, OvsIs os ts → OvsIs os' ts' → OvsIs (os ++ os') (ts ++ ts')
  | [], os', [], ts', _, h => h
  | o :: os, os', t :: ts, ts', h, h' => ⟨h.1, OvsIs.app h.2 h'⟩
  | [], _, _ :: _, _, h, _ => h.elim
  | _ :: _, _, [], _, h, _ => h.elim
theorem OvsIs.length : ∀ {os : List OV} {ts : List (V × Tm)}, OvsIs os ts → os.length = ts.length
  | [], [], _ => rfl
  | o :: os, t :: ts, h => by simp [OvsIs.length h.2]
  | [], _ :: _, h => h.elim
  | _ :: _, [], h => h.elim

/-- an expression's reading -/
def tI (K : PySem.W.Frag) (Φ : Fns) (E : XK) (ie : IE) : TE := fun σ H Q => ∃ B lk F ρ fps ts, Sta K B lk F H σ ρ fps ts ∧
  Out (XC K E B lk σ) (ev Φ ie ρ) fun d ρ' => ∀ v fp F' H' fps', Sta K B lk F' H' σ ρ' fps' ((v, .own d fp) :: ts) → Q v H'
/-- an operand's -/
def tO (K : PySem.W.Frag) (Φ : Fns) (E : XK) (ie : IE) : TE := fun σ H Q => ∃ B lk F ρ fps ts, Sta K B lk F H σ ρ fps ts ∧
  Out (XC K E B lk σ) (evs Φ [ie] ρ) fun os ρ' => ∃ o, os = [o] ∧ ∀ v tm F' H' fps', OvIs o tm → Sta K B lk F' H' σ ρ' fps' ((v, tm) :: ts) → Q v H'
/-- operands, from the left -/
def tOs (K : PySem.W.Frag) (Φ : Fns) (E : XK) (ies : List IE) : TA := fun σ H Q => ∃ B lk F ρ fps ts, Sta K B lk F H σ ρ fps ts ∧
  Out (XC K E B lk σ) (evs Φ ies ρ) fun os ρ' => ∀ tms F' H' fps', OvsIs os tms → Sta K B lk F' H' σ ρ' fps' (tms.reverse ++ ts) → Q (tms.map (·.1)) H'
/-- a test's -/
def tT (K : PySem.W.Frag) (Φ : Fns) (E : XK) (ie : IE) : TT := fun σ H Q => ∃ B lk F ρ fps ts, Sta K B lk F H σ ρ fps ts ∧
  Out (XC K E B lk σ) (ev Φ ie ρ) fun d ρ' => ∃ b, d = .bl b ∧ ∀ F' H' fps', Sta K B lk F' H' σ ρ' fps' ts → Q b H'

theorem PE.imp {X : Cx} {e : Expr} {t t' : TE} (h : PE X e t) (hi : ∀ σ H Q, t' σ H Q → t σ H Q) : PE X e t' := ⟨fun pins s σ H Q I q => h.run pins s σ H Q I (hi σ H Q q)⟩
theorem PT.imp {X : Cx} {e : Expr} {t t' : TT} (h : PT X e t) (hi : ∀ σ H Q, t' σ H Q → t σ H Q) : PT X e t' := ⟨fun pins s σ H Q I q => h.run pins s σ H Q I (hi σ H Q q)⟩
theorem PA.imp {X : Cx} {e : List Expr} {t t' : TA} (h : PA X e t) (hi : ∀ σ H Q, t' σ H Q → t σ H Q) : PA X e t' := ⟨fun pos pins s σ H Q I q => h.run pos pins s σ H Q I (hi σ H Q q)⟩

variable {K : PySem.W.Frag} {Φ : Fns} {E : XK} {B : Bs} {lk : List (Nat × V)} {F F' H H' : Hp} {σ : L2.St} {ρ : Env} {fps : List (List Addr)} {ts : List (V × Tm)} {Q : VK}
theorem tT_tI {ie : IE} {Q : Bool → Hp → Prop} (h : tT K Φ E ie σ H Q) : tI K Φ E ie σ H (fun x H' => ∃ k, x = .bl k ∧ Q k H') := by
  obtain ⟨B, lk, F, ρ, fps, ts, S, o⟩ := h
  refine ⟨B, lk, F, ρ, fps, ts, S, o.imp fun d ρ' h v fp F' H' fps' S' => ?_⟩
  obtain ⟨b, rfl, q⟩ := h
  have r : Rep K F' H' (.bl b) v fp := S'.temps _ (List.mem_cons_self ..)
  exact ⟨b, rep_bl r, q _ _ _ S'.drop⟩
/-- an operand in flight -/
theorem Sta.wrep {t : V × Tm} {o : OV} {d : D} (S : Sta K B lk F H σ ρ fps ts) (ht : t ∈ ts) (hi : OvIs o t.2) (e : o.get ρ = some d) : WRep K F H d t.1 := by
  have q := S.temps t ht
  unfold TmOk at q
  cases o with
  | val d0 =>
    obtain ⟨fp, e2⟩ := hi
    rw [e2] at q
    cases e
    exact ⟨fp, q⟩
  | ref i =>
    have e2 : t.2 = .ref i := hi
    rw [e2] at q
    obtain ⟨v, e1, r⟩ := S.slots i d e
    have q : σ[i]? = some (some t.1) := q
    rw [e1] at q
    cases q
    exact ⟨_, r⟩
theorem Sta.wreps : ∀ {tms : List (V × Tm)} {os : List OV} {ds : List D}, Sta K B lk F H σ ρ fps ts → (∀ t ∈ tms, t ∈ ts) → OvsIs os tms → getAll ρ os = some ds → WRepL K F H ds (tms.map (·.1))
  | [], [], ds, S, _, _, e => by simp only [getAll] at e; cases e; trivial
  | t :: tms, o :: os, ds, S, ht, hi, e => by
    simp only [getAll] at e
    cases e1 : o.get ρ with
    | none => rw [e1] at e; cases e
    | some d =>
      cases e2 : getAll ρ os with
      | none => rw [e1, e2] at e; cases e
      | some ds' =>
        rw [e1, e2] at e
        cases e
        exact ⟨S.wrep (ht t (List.mem_cons_self ..)) hi.1 e1, Sta.wreps S (fun u hu => ht u (List.mem_cons_of_mem _ hu)) hi.2 e2⟩
  | [], _ :: _, _, _, _, h, _ => h.elim
  | _ :: _, [], _, _, _, h, _ => h.elim
/-! ### operands in a row -/
def isStar : IE → Bool
  | .star _ => true
  | _ => false
theorem evs_cons (a : IE) (es : List IE) (ρ : Env) : evs Φ (a :: es) ρ = (evs Φ [a] ρ).bind fun o ρ1 => (evs Φ es ρ1).bind fun os ρ2 => .ok (o ++ os) ρ2 := by
  cases a with
  | peek i =>
    simp only [evs]
    cases getE ρ i <;> rfl
  | peekF i =>
    simp only [evs]
    cases getE ρ i <;> rfl
  | star e =>
    simp only [evs]
    cases ev Φ e ρ with
    | ok d ρ1 =>
      simp only [R.bind]
      cases seqOf d with
      | none => rfl
      | some ds =>
        simp only
        split
        · rfl
        · simp only [List.append_nil]
    | exc c d ρ1 => rfl
    | stk => rfl
  | _ =>
    simp only [evs]
    cases ev Φ _ ρ <;> rfl
theorem ovs_one {o : OV} {tms : List (V × Tm)} (h : OvsIs [o] tms) : ∃ v tm, tms = [(v, tm)] ∧ OvIs o tm := by
  match tms, h with
  | [(v, tm)], h => exact ⟨v, tm, rfl, h.1⟩
theorem t_cons {a : IE} {es : List IE} {Q : List V → Hp → Prop} (hs : ∀ os ρ ρ', evs Φ [a] ρ = .ok os ρ' → ∃ o, os = [o]) (h : tOs K Φ E (a :: es) σ H Q) : tCons (tO K Φ E a) (tOs K Φ E es) σ H Q := by
  obtain ⟨B, lk, F, ρ, fps, ts, S, o⟩ := h
  rw [evs_cons, out_bind] at o
  refine ⟨B, lk, F, ρ, fps, ts, S, ?_⟩
  cases e : evs Φ [a] ρ with
  | exc _ _ _ => rw [e] at o; exact o
  | stk => rw [e] at o; exact o
  | ok os1 ρ1 =>
    rw [e] at o
    obtain ⟨o1, rfl⟩ := hs _ _ _ e
    refine ⟨o1, rfl, fun v tm F' H' fps' hi S' => ?_⟩
    refine ⟨B, lk, F', ρ1, fps', (v, tm) :: ts, S', ?_⟩
    have o' : Out (XC K E B lk σ) ((evs Φ es ρ1).bind fun os ρ2 => .ok ([o1] ++ os) ρ2) _ := o
    rw [out_bind] at o'
    refine o'.imp fun os ρ2 q tms F'' H'' fps'' hi2 S'' => ?_
    exact q ((v, tm) :: tms) F'' H'' fps'' ⟨hi, hi2⟩ (by simpa using S'')
theorem t_nil {Q : List V → Hp → Prop} (h : tOs K Φ E [] σ H Q) : tNil σ H Q := by
  obtain ⟨B, lk, F, ρ, fps, ts, S, o⟩ := h
  exact o [] F H fps trivial S
/-- an operand that is a value -/
theorem t_val {ie : IE} (he : ∀ ρ, evs Φ [ie] ρ = (ev Φ ie ρ).bind fun d ρ1 => .ok [.val d] ρ1) (h : tO K Φ E ie σ H Q) : tI K Φ E ie σ H Q := by
  obtain ⟨B, lk, F, ρ, fps, ts, S, o⟩ := h
  rw [he, out_bind] at o
  refine ⟨B, lk, F, ρ, fps, ts, S, o.imp fun d ρ' q v fp F' H' fps' S' => ?_⟩
  obtain ⟨o1, e, q⟩ := q
  cases e
  exact q v (.own d fp) F' H' fps' ⟨fp, rfl⟩ S'
theorem t_peek {i : Nat} (h : tO K Φ E (.peek i) σ H Q) : tVar i σ H Q := by
  obtain ⟨B, lk, F, ρ, fps, ts, S, o⟩ := h
  simp only [evs] at o
  cases e : getE ρ i with
  | none => rw [e] at o; exact o.elim
  | some d =>
    rw [e] at o
    obtain ⟨o1, e1, q⟩ := o
    cases e1
    obtain ⟨v, ev, r⟩ := S.slots i d e
    exact ⟨v, ev, q v (.ref i) F H fps rfl (S.pushRef ev)⟩
theorem t_peekF {i : Nat} (h : tO K Φ E (.peekF i) σ H Q) : tVar i σ H Q := by
  obtain ⟨B, lk, F, ρ, fps, ts, S, o⟩ := h
  simp only [evs] at o
  cases e : getE ρ i with
  | none => rw [e] at o; exact o.elim
  | some d =>
    rw [e] at o
    obtain ⟨o1, e1, q⟩ := o
    cases e1
    obtain ⟨v, F', ev, sF, r, S'⟩ := S.freeze e
    exact ⟨v, ev, q v (.ref i) F' H _ rfl (S'.pushRef ev)⟩
theorem t_var {i : Nat} (h : tI K Φ E (.var i) σ H Q) : tVar i σ H Q := by
  obtain ⟨B, lk, F, ρ, fps, ts, S, o⟩ := h
  simp only [ev] at o
  cases e : getE ρ i with
  | none => rw [e] at o; exact o.elim
  | some d =>
    rw [e] at o
    simp only at o
    split at o
    · obtain ⟨v, F', ev, sF, r, S'⟩ := S.freeze e
      exact ⟨v, ev, o v [] F' H _ (S'.pushS r)⟩
    · rename_i ho
      obtain ⟨v, ev, r⟩ := S.slots i d e
      exact ⟨v, ev, o v [] F H fps (S.pushS (Rep.nil (by simpa using ho) r))⟩
theorem t_mov {i : Nat} (h : tI K Φ E (.mov i) σ H Q) : tVar i σ H Q := by
  obtain ⟨B, lk, F, ρ, fps, ts, S, o⟩ := h
  simp only [ev] at o
  cases e : getE ρ i with
  | none => rw [e] at o; exact o.elim
  | some d =>
    rw [e] at o
    obtain ⟨v, ev, S'⟩ := S.move e
    exact ⟨v, ev, o v _ F H _ S'⟩
theorem t_const {d : D} {v : V} (hr : ∀ F H, Rep K F H d v []) (h : tI K Φ E (.const d) σ H Q) : tC v σ H Q := by
  obtain ⟨B, lk, F, ρ, fps, ts, S, o⟩ := h
  exact o v [] F H fps (S.pushS (hr F H))
theorem t_glob {d : D} {v : V} (hr : ∀ F H, Rep K F H d v []) (h : tI K Φ E (.glob d) σ H Q) : tC v σ H Q := by
  obtain ⟨B, lk, F, ρ, fps, ts, S, o⟩ := h
  exact o v [] F H fps (S.pushS (hr F H))
/-- two operands, then what is wanted of them -/
theorem t_two {a b : IE} {k : Bs → List (Nat × V) → List (V × Tm) → List OV → Env → Prop} {R2 : V → V → Hp → Prop} (ha : ∀ os ρ ρ', evs Φ [a] ρ = .ok os ρ' → ∃ o, os = [o]) (hb : ∀ os ρ ρ', evs Φ [b] ρ = .ok os ρ' → ∃ o, os = [o])
    (h : ∃ B lk F ρ fps ts, Sta K B lk F H σ ρ fps ts ∧ Out (XC K E B lk σ) (evs Φ [a, b] ρ) fun os ρ' => k B lk ts os ρ')
    (hk : ∀ B lk ts o1 o2 ρ' x y t1 t2 F' H' fps', k B lk ts [o1, o2] ρ' → OvIs o1 t1 → OvIs o2 t2 → Sta K B lk F' H' σ ρ' fps' ((y, t2) :: (x, t1) :: ts) → R2 x y H') :
    tO K Φ E a σ H fun x H1 => tO K Φ E b σ H1 fun y H2 => R2 x y H2 := by
  obtain ⟨B, lk, F, ρ, fps, ts, S, o⟩ := h
  rw [evs_cons, out_bind] at o
  refine ⟨B, lk, F, ρ, fps, ts, S, ?_⟩
  cases e : evs Φ [a] ρ with
  | exc _ _ _ => rw [e] at o; exact o
  | stk => rw [e] at o; exact o
  | ok os1 ρ1 =>
    rw [e] at o
    obtain ⟨o1, rfl⟩ := ha _ _ _ e
    refine ⟨o1, rfl, fun v tm F' H' fps' hi S' => ?_⟩
    have o : Out (XC K E B lk σ) ((evs Φ [b] ρ1).bind fun os ρ2 => .ok ([o1] ++ os) ρ2) (k B lk ts) := o
    rw [out_bind] at o
    refine ⟨B, lk, F', ρ1, fps', (v, tm) :: ts, S', ?_⟩
    cases e2 : evs Φ [b] ρ1 with
    | exc _ _ _ => rw [e2] at o; exact o
    | stk => rw [e2] at o; exact o
    | ok os2 ρ2 =>
      rw [e2] at o
      obtain ⟨o2, rfl⟩ := hb _ _ _ e2
      exact ⟨o2, rfl, fun v2 tm2 F2 H2 fps2 hi2 S2 => hk B lk ts o1 o2 ρ2 v v2 tm tm2 F2 H2 fps2 o hi hi2 S2⟩
theorem getAll2 {o1 o2 : OV} {ds : List D} (h : getAll ρ [o1, o2] = some ds) : ∃ a b, ds = [a, b] ∧ o1.get ρ = some a ∧ o2.get ρ = some b := by
  simp only [getAll] at h
  cases e1 : o1.get ρ with
  | none => rw [e1] at h; cases h
  | some a =>
    cases e2 : o2.get ρ with
    | none => rw [e1, e2] at h; cases h
    | some b => rw [e1, e2] at h; cases h; exact ⟨a, b, rfl, rfl, rfl⟩
theorem getAll1 {o1 : OV} {ds : List D} (h : getAll ρ [o1] = some ds) : ∃ a, ds = [a] ∧ o1.get ρ = some a := by
  simp only [getAll] at h
  cases e1 : o1.get ρ with
  | none => rw [e1] at h; cases h
  | some a => rw [e1] at h; cases h; exact ⟨a, rfl, rfl⟩
abbrev OneO (Φ : Fns) (a : IE) : Prop := ∀ os ρ ρ', evs Φ [a] ρ = .ok os ρ' → ∃ o, os = [o]
theorem t_op {o : Op2} {a b : IE} (ha : OneO Φ a) (hb : OneO Φ b) (h : tI K Φ E (.op o [a, b]) σ H Q) : tOp (rP2 K o) (tO K Φ E a) (tO K Φ E b) σ H Q := by
  obtain ⟨B, lk, F, ρ, fps, ts, S, w⟩ := h
  simp only [ev] at w
  rw [out_bind] at w
  refine t_two ha hb ⟨B, lk, F, ρ, fps, ts, S, w⟩ (k := fun B lk ts os ρ1 => Out (XC K E B lk σ) (match getAll ρ1 os with
    | some [a, b] => match op2 o a b with
      | some d => .ok d ρ1
      | none => .stk
    | _ => .stk) fun d ρ' => ∀ v fp F' H' fps', Sta K B lk F' H' σ ρ' fps' ((v, .own d fp) :: ts) → Q v H') ?_
  intro B lk ts o1 o2 ρ' x y t1 t2 F' H' fps' w h1 h2 S'
  cases e : getAll ρ' [o1, o2] with
  | none => rw [e] at w; exact w.elim
  | some ds =>
    obtain ⟨da, db, rfl, e1, e2⟩ := getAll2 e
    rw [e] at w
    simp only at w
    cases eo : op2 o da db with
    | none => rw [eo] at w; exact w.elim
    | some d =>
      rw [eo] at w
      exact ⟨F', da, db, d, S'.own.sub, S'.wrep (t := (x, t1)) (by simp) h1 e1, S'.wrep (t := (y, t2)) (by simp) h2 e2, eo, fun v F2 H2 fp p => w v fp F2 H2 fps' (S'.drop.drop.push p)⟩
theorem t_idx {a b : IE} (ha : OneO Φ a) (hb : OneO Φ b) (h : tI K Φ E (.idx [a, b]) σ H Q) : tOp (rIxP K) (tO K Φ E a) (tO K Φ E b) σ H Q := by
  obtain ⟨B, lk, F, ρ, fps, ts, S, w⟩ := h
  simp only [ev] at w
  rw [out_bind] at w
  refine t_two ha hb ⟨B, lk, F, ρ, fps, ts, S, w⟩ (k := fun B lk ts os ρ1 => Out (XC K E B lk σ) (match getAll ρ1 os with
    | some [a, b] => match idxD a b with
      | some d => .ok d ρ1
      | none => .stk
    | _ => .stk) fun d ρ' => ∀ v fp F' H' fps', Sta K B lk F' H' σ ρ' fps' ((v, .own d fp) :: ts) → Q v H') ?_
  intro B lk ts o1 o2 ρ' x y t1 t2 F' H' fps' w h1 h2 S'
  cases e : getAll ρ' [o1, o2] with
  | none => rw [e] at w; exact w.elim
  | some ds =>
    obtain ⟨da, db, rfl, e1, e2⟩ := getAll2 e
    rw [e] at w
    simp only at w
    cases eo : idxD da db with
    | none => rw [eo] at w; exact w.elim
    | some d =>
      rw [eo] at w
      exact ⟨F', da, db, d, S'.own.sub, S'.wrep (t := (x, t1)) (by simp) h1 e1, S'.wrep (t := (y, t2)) (by simp) h2 e2, eo, fun v F2 H2 fp p => w v fp F2 H2 fps' (S'.drop.drop.push p)⟩
theorem t_one {a : IE} {k : Bs → List (Nat × V) → List (V × Tm) → List OV → Env → Prop} {R1 : V → Hp → Prop} (ha : OneO Φ a)
    (h : ∃ B lk F ρ fps ts, Sta K B lk F H σ ρ fps ts ∧ Out (XC K E B lk σ) (evs Φ [a] ρ) fun os ρ' => k B lk ts os ρ')
    (hk : ∀ B lk ts o1 ρ' x t1 F' H' fps', k B lk ts [o1] ρ' → OvIs o1 t1 → Sta K B lk F' H' σ ρ' fps' ((x, t1) :: ts) → R1 x H') :
    tO K Φ E a σ H R1 := by
  obtain ⟨B, lk, F, ρ, fps, ts, S, o⟩ := h
  refine ⟨B, lk, F, ρ, fps, ts, S, ?_⟩
  cases e : evs Φ [a] ρ with
  | exc _ _ _ => rw [e] at o; exact o
  | stk => rw [e] at o; exact o
  | ok os1 ρ1 =>
    rw [e] at o
    obtain ⟨o1, rfl⟩ := ha _ _ _ e
    exact ⟨o1, rfl, fun v tm F' H' fps' hi S' => hk B lk ts o1 ρ1 v tm F' H' fps' o hi S'⟩
theorem isNon_rep {a : D} {x : V} (h : WRep K F H a x) : decide (x = V.non) = isNon a := by
  obtain ⟨fp, h⟩ := h
  cases a with
  | non => simp only [Rep] at h; rw [h.1]; rfl
  | bl _ => simp only [Rep] at h; rw [h.1]; rfl
  | int _ => simp only [Rep] at h; rw [h.1]; rfl
  | str _ => simp only [Rep] at h; rw [h.1]; rfl
  | typ _ => simp only [Rep] at h; rw [h.1]; rfl
  | tup _ => simp only [Rep] at h; obtain ⟨_, _, e, _⟩ := h; rw [e]; rfl
  | scr _ => simp only [Rep] at h; obtain ⟨_, _, e, _⟩ := h; rw [e]; rfl
  | lst o _ => cases o <;> (simp only [Rep] at h; obtain ⟨_, _, h⟩ := h)
               · rw [h.1]; rfl
               · obtain ⟨_, e, _⟩ := h; rw [e]; rfl
  | cls _ => simp only [Rep] at h; rw [h.1]; rfl
  | dct _ _ _ => simp only [Rep] at h
  | exc _ _ => simp only [Rep] at h; obtain ⟨_, _, _, e, _⟩ := h; rw [e]; rfl
  | clo _ _ => simp only [Rep] at h; obtain ⟨_, _, _, _, _, _, e, _⟩ := h; rw [e]; rfl
theorem t_isn {neg : Bool} {a : IE} (ha : OneO Φ a) (h : tI K Φ E (.isn neg [a]) σ H Q) : tO K Φ E a σ H fun x H1 => Q (.bl (decide (x = .non) != neg)) H1 := by
  obtain ⟨B, lk, F, ρ, fps, ts, S, w⟩ := h
  simp only [ev] at w
  rw [out_bind] at w
  refine t_one ha ⟨B, lk, F, ρ, fps, ts, S, w⟩ (k := fun B lk ts os ρ1 => Out (XC K E B lk σ) (match getAll ρ1 os with
    | some [a] => R.ok (.bl (isNon a != neg)) ρ1
    | _ => .stk) fun d ρ' => ∀ v fp F' H' fps', Sta K B lk F' H' σ ρ' fps' ((v, .own d fp) :: ts) → Q v H') ?_
  intro B lk ts o1 ρ' x t1 F' H' fps' w h1 S'
  cases e : getAll ρ' [o1] with
  | none => rw [e] at w; exact w.elim
  | some ds =>
    obtain ⟨da, rfl, e1⟩ := getAll1 e
    rw [e] at w
    rw [isNon_rep (S'.wrep (t := (x, t1)) (by simp) h1 e1)]
    exact w _ [] F' H' fps' (S'.drop.pushS (by simp [Rep]))
theorem t_neg {a : IE} (ha : OneO Φ a) (h : tI K Φ E (.neg [a]) σ H Q) : tUn (rU fun i => .int (-i)) (tO K Φ E a) σ H Q := by
  obtain ⟨B, lk, F, ρ, fps, ts, S, w⟩ := h
  simp only [ev] at w
  rw [out_bind] at w
  refine t_one ha ⟨B, lk, F, ρ, fps, ts, S, w⟩ (k := fun B lk ts os ρ1 => Out (XC K E B lk σ) (match getAll ρ1 os with
    | some [.int i] => R.ok (.int (-i)) ρ1
    | _ => .stk) fun d ρ' => ∀ v fp F' H' fps', Sta K B lk F' H' σ ρ' fps' ((v, .own d fp) :: ts) → Q v H') ?_
  intro B lk ts o1 ρ' x t1 F' H' fps' w h1 S'
  cases e : getAll ρ' [o1] with
  | none => rw [e] at w; exact w.elim
  | some ds =>
    obtain ⟨da, rfl, e1⟩ := getAll1 e
    rw [e] at w
    obtain ⟨fp, r⟩ := S'.wrep (t := (x, t1)) (by simp) h1 e1
    cases da <;> try exact w.elim
    exact ⟨_, rep_int r, w _ [] F' H' fps' (S'.drop.pushS (by simp [Rep]))⟩
theorem t_not {a : IE} (h : tI K Φ E (.notE a) σ H Q) : tNotV (tI K Φ E a) σ H Q := by
  obtain ⟨B, lk, F, ρ, fps, ts, S, w⟩ := h
  simp only [ev] at w
  rw [out_bind] at w
  refine ⟨B, lk, F, ρ, fps, ts, S, w.imp fun d ρ' q v fp F' H' fps' S' => ?_⟩
  have r : Rep K F' H' d v fp := S'.temps _ (List.mem_cons_self ..)
  cases d <;> try exact q.elim
  exact ⟨_, rep_bl r, q _ [] F' H' fps' (S'.drop.pushS (by simp [Rep]))⟩
theorem tT_not {a : IE} {Q : Bool → Hp → Prop} (h : tT K Φ E (.notE a) σ H Q) : tNot (tT K Φ E a) σ H Q := by
  obtain ⟨B, lk, F, ρ, fps, ts, S, w⟩ := h
  simp only [ev] at w
  rw [out_bind] at w
  refine ⟨B, lk, F, ρ, fps, ts, S, w.imp fun d ρ' q => ?_⟩
  cases d <;> try exact q.elim
  obtain ⟨b, e, q⟩ := q
  cases e
  exact ⟨_, rfl, q⟩
theorem t_and {a b : IE} (h : tI K Φ E (.andE a b) σ H Q) : tAndV (tI K Φ E a) (tI K Φ E b) σ H Q := by
  obtain ⟨B, lk, F, ρ, fps, ts, S, w⟩ := h
  simp only [ev] at w
  rw [out_bind] at w
  refine ⟨B, lk, F, ρ, fps, ts, S, w.imp fun d ρ' q v fp F' H' fps' S' => ?_⟩
  have r : Rep K F' H' d v fp := S'.temps _ (List.mem_cons_self ..)
  cases d <;> try exact q.elim
  rename_i c
  refine ⟨c, rep_bl r, ?_⟩
  cases c with
  | true => exact iteT ⟨B, lk, F', ρ', fps', ts, S'.drop, q⟩
  | false => exact iteF (q _ [] F' H' fps' (S'.drop.pushS (by simp [Rep])))
theorem t_or {a b : IE} (h : tI K Φ E (.orE a b) σ H Q) : tOrV (tI K Φ E a) (tI K Φ E b) σ H Q := by
  obtain ⟨B, lk, F, ρ, fps, ts, S, w⟩ := h
  simp only [ev] at w
  rw [out_bind] at w
  refine ⟨B, lk, F, ρ, fps, ts, S, w.imp fun d ρ' q v fp F' H' fps' S' => ?_⟩
  have r : Rep K F' H' d v fp := S'.temps _ (List.mem_cons_self ..)
  cases d <;> try exact q.elim
  rename_i c
  refine ⟨c, rep_bl r, ?_⟩
  cases c with
  | false => exact iteF ⟨B, lk, F', ρ', fps', ts, S'.drop, q⟩
  | true => exact iteT (q _ [] F' H' fps' (S'.drop.pushS (by simp [Rep])))
theorem tT_and {a b : IE} {Q : Bool → Hp → Prop} (h : tT K Φ E (.andE a b) σ H Q) : tAnd (tT K Φ E a) (tT K Φ E b) σ H Q := by
  obtain ⟨B, lk, F, ρ, fps, ts, S, w⟩ := h
  simp only [ev] at w
  rw [out_bind] at w
  refine ⟨B, lk, F, ρ, fps, ts, S, w.imp fun d ρ' q => ?_⟩
  cases d <;> try exact q.elim
  rename_i c
  refine ⟨c, rfl, fun F' H' fps' S' => ?_⟩
  cases c with
  | true => exact iteT ⟨B, lk, F', ρ', fps', ts, S', q⟩
  | false =>
    obtain ⟨b, e, q⟩ := q
    cases e
    exact iteF (q _ _ _ S')
theorem tT_or {a b : IE} {Q : Bool → Hp → Prop} (h : tT K Φ E (.orE a b) σ H Q) : tOr (tT K Φ E a) (tT K Φ E b) σ H Q := by
  obtain ⟨B, lk, F, ρ, fps, ts, S, w⟩ := h
  simp only [ev] at w
  rw [out_bind] at w
  refine ⟨B, lk, F, ρ, fps, ts, S, w.imp fun d ρ' q => ?_⟩
  cases d <;> try exact q.elim
  rename_i c
  refine ⟨c, rfl, fun F' H' fps' S' => ?_⟩
  cases c with
  | false => exact iteF ⟨B, lk, F', ρ', fps', ts, S', q⟩
  | true =>
    obtain ⟨b, e, q⟩ := q
    cases e
    exact iteT (q _ _ _ S')
theorem t_ite {c a b : IE} (h : tI K Φ E (.ite c a b) σ H Q) : tIf (tT K Φ E c) (tI K Φ E a) (tI K Φ E b) σ H Q := by
  obtain ⟨B, lk, F, ρ, fps, ts, S, w⟩ := h
  simp only [ev] at w
  rw [out_bind] at w
  refine ⟨B, lk, F, ρ, fps, ts, S, w.imp fun d ρ' q => ?_⟩
  cases d <;> try exact q.elim
  rename_i k
  refine ⟨k, rfl, fun F' H' fps' S' => ?_⟩
  cases k with
  | true => exact iteT ⟨B, lk, F', ρ', fps', ts, S', q⟩
  | false => exact iteF ⟨B, lk, F', ρ', fps', ts, S', q⟩
end Mi
end

section
set_option Elab.async false
set_option linter.all false
set_option maxRecDepth 100000
/-! Displays, slices, built-ins, chains, calls. -/
namespace Mi
open PySem PySem.Spec PyProof.Rows L2
variable [LT] [Fr]
variable {K : PySem.W.Frag} {Φ : Fns} {E : XK} {B : Bs} {lk : List (Nat × V)} {F F' H H' : Hp} {σ : L2.St} {ρ : Env} {fps : List (List Addr)} {ts : List (V × Tm)} {Q : VK}

/-- all operands stand, what is done with them is g -/
def OpsAt (K : PySem.W.Frag) (E : XK) (g : List OV → Env → R D) (σ : L2.St) (Q : VK) (vs : List V) (H : Hp) : Prop := ∃ B lk F ρ fps ts os tms, vs = tms.map (·.1) ∧ OvsIs os tms ∧ Sta K B lk F H σ ρ fps (tms.reverse ++ ts) ∧
  Out (XC K E B lk σ) (g os ρ) fun d ρ' => ∀ v fp F' H' fps', Sta K B lk F' H' σ ρ' fps' ((v, .own d fp) :: ts) → Q v H'
theorem t_ops {es : List IE} {g : List OV → Env → R D} (h : ∃ B lk F ρ fps ts, Sta K B lk F H σ ρ fps ts ∧ Out (XC K E B lk σ) ((evs Φ es ρ).bind g) fun d ρ' => ∀ v fp F' H' fps', Sta K B lk F' H' σ ρ' fps' ((v, .own d fp) :: ts) → Q v H') :
    tOs K Φ E es σ H (OpsAt K E g σ Q) := by
  obtain ⟨B, lk, F, ρ, fps, ts, S, o⟩ := h
  rw [out_bind] at o
  exact ⟨B, lk, F, ρ, fps, ts, S, o.imp fun os ρ' q tms F' H' fps' hi S' => ⟨B, lk, F', ρ', fps', ts, os, tms, rfl, hi, S', q⟩⟩
theorem tOs.mono {es : List IE} {Q Q' : List V → Hp → Prop} (h : tOs K Φ E es σ H Q) (hq : ∀ vs H, Q vs H → Q' vs H) : tOs K Φ E es σ H Q' := by
  obtain ⟨B, lk, F, ρ, fps, ts, S, o⟩ := h
  exact ⟨B, lk, F, ρ, fps, ts, S, o.imp fun os ρ' q tms F' H' fps' hi S' => hq _ _ (q tms F' H' fps' hi S')⟩
theorem Sta.wrepsR {tms : List (V × Tm)} {os : List OV} {ds : List D} (S : Sta K B lk F H σ ρ fps (tms.reverse ++ ts)) (hi : OvsIs os tms) (e : getAll ρ os = some ds) : WRepL K F H ds (tms.map (·.1)) :=
  Sta.wreps S (fun t ht => by simp [ht]) hi e
theorem o_cb {p : Pr} {vs : List V} (h : OpsAt K E (fun os ρ1 => match getAll ρ1 os with
    | some ds => match prD p ds with
      | some d => .ok d ρ1
      | none => .stk
    | none => .stk) σ Q vs H) : rPr K p vs H Q := by
  obtain ⟨B, lk, F, ρ, fps, ts, os, tms, rfl, hi, S, o⟩ := h
  cases e : getAll ρ os with
  | none => simp only [e] at o; exact o.elim
  | some ds =>
    simp only [e] at o
    cases e2 : prD p ds with
    | none => rw [e2] at o; exact o.elim
    | some d =>
      rw [e2] at o
      exact ⟨F, ds, d, S.own.sub, S.wrepsR hi e, e2, fun v F' H' fp pr => o v fp F' H' fps (S.drops.push pr)⟩
/-- values in flight, taken together -/
theorem tfp_reverse : ∀ tms : List (V × Tm), (tfp tms.reverse).Perm (tfp tms)
  | [] => .refl _
  | t :: r => by
    rw [List.reverse_cons, tfp_app]
    simp only [tfp, List.append_nil]
    exact ((tfp_reverse r).append_right _).trans List.perm_append_comm
theorem getAll_nil_val : ∀ {os : List OV} {ds : List D}, getAll [] os = some ds → os = ds.map .val
  | [], ds, h => by simp only [getAll] at h; cases h; rfl
  | .val d :: os, ds, h => by
    simp only [getAll, OV.get] at h
    cases e : getAll [] os with
    | none => rw [e] at h; cases h
    | some ds' => rw [e] at h; cases h; rw [getAll_nil_val e]; rfl
  | .ref i :: os, ds, h => by
    simp only [getAll, OV.get, getE] at h
    simp at h
theorem tms_rep : ∀ {tms : List (V × Tm)} {ds : List D}, OvsIs (ds.map .val) tms → (∀ t ∈ tms, TmOk K F H σ t) → RepL K F H ds (tms.map (·.1)) (tfp tms)
  | [], [], _, _ => by simp [RepL, tfp]
  | t :: tms, d :: ds, hi, ht => by
    obtain ⟨⟨fp, e⟩, hi2⟩ := hi
    have q := ht t (List.mem_cons_self ..)
    unfold TmOk at q
    rw [e] at q
    simp only [List.map_cons, RepL, tfp]
    exact ⟨t.1, tms.map (·.1), fp, tfp tms, rfl, q, tms_rep hi2 fun u hu => ht u (List.mem_cons_of_mem _ hu), by rw [e]; rfl⟩
  | [], _ :: _, h, _ => h.elim
  | _ :: _, [], h, _ => h.elim
theorem packed (tms ts : List (V × Tm)) (fps : List (List Addr)) : (tfp (tms.reverse ++ ts) ++ fps.flatten).Perm (tfp tms ++ (tfp ts ++ fps.flatten)) := by
  rw [tfp_app, List.append_assoc]
  exact (tfp_reverse tms).append_right _
theorem o_lst {vs : List V} (h : OpsAt K E (fun os ρ1 => match getAll [] os with
    | some ds => if ds.length ≤ SZ then .ok (.lst true ds) ρ1 else .stk
    | none => .stk) σ Q vs H) : vs.length ≤ sizeLine ∧ ∀ p, H p = none → Q (.ref p) (upd H p (.lst vs)) := by
  obtain ⟨B, lk, F, ρ, fps, ts, os, tms, rfl, hi, S, o⟩ := h
  cases e : getAll [] os with
  | none => simp only [e] at o; exact o.elim
  | some ds =>
    simp only [e] at o
    obtain rfl := getAll_nil_val e
    split at o
    · rename_i hz
      have r := tms_rep hi fun t ht => S.temps t (by simp [ht])
      have hl := RepL.length _ _ _ r
      refine ⟨by rw [hl, ← SZ_eq]; exact hz, fun p hp => o (.ref p) (p :: tfp tms) F _ fps ?_⟩
      have ow := (S.own.perm (packed tms ts fps).symm).list hp (tms.map (·.1))
      have keep : ∀ a ∈ tfp tms ++ (tfp ts ++ fps.flatten), upd H p (.lst (tms.map (·.1))) a = H a := fun a ha => upd_ne fun z => (List.nodup_cons.mp ow.nodup).1 (z ▸ ha)
      refine Sta.pushOwn (Sta.mono (all := []) S.drops (Same.refl _) (fun a ha => keep a (List.mem_append_right _ ha)) (ow.less ?_) (fun _ _ _ z => z)) (by simpa using ow) ?_
      · have := SubP.right (p :: tfp tms) (tfp ts ++ fps.flatten)
        simpa using this
      · simp only [Rep]
        exact ⟨p, _, tfp tms, rfl, upd_same, RepL.mono (Same.refl _) _ _ _ (fun a ha => keep a (List.mem_append_left _ ha)) r, rfl⟩
    · exact o.elim
theorem o_tup {vs : List V} (h : OpsAt K E (fun os ρ1 => match getAll [] os with
    | some ds => if ds.length ≤ SZ then .ok (.tup ds) ρ1 else .stk
    | none => .stk) σ Q vs H) : vs.length ≤ sizeLine ∧ ∀ p, H p = none → Q (.ref p) (upd H p (.tup vs)) := by
  obtain ⟨B, lk, F, ρ, fps, ts, os, tms, rfl, hi, S, o⟩ := h
  cases e : getAll [] os with
  | none => simp only [e] at o; exact o.elim
  | some ds =>
    simp only [e] at o
    obtain rfl := getAll_nil_val e
    split at o
    · rename_i hz
      have r := tms_rep hi fun t ht => S.temps t (by simp [ht])
      have hl := RepL.length _ _ _ r
      refine ⟨by rw [hl, ← SZ_eq]; exact hz, fun p hp => o (.ref p) (tfp tms) (upd F p (.tup (tms.map (·.1)))) _ fps ?_⟩
      have ow0 := S.own.perm (packed tms ts fps).symm
      have ow := ow0.tuple hp (tms.map (·.1))
      have hF := same_upd (o := HO.tup (tms.map (·.1))) (Same.none S.own.sub hp)
      have keep : ∀ a ∈ tfp tms ++ (tfp ts ++ fps.flatten), upd H p (.tup (tms.map (·.1))) a = H a := fun a ha => live_keep ow0 (same_upd hp) ha
      refine Sta.pushOwn (Sta.mono (all := []) S.drops hF (fun a ha => keep a (List.mem_append_right _ ha)) (ow.less (SubP.right _ _)) (fun b u hu z => by
        by_cases q : b = p
        · subst q; rw [upd_same] at z; cases z; exact hu.elim
        · rw [upd_ne q] at z; exact z)) ow ?_
      simp only [Rep]
      exact ⟨p, _, rfl, SqT.of upd_same, RepL.mono hF _ _ _ (fun a ha => keep a (List.mem_append_left _ ha)) r⟩
    · exact o.elim
/-! ### slices -/
theorem t_three {a b c : IE} {Q : List V → Hp → Prop} (ha : OneO Φ a) (hb : OneO Φ b) (hc : OneO Φ c) (h : tOs K Φ E [a, b, c] σ H Q) :
    tO K Φ E a σ H fun x H1 => tO K Φ E b σ H1 fun y H2 => tO K Φ E c σ H2 fun z H3 => Q [x, y, z] H3 := by
  have h1 : tCons (tO K Φ E a) (tOs K Φ E [b, c]) σ H Q := t_cons ha h
  refine tO_mono h1 fun x H1 h2 => ?_
  have h3 : tCons (tO K Φ E b) (tOs K Φ E [c]) σ H1 (fun xs H2 => Q (x :: xs) H2) := t_cons hb h2
  refine tO_mono h3 fun y H2 h4 => ?_
  have h5 : tCons (tO K Φ E c) (tOs K Φ E []) σ H2 (fun xs H2 => Q (x :: y :: xs) H2) := t_cons hc h4
  exact tO_mono h5 fun z H3 h6 => t_nil h6
where
  tO_mono {a : IE} {H : Hp} {Q Q' : VK} (h : tO K Φ E a σ H Q) (hq : ∀ x H, Q x H → Q' x H) : tO K Φ E a σ H Q' := by
    obtain ⟨B, lk, F, ρ, fps, ts, S, o⟩ := h
    exact ⟨B, lk, F, ρ, fps, ts, S, o.imp fun os ρ' ⟨o1, e, q⟩ => ⟨o1, e, fun v tm F' H' fps' hi S' => hq _ _ (q v tm F' H' fps' hi S')⟩⟩
theorem tO_mono {a : IE} {H : Hp} {Q Q' : VK} (h : tO K Φ E a σ H Q) (hq : ∀ x H, Q x H → Q' x H) : tO K Φ E a σ H Q' := t_three.tO_mono h hq
theorem t_two' {a b : IE} {Q : List V → Hp → Prop} (ha : OneO Φ a) (hb : OneO Φ b) (h : tOs K Φ E [a, b] σ H Q) : tO K Φ E a σ H fun x H1 => tO K Φ E b σ H1 fun y H2 => Q [x, y] H2 := by
  have h1 : tCons (tO K Φ E a) (tOs K Φ E [b]) σ H Q := t_cons ha h
  refine tO_mono h1 fun x H1 h2 => ?_
  have h3 : tCons (tO K Φ E b) (tOs K Φ E []) σ H1 (fun xs H2 => Q (x :: xs) H2) := t_cons hb h2
  exact tO_mono h3 fun y H2 h4 => t_nil h4
theorem t_one' {a : IE} {Q : List V → Hp → Prop} (ha : OneO Φ a) (h : tOs K Φ E [a] σ H Q) : tO K Φ E a σ H fun x H1 => Q [x] H1 := by
  have h1 : tCons (tO K Φ E a) (tOs K Φ E []) σ H Q := t_cons ha h
  exact tO_mono h1 fun x H1 h2 => t_nil h2
theorem getAll_cons {o : OV} {os : List OV} {ds : List D} (h : getAll ρ (o :: os) = some ds) : ∃ d ds', ds = d :: ds' ∧ o.get ρ = some d ∧ getAll ρ os = some ds' := by
  simp only [getAll] at h
  cases e1 : o.get ρ with
  | none => rw [e1] at h; cases h
  | some a =>
    cases e2 : getAll ρ os with
    | none => rw [e1, e2] at h; cases h
    | some b => rw [e1, e2] at h; cases h; exact ⟨a, b, rfl, rfl, rfl⟩
theorem wrep3 {a b c : D} {vs : List V} (w : WRepL K F H [a, b, c] vs) : ∃ x y z, vs = [x, y, z] ∧ WRep K F H a x ∧ WRep K F H b y ∧ WRep K F H c z := by
  cases vs with
  | nil => exact absurd w (by simp [WRepL])
  | cons x r =>
    obtain ⟨y, z, rfl, wy, wz⟩ := wrep2 (vs := r) w.2
    exact ⟨x, y, z, rfl, w.1, wy, wz⟩
/-- a slice's bound -/
def tBd (K : PySem.W.Frag) (Φ : Fns) (E : XK) (bs : List IE) : TO := fun σ H Q => ∃ B lk F ρ fps ts, Sta K B lk F H σ ρ fps ts ∧
  Out (XC K E B lk σ) (evB Φ bs ρ) fun o ρ' => ∀ F' H' fps', Sta K B lk F' H' σ ρ' fps' ts → Q o H'
theorem t_bd0 {Q : Option Int → Hp → Prop} (h : tBd K Φ E [] σ H Q) : tNoPart σ H Q := by
  obtain ⟨B, lk, F, ρ, fps, ts, S, w⟩ := h
  exact w F H fps S
theorem t_bd1 {b : IE} {Q : Option Int → Hp → Prop} (h : tBd K Φ E [b] σ H Q) : tPart (tI K Φ E b) σ H Q := by
  obtain ⟨B, lk, F, ρ, fps, ts, S, w⟩ := h
  simp only [evB] at w
  rw [out_bind] at w
  refine ⟨B, lk, F, ρ, fps, ts, S, w.imp fun d ρ' q v fp F' H' fps' S' => ?_⟩
  have r : Rep K F' H' d v fp := S'.temps _ (List.mem_cons_self ..)
  cases d <;> try exact q.elim
  exact ⟨_, rep_int r, q _ _ _ S'.drop⟩
theorem t_slc {a : IE} {lo hi : List IE} (ha : OneO Φ a) (h : tI K Φ E (.slc [a] lo hi) σ H Q) : L2.tSl (rSlP K) (tO K Φ E a) (tBd K Φ E lo) (tBd K Φ E hi) σ H Q := by
  obtain ⟨B, lk, F, ρ, fps, ts, S, w⟩ := h
  simp only [ev] at w
  rw [out_bind] at w
  refine t_one ha ⟨B, lk, F, ρ, fps, ts, S, w⟩ (k := fun B lk ts os ρ1 => Out (XC K E B lk σ) ((evB Φ lo ρ1).bind fun l ρ2 => (evB Φ hi ρ2).bind fun u ρ3 => match getAll ρ3 os with
    | some [a] => match slcD a l u with
      | some d => R.ok d ρ3
      | none => .stk
    | _ => .stk) fun d ρ' => ∀ v fp F' H' fps', Sta K B lk F' H' σ ρ' fps' ((v, .own d fp) :: ts) → Q v H') ?_
  intro B lk ts o1 ρ1 x t1 F1 H1 fps1 w h1 S1
  rw [out_bind] at w
  refine ⟨B, lk, F1, ρ1, fps1, (x, t1) :: ts, S1, w.imp fun l ρ2 w F2 H2 fps2 S2 => ?_⟩
  rw [out_bind] at w
  refine ⟨B, lk, F2, ρ2, fps2, (x, t1) :: ts, S2, w.imp fun u ρ3 w F3 H3 fps3 S3 => ?_⟩
  cases e : getAll ρ3 [o1] with
  | none => rw [e] at w; exact w.elim
  | some ds =>
    obtain ⟨da, rfl, e1⟩ := getAll1 e
    rw [e] at w
    simp only at w
    cases e2 : slcD da l u with
    | none => rw [e2] at w; exact w.elim
    | some r =>
      rw [e2] at w
      exact ⟨F3, da, r, S3.own.sub, S3.wrep (t := (x, t1)) (by simp) h1 e1, e2, fun v F' H' fp p => w v fp F' H' fps3 (S3.drop.push p)⟩
/-! ### chains -/
theorem t_chain {o1 o2 : Op2} {a b c : IE} (ha : OneO Φ a) (hb : OneO Φ b) (hc : OneO Φ c) (h : tI K Φ E (.chain o1 o2 [a, b] [c]) σ H Q) : tChain (rP2 K o1) (rP2 K o2) (tO K Φ E a) (tO K Φ E b) (tO K Φ E c) σ H Q := by
  obtain ⟨B, lk, F, ρ, fps, ts, S, w⟩ := h
  simp only [ev] at w
  rw [out_bind] at w
  refine t_two ha hb ⟨B, lk, F, ρ, fps, ts, S, w⟩ (k := fun B lk ts os ρ1 => Out (XC K E B lk σ) (match getAll ρ1 os with
    | some [a, b] => match op2 o1 a b with
      | some (.bl true) => (evs Φ [c] ρ1).bind fun os2 ρ2 => match getAll ρ2 (os ++ os2) with
        | some [_, b2, c] => match op2 o2 b2 c with
          | some (.bl k) => .ok (.bl k) ρ2
          | _ => .stk
        | _ => .stk
      | some (.bl false) => .ok (.bl false) ρ1
      | _ => .stk
    | _ => .stk) fun d ρ' => ∀ v fp F' H' fps', Sta K B lk F' H' σ ρ' fps' ((v, .own d fp) :: ts) → Q v H') ?_
  intro B lk ts p1 p2 ρ1 x y t1 t2 F1 H1 fps1 w h1 h2 S1
  cases e : getAll ρ1 [p1, p2] with
  | none => rw [e] at w; exact w.elim
  | some ds =>
    obtain ⟨da, db, rfl, e1, e2⟩ := getAll2 e
    rw [e] at w
    simp only at w
    cases eo : op2 o1 da db with
    | none => rw [eo] at w; exact w.elim
    | some d =>
      rw [eo] at w
      cases d <;> try exact w.elim
      rename_i k
      refine ⟨F1, da, db, .bl k, S1.own.sub, S1.wrep (t := (x, t1)) (by simp) h1 e1, S1.wrep (t := (y, t2)) (by simp) h2 e2, eo, fun v F2 H2 fp p => ?_⟩
      have S2 := (S1.push p).drop
      refine ⟨k, rep_bl p.rep, ?_⟩
      cases k with
      | false => exact iteF (w _ [] F2 H2 fps1 (S2.drop.drop.pushS (by simp [Rep])))
      | true =>
        refine iteT ?_
        simp only at w
        rw [out_bind] at w
        refine ⟨B, lk, F2, ρ1, fps1, (y, t2) :: (x, t1) :: ts, S2, w.imp' fun os2 ρ2 e3 w => ?_⟩
        obtain ⟨p3, rfl⟩ := hc _ _ _ e3
        refine ⟨p3, rfl, fun z t3 F3 H3 fps3 h3 S3 => ?_⟩
        cases e4 : getAll ρ2 [p1, p2, p3] with
        | none =>
          have e4' : getAll ρ2 ([p1, p2] ++ [p3]) = none := e4
          rw [e4'] at w; exact w.elim
        | some ds =>
          have e4' : getAll ρ2 ([p1, p2] ++ [p3]) = some ds := e4
          obtain ⟨d1, ds1, rfl, g1, e5⟩ := getAll_cons e4
          obtain ⟨d2, d3, rfl, g2, g3⟩ := getAll2 e5
          rw [e4'] at w
          simp only at w
          cases eo2 : op2 o2 d2 d3 with
          | none => rw [eo2] at w; exact w.elim
          | some d =>
            rw [eo2] at w
            cases d <;> try exact w.elim
            exact ⟨F3, d2, d3, _, S3.own.sub, S3.wrep (t := (y, t2)) (by simp) h2 g2, S3.wrep (t := (z, t3)) (by simp) h3 g3, eo2, fun v F4 H4 fp p => w v fp F4 H4 fps3 (S3.drop.drop.drop.push p)⟩
end Mi
end

section
set_option Elab.async false
set_option linter.all false
set_option maxRecDepth 100000
/-! Calls of the text's own functions. -/
namespace Mi
open PySem PySem.Spec PyProof.Rows L2
variable [LT] [fr : Fr]
variable {K : PySem.W.Frag} {Φ : Fns} {E : XK} {B : Bs} {lk : List (Nat × V)} {F F' H H' : Hp} {σ : L2.St} {ρ : Env} {fps : List (List Addr)} {ts : List (V × Tm)} {Q : VK}

def RepP (K : PySem.W.Frag) (F H : Hp) : List D → List V → List (List Addr) → Prop
  | [], [], [] => True
  | d :: ds, v :: vs, f :: fs => Rep K F H d v f ∧ RepP K F H ds vs fs
  | _, _, _ => False
theorem RepP.length : ∀ {ds : List D} {vs : List V} {fs : List (List Addr)}, RepP K F H ds vs fs → vs.length = ds.length ∧ fs.length = ds.length
  | [], [], [], _ => ⟨rfl, rfl⟩
  | d :: ds, v :: vs, f :: fs, h => by
    obtain ⟨h1, h2⟩ := RepP.length h.2
    simp [h1, h2]
  | [], _ :: _, _, h => h.elim
  | [], [], _ :: _, h => h.elim
  | _ :: _, [], _, h => h.elim
  | _ :: _, _ :: _, [], h => h.elim
theorem RepP.get : ∀ {ds : List D} {vs : List V} {fs : List (List Addr)} {i : Nat} {d : D}, RepP K F H ds vs fs → ds[i]? = some d → ∃ v, vs[i]? = some v ∧ Rep K F H d v (fs.getD i [])
  | d0 :: ds, v :: vs, f :: fs, 0, d, h, e => by
    simp at e; subst e
    exact ⟨v, rfl, by simpa using h.1⟩
  | d0 :: ds, v :: vs, f :: fs, i + 1, d, h, e => by
    obtain ⟨w, h1, h2⟩ := RepP.get (i := i) h.2 (by simpa using e)
    exact ⟨w, by simpa using h1, by simpa using h2⟩
  | [], [], [], i, d, _, e => by simp at e
  | [], _ :: _, _, _, _, h, _ => h.elim
  | [], [], _ :: _, _, _, h, _ => h.elim
  | _ :: _, [], _, _, _, h, _ => h.elim
  | _ :: _, _ :: _, [], _, _, h, _ => h.elim
theorem RepP.mono (hF : Same F F') : ∀ {ds : List D} {vs : List V} {fs : List (List Addr)}, (∀ a ∈ fs.flatten, H' a = H a) → RepP K F H ds vs fs → RepP K F' H' ds vs fs
  | [], [], [], _, _ => trivial
  | d :: ds, v :: vs, f :: fs, hH, h => ⟨Rep.mono hF _ _ _ (fun a ha => hH a (by simp [ha])) h.1, RepP.mono hF (fun a ha => hH a (by rw [List.flatten_cons]; exact List.mem_append_right _ ha)) h.2⟩
  | [], _ :: _, _, _, h => h.elim
  | [], [], _ :: _, _, h => h.elim
  | _ :: _, [], _, _, h => h.elim
  | _ :: _, _ :: _, [], _, h => h.elim

/-- what a call of the i-th function promises -/
def spI (K : PySem.W.Frag) (Φ : Fns) (f : Nat) : Sp := fun vs H Q E => ∃ F ds fps, Same F H ∧ @RepP _ Fr0 K F H ds vs fps ∧ fps.flatten.Nodup ∧ (∀ a ∈ fps.flatten, F a = none) ∧ (LamX.Tabs LT.T H ∧ (∀ b ps, F b ≠ some (.tbl ps)) ∧ Closed F) ∧
  match Φ f ds with
  | .ok d as => ∀ v F' H' fp fps', OwnOk ⟨F, H, fps.flatten⟩ F' H' (fp ++ fps'.flatten) → Closed F' → @Rep _ Fr0 K F' H' d v fp → @RepP _ Fr0 K F' H' as vs fps' → Q v H'
  | .exc c d as => ∀ cls dx F' H' fps', OwnOk ⟨F, H, fps.flatten⟩ F' H' fps'.flatten → Closed F' → @RepX _ Fr0 K F' H' c d cls dx → @RepP _ Fr0 K F' H' as vs fps' → E cls dx H'
  | .stk => False

/-- a call within a body: what the caller holds besides stays -/
theorem OwnOk.call {A R Z : List Addr} (o : OwnOk B F H (A ++ R)) (i : OwnOk ⟨F, H, A⟩ F' H' Z) : OwnOk B F' H' (Z ++ R) ∧ (∀ r ∈ R, H' r = H r) ∧ Same F F' := by
  have hF : Same F F' := i.base
  have hR : ∀ r ∈ R, r ∉ A := fun r hr ha => apart o.nodup ha hr
  have keep : ∀ r ∈ R, H' r = H r := fun r hr => by
    obtain ⟨xs, e⟩ := o.live r (List.mem_append_right _ hr)
    rw [e, i.frame r _ e (fun _ z => nomatch z) (hR r hr)]
  have fresh : ∀ b, H b = none → b ∈ B.fp0 ∨ B.H0 b = none := fun b h => by
    by_cases hb : b ∈ B.fp0
    · exact .inl hb
    · exact .inr (o.fresh0 h hb)
  refine ⟨⟨i.sub, Same.trans o.base hF, fun b u e m n => ?_, fun b ps e => ?_, i.nof, fun h => i.tabs (o.tabs h), fun a ha => ?_, fun b u e => ?_, ?_, fun a ha => ?_, fun a ha => ?_⟩, keep, hF⟩
  · refine i.frame b u (o.frame b u e m n) m fun ha => ?_
    rcases o.ownB b (List.mem_append_left _ ha) with h | h
    · exact n h
    · rw [h] at e; cases e
  · obtain ⟨qs, e1⟩ := o.tbl b ps e
    exact i.tbl b qs e1
  · rcases List.mem_append.mp ha with h | h
    · rcases i.ownB a h with h | h
      · exact o.ownB a (List.mem_append_left _ h)
      · exact fresh a h
    · exact o.ownB a (List.mem_append_right _ h)
  · rcases i.frzB b u e with h | h | h | ⟨h, φ, rfl⟩
    · exact o.frzB b u h
    · rcases o.ownB b (List.mem_append_left _ h) with z | z
      · exact .inr (.inl z)
      · exact .inr (.inr (.inl z))
    · rcases fresh b h with z | z
      · exact .inr (.inl z)
      · exact .inr (.inr (.inl z))
    · by_cases hb : b ∈ B.fp0
      · exact .inr (.inl hb)
      · cases q : B.H0 b with
        | none => exact .inr (.inr (.inl rfl))
        | some u' =>
          right; right; right
          have h : H b = some (.ext φ) := h
          by_cases ht : ∃ ps, u' = .tbl ps
          · obtain ⟨ps, rfl⟩ := ht
            obtain ⟨qs, e1⟩ := o.tbl b ps q
            rw [h] at e1; cases e1
          · have e1 := o.frame b u' q (fun ps z => ht ⟨ps, z⟩) hb
            rw [h] at e1
            exact ⟨e1.symm, φ, rfl⟩
  · refine nodup_app i.nodup (SubP.right A R |>.nodup o.nodup) fun a h1 h2 => ?_
    rcases i.ownB a h1 with h | h
    · exact hR a h2 h
    · obtain ⟨xs, e⟩ := o.live a (List.mem_append_right _ h2)
      have h : H a = none := h
      rw [h] at e; cases e
  · rcases List.mem_append.mp ha with h | h
    · exact i.disj a h
    · cases q : F' a with
      | none => rfl
      | some u =>
        obtain ⟨xs, e⟩ := o.live a (List.mem_append_right _ h)
        rcases i.frzB a u q with z | z | z | ⟨z, φ, rfl⟩
        · have z : F a = some u := z
          rw [o.disj a (List.mem_append_right _ h)] at z; cases z
        · exact (hR a h z).elim
        · have z : H a = none := z
          rw [z] at e; cases e
        · have z : H a = some (.ext φ) := z
          rw [z] at e; cases e
  · rcases List.mem_append.mp ha with h | h
    · exact i.live a h
    · obtain ⟨xs, e⟩ := o.live a (List.mem_append_right _ h)
      exact ⟨xs, by rw [keep a h]; exact e⟩
theorem Sta.closed (S : Sta K B lk F H σ ρ fps ts) (hc : Fr.cells = []) : Closed F := fun f LF e pm ctv q => by
  rcases S.opn f LF e pm ctv q with h | h
  · exact h
  · intro y c hy
    have := h y c hy
    rw [hc] at this
    cases this
/-! ### lending -/
def opFp (fps : List (List Addr)) (t : V × Tm) : List Addr := match t.2 with
  | .own _ fp => fp
  | .ref i => fps.getD i []
def lendF : List OV → List (List Addr) → List (List Addr)
  | [], fps => fps
  | .val _ :: os, fps => lendF os fps
  | .ref i :: os, fps => lendF os (fps.set i [])
def clearE : List OV → Env → Env
  | [], ρ => ρ
  | .val _ :: os, ρ => clearE os ρ
  | .ref i :: os, ρ => clearE os (ρ.set i none)
theorem refs_mem_ov : ∀ {os : List OV} {tms : List (V × Tm)} {j : Nat}, OvsIs os tms → (∃ t ∈ tms, t.2 = .ref j) → j ∈ OV.refs os
  | [], [], j, _, ⟨t, h, _⟩ => nomatch h
  | .val d :: os, t :: tms, j, hi, ⟨u, hu, e⟩ => by
    rcases List.mem_cons.mp hu with rfl | hu
    · obtain ⟨fp, e2⟩ := hi.1
      rw [e2] at e; cases e
    · simp only [OV.refs]; exact refs_mem_ov hi.2 ⟨u, hu, e⟩
  | .ref i :: os, t :: tms, j, hi, ⟨u, hu, e⟩ => by
    simp only [OV.refs]
    rcases List.mem_cons.mp hu with rfl | hu
    · have e2 : u.2 = .ref i := hi.1
      rw [e2] at e; cases e; exact List.mem_cons_self ..
    · exact List.mem_cons_of_mem _ (refs_mem_ov hi.2 ⟨u, hu, e⟩)
  | [], _ :: _, _, h, _ => h.elim
  | _ :: _, [], _, h, _ => h.elim
theorem lend_perm : ∀ {os : List OV} {tms : List (V × Tm)} (fps : List (List Addr)), OvsIs os tms → nodupN (OV.refs os) = true → (∀ j ∈ OV.refs os, j < fps.length) →
    (tfp tms ++ fps.flatten).Perm ((tms.map (opFp fps)).flatten ++ (lendF os fps).flatten)
  | [], [], fps, _, _, _ => by simp [tfp, lendF]
  | .val d :: os, t :: tms, fps, hi, hn, hl => by
    obtain ⟨fp, e⟩ := hi.1
    have ih := lend_perm (tms := tms) fps hi.2 (by simpa only [OV.refs] using hn) (by simpa only [OV.refs] using hl)
    simp only [tfp, List.map_cons, List.flatten_cons, lendF]
    have e1 : opFp fps t = t.2.fp := by unfold opFp; rw [e]; rfl
    rw [e1, List.append_assoc, List.append_assoc]
    exact ih.append_left _
  | .ref i :: os, t :: tms, fps, hi, hn, hl => by
    have e : t.2 = .ref i := hi.1
    simp only [OV.refs, nodupN, Bool.and_eq_true, Bool.not_eq_true', List.contains_eq_mem, decide_eq_false_iff_not] at hn
    have ih := lend_perm (tms := tms) (fps.set i []) hi.2 hn.2 (fun j hj => by simpa using hl j (by simp only [OV.refs]; exact List.mem_cons_of_mem _ hj))
    simp only [tfp, List.map_cons, List.flatten_cons, lendF]
    have e1 : opFp fps t = fps.getD i [] := by unfold opFp; rw [e]
    have e2 : t.2.fp = [] := by rw [e]; rfl
    have e3 : tms.map (opFp fps) = tms.map (opFp (fps.set i [])) := by
      refine List.map_congr_left fun u hu => ?_
      unfold opFp
      cases eu : u.2 with
      | own _ _ => rfl
      | ref j =>
        have : j ∈ OV.refs os := refs_mem_ov hi.2 ⟨u, hu, eu⟩
        simp only
        rw [getD_set_ne (i := i) (j := j) fun z => hn.1 (by rw [z]; exact this)]
    rw [e1, e2, e3, List.nil_append, List.append_assoc]
    refine ((flat_split fps i (hl i (by simp [OV.refs]))).append_left (tfp tms)).trans ?_
    rw [← List.append_assoc]
    refine (List.perm_append_comm.append_right _).trans ?_
    rw [List.append_assoc]
    exact ih.append_left _
  | [], _ :: _, _, h, _, _ => h.elim
  | _ :: _, [], _, h, _, _ => h.elim
theorem Sta.lend : ∀ {os : List OV} {ρ : Env} {fps : List (List Addr)}, Sta K B lk F H σ ρ fps ts → (∀ j ∈ OV.refs os, j < ρ.length) → Sta K B lk F H σ (clearE os ρ) (lendF os fps) ts
  | [], _, _, S, _ => S
  | .val _ :: os, _, _, S, h => Sta.lend (os := os) S (by simpa only [OV.refs] using h)
  | .ref i :: os, ρ, fps, S, h => by
    have S1 := S.clear (i := i) (h i (by simp [OV.refs]))
    exact Sta.lend (os := os) S1 fun j hj => by simpa using h j (by simp only [OV.refs]; exact List.mem_cons_of_mem _ hj)
/-- a value in flight goes back into the slot that names it -/
theorem Sta.put {i : Nat} {d : D} {v : V} {fp : List Addr} (S : Sta K B lk F H σ ρ fps ((v, .own d fp) :: ts)) (hi : i < ρ.length) (hv : σ[i]? = some (some v)) :
    Sta K B lk F H σ (ρ.set i (some d)) (fps.set i fp) ts := by
  have hf : i < fps.length := by rw [S.lenF]; exact hi
  have r : Rep K F H d v fp := S.temps _ (List.mem_cons_self ..)
  refine ⟨?_, by simp [S.len], by simp [S.lenF], fun j d' e => ?_, fun t h => S.temps t (List.mem_cons_of_mem _ h), S.locks, S.tb, S.opn⟩
  · refine S.own.less ?_
    simp only [tfp, Tm.fp]
    rw [List.append_assoc]
    have h1 : (tfp ts ++ (fps.set i fp).flatten).Perm (fp ++ (tfp ts ++ (fps.set i []).flatten)) := by
      refine ((flat_set fps i fp hf).append_left (tfp ts)).trans ?_
      rw [← List.append_assoc, ← List.append_assoc]
      exact List.perm_append_comm.append_right _
    have h2 : SubP (fps.set i []).flatten fps.flatten := SubP.trans (SubP.right (fps.getD i []) _) (.of_perm (flat_split fps i hf).symm)
    exact SubP.trans (.of_perm h1) (SubP.app (SubP.app h2 (tfp ts)) fp)
  · by_cases hj : i = j
    · subst hj
      rw [getE_set_same hi] at e
      cases e
      rw [getD_set_same hf]
      exact ⟨v, hv, r⟩
    · rw [getE_set_ne hj] at e
      rw [getD_set_ne hj]
      exact S.slots j d' e
theorem putBack_length : ∀ (os : List OV) (as : List D) (ρ : Env), (putBack os as ρ).length = ρ.length
  | [], as, ρ => by cases as <;> rfl
  | .val _ :: os, [], ρ => rfl
  | .ref _ :: os, [], ρ => rfl
  | .val _ :: os, a :: as, ρ => by simp only [putBack]; exact putBack_length os as ρ
  | .ref i :: os, a :: as, ρ => by simp only [putBack]; rw [putBack_length os as]; simp
/-- params in flight, as they stand behind a call -/
def inFlight : List V → List D → List (List Addr) → List (V × Tm)
  | v :: vs, d :: ds, f :: fs => (v, .own d f) :: inFlight vs ds fs
  | _, _, _ => []
theorem tfp_inFlight : ∀ {vs : List V} {ds : List D} {fs : List (List Addr)}, RepP K F H ds vs fs → tfp (inFlight vs ds fs) = fs.flatten
  | [], [], [], _ => rfl
  | v :: vs, d :: ds, f :: fs, h => by simp only [inFlight, tfp, Tm.fp, List.flatten_cons]; rw [tfp_inFlight h.2]
  | _ :: _, [], _, h => h.elim
  | [], _ :: _, [], h => h.elim
  | [], _ :: _, _ :: _, h => h.elim
  | [], [], _ :: _, h => h.elim
  | _ :: _, _ :: _, [], h => h.elim
theorem ok_inFlight : ∀ {vs : List V} {ds : List D} {fs : List (List Addr)}, RepP K F H ds vs fs → ∀ t ∈ inFlight vs ds fs, TmOk K F H σ t
  | [], [], [], _, t, ht => nomatch ht
  | v :: vs, d :: ds, f :: fs, h, t, ht => by
    rcases List.mem_cons.mp ht with rfl | ht
    · exact h.1
    · exact ok_inFlight h.2 t ht
  | _ :: _, [], _, h, _, _ => h.elim
  | [], _ :: _, [], h, _, _ => h.elim
  | [], _ :: _, _ :: _, h, _, _ => h.elim
  | [], [], _ :: _, h, _, _ => h.elim
  | _ :: _, _ :: _, [], h, _, _ => h.elim
theorem Sta.back : ∀ {os : List OV} {tms : List (V × Tm)} {as : List D} {fs : List (List Addr)} {ρ : Env} {fps : List (List Addr)}, OvsIs os tms → RepP K F H as (tms.map (·.1)) fs → (∀ j ∈ OV.refs os, j < ρ.length) → (∀ t ∈ tms, ∀ j, t.2 = .ref j → σ[j]? = some (some t.1)) →
    Sta K B lk F H σ ρ fps (inFlight (tms.map (·.1)) as fs ++ ts) → ∃ fps', Sta K B lk F H σ (putBack os as ρ) fps' ts
  | [], [], as, fs, ρ, fps, _, h, _, _, S => by
    cases as with
    | nil => cases fs with
      | nil => exact ⟨fps, S⟩
      | cons _ _ => exact h.elim
    | cons _ _ => exact h.elim
  | .val d :: os, t :: tms, a :: as, f :: fs, ρ, fps, hi, h, hl, hr, S => by
    simp only [putBack]
    exact Sta.back (os := os) hi.2 h.2 (by simpa only [OV.refs] using hl) (fun u hu => hr u (List.mem_cons_of_mem _ hu)) S.drop
  | .ref i :: os, t :: tms, a :: as, f :: fs, ρ, fps, hi, h, hl, hr, S => by
    simp only [putBack]
    have e : t.2 = .ref i := hi.1
    have S1 := Sta.put S (hl i (by simp [OV.refs])) (hr t (List.mem_cons_self ..) i e)
    exact Sta.back (os := os) hi.2 h.2 (fun j hj => by simpa using hl j (by simp only [OV.refs]; exact List.mem_cons_of_mem _ hj)) (fun u hu => hr u (List.mem_cons_of_mem _ hu)) S1
  | .val _ :: os, t :: tms, [], _, _, _, _, h, _, _, _ => h.elim
  | .ref _ :: os, t :: tms, [], _, _, _, _, h, _, _, _ => h.elim
  | .val _ :: os, t :: tms, _ :: _, [], _, _, _, h, _, _, _ => h.elim
  | .ref _ :: os, t :: tms, _ :: _, [], _, _, _, h, _, _, _ => h.elim
  | [], _ :: _, _, _, _, _, h, _, _, _, _ => h.elim
  | .val _ :: _, [], _, _, _, _, h, _, _, _, _ => h.elim
  | .ref _ :: _, [], _, _, _, _, h, _, _, _, _ => h.elim
theorem clearE_comm : ∀ (os : List OV) (ρ : Env) (i : Nat) (x : Option D), i ∉ OV.refs os → (clearE os ρ).set i x = clearE os (ρ.set i x)
  | [], _, _, _, _ => rfl
  | .val _ :: os, ρ, i, x, h => by simp only [clearE]; exact clearE_comm os ρ i x (by simpa only [OV.refs] using h)
  | .ref j :: os, ρ, i, x, h => by
    simp only [OV.refs, List.mem_cons, not_or] at h
    simp only [clearE]
    rw [clearE_comm os _ i x h.2, List.set_comm _ _ (Ne.symm h.1)]
theorem putBack_clear : ∀ (os : List OV) (as : List D) (ρ : Env), nodupN (OV.refs os) = true → as.length = os.length → putBack os as (clearE os ρ) = putBack os as ρ
  | [], as, ρ, _, _ => rfl
  | .val _ :: os, a :: as, ρ, hn, hl => by simp only [putBack, clearE]; exact putBack_clear os as ρ (by simpa only [OV.refs] using hn) (by simpa using hl)
  | .ref i :: os, a :: as, ρ, hn, hl => by
    simp only [OV.refs, nodupN, Bool.and_eq_true, Bool.not_eq_true', List.contains_eq_mem, decide_eq_false_iff_not] at hn
    simp only [putBack, clearE]
    rw [clearE_comm os _ i _ hn.1, List.set_set, putBack_clear os as _ hn.2 (by simpa using hl)]
  | .val _ :: _, [], _, _, hl => by simp at hl
  | .ref _ :: _, [], _, _, hl => by simp at hl
theorem getAll_len : ∀ {os : List OV} {ds : List D}, getAll ρ os = some ds → ds.length = os.length
  | [], ds, h => by simp only [getAll] at h; cases h; rfl
  | o :: os, ds, h => by
    obtain ⟨d, ds', rfl, _, h2⟩ := getAll_cons h
    simp [getAll_len h2]
theorem refs_lt : ∀ {os : List OV} {ds : List D}, getAll ρ os = some ds → ∀ j ∈ OV.refs os, j < ρ.length
  | [], ds, h, j, hj => nomatch hj
  | .val d :: os, ds, h, j, hj => by
    obtain ⟨d, ds', rfl, _, h2⟩ := getAll_cons h
    exact refs_lt h2 j (by simpa only [OV.refs] using hj)
  | .ref i :: os, ds, h, j, hj => by
    obtain ⟨d, ds', rfl, h1, h2⟩ := getAll_cons h
    simp only [OV.refs] at hj
    rcases List.mem_cons.mp hj with rfl | hj
    · exact getE_lt h1
    · exact refs_lt h2 j hj
theorem lent_rep : ∀ {os : List OV} {tms : List (V × Tm)} {ds : List D}, OvsIs os tms → getAll ρ os = some ds → (∀ t ∈ tms, TmOk K F H σ t) → (∀ i d, getE ρ i = some d → ∃ v, σ[i]? = some (some v) ∧ Rep K F H d v (fps.getD i [])) →
    RepP K F H ds (tms.map (·.1)) (tms.map (opFp fps))
  | [], [], ds, _, h, _, _ => by simp only [getAll] at h; cases h; trivial
  | .val d0 :: os, t :: tms, ds, hi, h, ht, hs => by
    obtain ⟨d, ds', rfl, h1, h2⟩ := getAll_cons h
    obtain ⟨fp, e⟩ := hi.1
    have q := ht t (List.mem_cons_self ..)
    unfold TmOk at q
    rw [e] at q
    cases h1
    refine ⟨?_, lent_rep hi.2 h2 (fun u hu => ht u (List.mem_cons_of_mem _ hu)) hs⟩
    unfold opFp
    rw [e]
    exact q
  | .ref i :: os, t :: tms, ds, hi, h, ht, hs => by
    obtain ⟨d, ds', rfl, h1, h2⟩ := getAll_cons h
    have e : t.2 = .ref i := hi.1
    have q := ht t (List.mem_cons_self ..)
    unfold TmOk at q
    rw [e] at q
    obtain ⟨v, e1, r⟩ := hs i d h1
    have q : σ[i]? = some (some t.1) := q
    rw [e1] at q
    cases q
    refine ⟨?_, lent_rep hi.2 h2 (fun u hu => ht u (List.mem_cons_of_mem _ hu)) hs⟩
    unfold opFp
    rw [e]
    exact r
  | [], _ :: _, _, h, _, _, _ => h.elim
  | .val _ :: _, [], _, h, _, _, _ => h.elim
  | .ref _ :: _, [], _, h, _, _, _ => h.elim
theorem lent_own {os : List OV} {tms : List (V × Tm)} {ds : List D} (hi : OvsIs os tms) (S : Sta K B lk F H σ ρ fps (tms.reverse ++ ts)) (hn : nodupN (OV.refs os) = true) (e : getAll ρ os = some ds) : OwnOk B F H ((tms.map (opFp fps)).flatten ++ (tfp ts ++ (lendF os fps).flatten)) := by
  have pm := lend_perm fps hi hn (by rw [S.lenF]; exact refs_lt e)
  have pm2 : (tfp (tms.reverse ++ ts) ++ fps.flatten).Perm ((tms.map (opFp fps)).flatten ++ (tfp ts ++ (lendF os fps).flatten)) := by
    refine (packed tms ts fps).trans ?_
    rw [← List.append_assoc]
    refine (List.perm_append_comm.append_right _).trans ?_
    rw [List.append_assoc]
    refine (pm.append_left (tfp ts)).trans ?_
    rw [← List.append_assoc, ← List.append_assoc]
    exact List.perm_append_comm.append_right _
  exact S.own.perm pm2.symm
theorem call_end2 {os : List OV} {tms : List (V × Tm)} {ds as : List D} {F' H' : Hp} {fp : List Addr} {fps' : List (List Addr)} {d : D} {v : V} (hi : OvsIs os tms) (S : Sta K B lk F H σ ρ fps (tms.reverse ++ ts)) (hn : nodupN (OV.refs os) = true) (e : getAll ρ os = some ds)
    (ow' : OwnOk B F' H' ((fp ++ fps'.flatten) ++ (tfp ts ++ (lendF os fps).flatten))) (keep : ∀ r ∈ tfp ts ++ (lendF os fps).flatten, H' r = H r) (hF : Same F F') (r : Rep K F' H' d v fp) (rp' : RepP K F' H' as (tms.map (·.1)) fps')
    (op : ∀ f LF e pm ctv, F' f = some (LamO LF e pm ctv) → CellsF F' LF.cl ∨ ∀ y c, LF.cl.lookup y = some c → Fr.cells.lookup y = some c) : ∃ fps2, Sta K B lk F' H' σ (putBack os as ρ) fps2 ((v, .own d fp) :: ts) := by
  have ht : ∀ t ∈ tms, TmOk K F H σ t := fun t h => S.temps t (by simp [h])
  have hlt := refs_lt e
  have S1 : Sta K B lk F H σ (clearE os ρ) (lendF os fps) ts := Sta.lend S.drops hlt
  have S2 : Sta K B lk F' H' σ (clearE os ρ) (lendF os fps) ts := Sta.mono0 S1 hF keep (ow'.less (SubP.right _ _)) op
  have S3 : Sta K B lk F' H' σ (clearE os ρ) (lendF os fps) ((v, .own d fp) :: ts) := Sta.pushOwn S2 (ow'.less (SubP.app2 (SubP.left fp fps'.flatten) _)) r
  have el : as.length = os.length := by rw [hi.length]; simpa using rp'.length.1.symm
  have S4 : Sta K B lk F' H' σ (clearE os ρ) (lendF os fps) (inFlight (tms.map (·.1)) as fps' ++ (v, .own d fp) :: ts) := by
    refine ⟨?_, S3.len, S3.lenF, S3.slots, fun t ht => ?_, S3.locks, S3.tb, S3.opn⟩
    · rw [tfp_app, tfp_inFlight rp']
      simp only [tfp, Tm.fp]
      refine ow'.perm ?_
      have := (List.perm_append_comm (l₁ := fps'.flatten) (l₂ := fp)).append_right (tfp ts ++ (lendF os fps).flatten)
      simpa only [List.append_assoc] using this
    · rcases List.mem_append.mp ht with h | h
      · exact ok_inFlight rp' t h
      · exact S3.temps t h
  have hc : ∀ j ∈ OV.refs os, j < (clearE os ρ).length := fun j hj => by rw [← S1.len, S.len]; exact hlt j hj
  obtain ⟨fps2, S5⟩ := Sta.back hi rp' hc (fun t ht' j e2 => by
    have q := ht t ht'
    unfold TmOk at q
    rw [e2] at q
    exact q) S4
  rw [putBack_clear os as ρ hn el] at S5
  exact ⟨fps2, S5⟩
theorem call_end {os : List OV} {tms : List (V × Tm)} {ds as : List D} {F' H' : Hp} {fp : List Addr} {fps' : List (List Addr)} {d : D} {v : V} (hi : OvsIs os tms) (S : Sta K B lk F H σ ρ fps (tms.reverse ++ ts)) (hn : nodupN (OV.refs os) = true) (e : getAll ρ os = some ds)
    (O : OwnOk ⟨F, H, (tms.map (opFp fps)).flatten⟩ F' H' (fp ++ fps'.flatten)) (r : Rep K F' H' d v fp) (rp' : RepP K F' H' as (tms.map (·.1)) fps') (cF : Closed F') : ∃ fps2, Sta K B lk F' H' σ (putBack os as ρ) fps2 ((v, .own d fp) :: ts) := by
  obtain ⟨ow', keep, hF⟩ := (lent_own hi S hn e).call O
  exact call_end2 hi S hn e ow' keep hF r rp' fun f LF e pm ctv q => .inl (cF f LF e pm ctv q)
section
local instance iFr0_Mi7_1 : Fr := Fr0
theorem o_call {f : Nat} {vs : List V} (hcl : fr = Fr0) (h : OpsAt K E (fun os ρ1 => match nodupN (OV.refs os), getAll ρ1 os with
    | true, some ds => match Φ f ds with
      | .ok d as => if as.length = ds.length then .ok d (putBack os as ρ1) else .stk
      | .exc c d as => .exc c d (putBack os as ρ1)
      | .stk => .stk
    | _, _ => .stk) σ Q vs H) : spI K Φ f vs H Q E := by
  subst hcl
  obtain ⟨B, lk, F, ρ, fps, ts, os, tms, rfl, hi, S, o⟩ := h
  cases hn : nodupN (OV.refs os) with
  | false => simp only [hn] at o; exact o.elim
  | true =>
    cases e : getAll ρ os with
    | none => simp only [hn, e] at o; exact o.elim
    | some ds =>
      simp only [hn, e] at o
      have ht : ∀ t ∈ tms, TmOk K F H σ t := fun t h => S.temps t (by simp [h])
      have rp := lent_rep (fps := fps) hi e ht S.slots
      have pm := lend_perm fps hi hn (by rw [S.lenF]; exact refs_lt e)
      have pm2 : (tfp (tms.reverse ++ ts) ++ fps.flatten).Perm ((tms.map (opFp fps)).flatten ++ (tfp ts ++ (lendF os fps).flatten)) := by
        refine (packed tms ts fps).trans ?_
        rw [← List.append_assoc]
        refine (List.perm_append_comm.append_right _).trans ?_
        rw [List.append_assoc]
        refine (pm.append_left (tfp ts)).trans ?_
        rw [← List.append_assoc, ← List.append_assoc]
        exact List.perm_append_comm.append_right _
      have ow := S.own.perm pm2.symm
      refine ⟨F, ds, tms.map (opFp fps), S.own.sub, rp, (SubP.left _ _).nodup ow.nodup, fun a ha => ow.disj a (List.mem_append_left _ ha), ⟨S.own.tabs S.tb, S.own.nof, S.closed rfl⟩, ?_⟩
      cases eΦ : Φ f ds with
      | stk => rw [eΦ] at o; exact o.elim
      | exc c d as =>
        rw [eΦ] at o
        have o : XC K E B lk σ c d (putBack os as ρ) := o
        intro cls dx F' H' fps' O cF rx rp'
        obtain ⟨fps2, S5⟩ := call_end (fp := []) (d := .non) (v := .non) hi S hn e (by simpa using O) (by simp [Rep]) rp' cF
        have S6 : Sta K B lk F' H' σ (putBack os as ρ) fps2 ([] : List (V × Tm)) := Sta.drops (us := ts) (by simpa using S5.drop)
        exact o cls dx F' H' fps2 S6 rx
      | ok d as =>
        rw [eΦ] at o
        simp only at o ⊢
        split at o
        · intro v F' H' fp fps' O cF r rp'
          obtain ⟨fps2, S5⟩ := call_end hi S hn e O r rp' cF
          exact o v fp F' H' fps2 S5
        · exact o.elim
end
end Mi
end

section
set_option Elab.async false
set_option linter.all false
set_option maxRecDepth 100000
/-! What is walked; comprehensions. -/
namespace Mi
open PySem PySem.Spec PyProof.Rows L2
variable [LT] [Fr]
variable {K : PySem.W.Frag} {Φ : Fns} {E : XK} {B : Bs} {lk : List (Nat × V)} {F F' H H' : Hp} {σ : L2.St} {ρ : Env} {fps : List (List Addr)} {ts : List (V × Tm)} {Q : VK} {X : Cx}

/-- an iterator that tells ds, whatever else happens to what does not stay -/
structure ItOk (K : PySem.W.Frag) (F0 : Hp) (J : L2.It) (ds : List D) : Prop where
  go : ∀ i F H, Same F0 F → Same F H → i < ds.length → J.go i H
  stop : ∀ i F H, Same F0 F → Same F H → ds.length = i → J.stop i H
  yld : ∀ i F H x H' d, Same F0 F → Same F H → J.yld i H x H' → ds[i]? = some d → ∃ F', PrimRes K F H F' H' d x []
def tIt (K : PySem.W.Frag) (Φ : Fns) (E : XK) (it : It) : TI := fun σ H R => ∃ B lk F ρ fps ts, Sta K B lk F H σ ρ fps ts ∧
  Out (XC K E B lk σ) (evIt Φ it ρ) fun ds ρ' => ∀ J F' H' fps', ItOk K F' J ds → Sta K B lk F' H' σ ρ' fps' ts → R J H'
theorem PI.imp {X : Cx} {tg e : Expr} {t t' : TI} (h : PI X tg e t) (hi : ∀ σ H R, t' σ H R → t σ H R) : PI X tg e t' := ⟨fun pins s σ H R I q => h.run pins s σ H R I (hi σ H R q)⟩

/-- all values in flight are frozen -/
theorem Sta.freezeAll : ∀ {us : List (V × Tm)} {F : Hp}, Sta K B lk F H σ ρ fps (us ++ ts) → ∃ F', Same F F' ∧ Sta K B lk F' H σ ρ fps ts ∧ ∀ t ∈ us, ∀ d fp, t.2 = .own d fp → Rep K F' H d.frz t.1 []
  | [], F, S => ⟨F, Same.refl _, S, fun _ h => nomatch h⟩
  | (v, .own d fp) :: us, F, S => by
    obtain ⟨F1, s1, r1, S1⟩ := Sta.freezeT S
    obtain ⟨F2, s2, S2, h2⟩ := Sta.freezeAll S1
    refine ⟨F2, Same.trans s1 s2, S2, fun t ht d' fp' e => ?_⟩
    rcases List.mem_cons.mp ht with rfl | ht
    · cases e
      exact Rep.mono s2 _ _ _ (fun _ h => nomatch h) r1
    · exact h2 t ht d' fp' e
  | (v, .ref i) :: us, F, S => by
    obtain ⟨F2, s2, S2, h2⟩ := Sta.freezeAll (us := us) S.drop
    refine ⟨F2, s2, S2, fun t ht d' fp' e => ?_⟩
    rcases List.mem_cons.mp ht with rfl | ht
    · cases e
    · exact h2 t ht d' fp' e
/-- what is walked lies where it stays -/
def SrcOk (K : PySem.W.Frag) (F H : Hp) (v : V) (ds : List D) : Prop := ∃ a vs, v = .ref a ∧ (SqL K F a vs ∨ SqT K F a vs) ∧ RepL K F H ds vs []
theorem SrcOk.of {d : D} {v : V} {xs : List D} (h : Rep K F H d v []) (ho : d.own = false) (e : seqOf d = some xs) : SrcOk K F H v xs := by
  unfold seqOf at e
  split at e
  · rename_i o ys
    cases e
    cases o with
    | true => simp [D.own] at ho
    | false =>
      simp only [Rep] at h
      obtain ⟨a, vs, e1, h1, h2, _⟩ := h
      exact ⟨a, vs, e1, .inl (SqL.of h1), h2⟩
  · cases e
    simp only [Rep] at h
    obtain ⟨a, vs, e1, h1, h2⟩ := h
    exact ⟨a, vs, e1, .inr h1, h2⟩
  · cases e
    simp only [Rep] at h
    obtain ⟨a, vs, e1, h1, h2, _⟩ := h
    exact ⟨a, vs, e1, .inl h1, h2⟩
  · cases e
theorem seqOf_frz {d : D} {xs : List D} (e : seqOf d = some xs) : seqOf d.frz = some (frzL xs) := by
  unfold seqOf at e
  split at e <;> first | (cases e; rfl) | (cases e)
theorem itemsAll_cons {o : OV} {os : List OV} {dss : List (List D)} (h : itemsAll ρ (o :: os) = some dss) : ∃ d ds', dss = d :: ds' ∧ itemsOf ρ o = some d ∧ itemsAll ρ os = some ds' := by
  simp only [itemsAll] at h
  cases e1 : itemsOf ρ o with
  | none => rw [e1] at h; cases h
  | some a =>
    cases e2 : itemsAll ρ os with
    | none => rw [e1, e2] at h; cases h
    | some b => rw [e1, e2] at h; cases h; exact ⟨a, b, rfl, rfl, rfl⟩
theorem src_one {o : OV} {t : V × Tm} {ds : List D} (hi : OvIs o t.2) (e : itemsOf ρ o = some ds) (hf : ∀ d fp, t.2 = .own d fp → Rep K F H d.frz t.1 []) (ht : ∀ i, t.2 = .ref i → σ[i]? = some (some t.1))
    (hs : ∀ i d, getE ρ i = some d → ∃ v, σ[i]? = some (some v) ∧ Rep K F H d v (fps.getD i [])) : SrcOk K F H t.1 ds := by
  cases o with
  | val d =>
    obtain ⟨fp, e2⟩ := hi
    simp only [itemsOf] at e
    cases e3 : seqOf d with
    | none => rw [e3] at e; cases e
    | some xs =>
      rw [e3] at e
      cases e
      exact SrcOk.of (hf d fp e2) (D.frz_own d) (seqOf_frz e3)
  | ref i =>
    have e2 : t.2 = .ref i := hi
    simp only [itemsOf] at e
    cases e3 : getE ρ i with
    | none => rw [e3] at e; cases e
    | some d =>
      rw [e3] at e
      simp only at e
      split at e
      · cases e
      · rename_i ho
        have ho : d.own = false := by simpa using ho
        obtain ⟨v, e4, r⟩ := hs i d e3
        rw [ht i e2] at e4
        cases e4
        exact SrcOk.of (Rep.nil ho r) ho e
def SrcsOk (K : PySem.W.Frag) (F H : Hp) : List (List D) → List V → Prop
  | [], [] => True
  | d :: ds, v :: vs => SrcOk K F H v d ∧ SrcsOk K F H ds vs
  | _, _ => False
theorem srcs_ok : ∀ {os : List OV} {tms : List (V × Tm)} {dss : List (List D)}, OvsIs os tms → itemsAll ρ os = some dss → (∀ t ∈ tms, ∀ d fp, t.2 = .own d fp → Rep K F H d.frz t.1 []) → (∀ t ∈ tms, ∀ i, t.2 = .ref i → σ[i]? = some (some t.1)) →
    (∀ i d, getE ρ i = some d → ∃ v, σ[i]? = some (some v) ∧ Rep K F H d v (fps.getD i [])) → SrcsOk K F H dss (tms.map (·.1))
  | [], [], dss, _, e, _, _, _ => by simp only [itemsAll] at e; cases e; trivial
  | o :: os, t :: tms, dss, hi, e, hf, ht, hs => by
    obtain ⟨d, ds', rfl, h1, h2⟩ := itemsAll_cons e
    exact ⟨src_one hi.1 h1 (hf t (List.mem_cons_self ..)) (ht t (List.mem_cons_self ..)) hs,
      srcs_ok hi.2 h2 (fun u hu => hf u (List.mem_cons_of_mem _ hu)) (fun u hu => ht u (List.mem_cons_of_mem _ hu)) hs⟩
  | [], _ :: _, _, h, _, _, _, _ => h.elim
  | _ :: _, [], _, h, _, _, _, _ => h.elim
/-- the sources of a walk, in a row -/
theorem t_srcs {es : List IE} {g : List (List D) → Option (List D)} {it : It} {R : L2.It → Hp → Prop} (h : tIt K Φ E it σ H R)
    (he : ∀ ρ, evIt Φ it ρ = (evs Φ es ρ).bind fun os ρ1 => ofOpt ((itemsAll ρ1 os).bind g) ρ1) :
    tOs K Φ E es σ H fun vs H1 => ∃ F dss ds, SrcsOk K F H1 dss vs ∧ Same F H1 ∧ g dss = some ds ∧ ∀ J, ItOk K F J ds → R J H1 := by
  obtain ⟨B, lk, F, ρ, fps, ts, S, o⟩ := h
  rw [he, out_bind] at o
  refine ⟨B, lk, F, ρ, fps, ts, S, o.imp fun os ρ1 q tms F1 H1 fps1 hi S1 => ?_⟩
  cases e : itemsAll ρ1 os with
  | none => rw [e] at q; exact q.elim
  | some dss =>
    rw [e] at q
    have q : Out (XC K E B lk σ) (ofOpt (g dss) ρ1) _ := q
    cases e2 : g dss with
    | none => rw [e2] at q; exact q.elim
    | some ds =>
      rw [e2] at q
      obtain ⟨F2, s2, S2, hf⟩ := Sta.freezeAll S1
      refine ⟨F2, dss, ds, srcs_ok (fps := fps1) (σ := σ) hi e (fun t ht => hf t (by simp [ht])) (fun t ht i e3 => ?_) S2.slots, S2.own.sub, e2, fun J hJ => q J F2 H1 fps1 hJ S2⟩
      have := S1.temps t (by simp [ht])
      unfold TmOk at this
      rw [e3] at this
      exact this

/-! ### a list or a tuple -/
theorem itOk_list {a : Addr} {vs : List V} {ds : List D} (h1 : SqL K F a vs) (h2 : RepL K F H ds vs []) : ItOk K F (Itl K a) ds where
  go := fun i F1 H1 s1 s2 hi => by
    have hl := RepL.length _ _ _ h2
    exact ⟨vs, vs[i]'(by omega), Same.seq (Same.trans s1 s2) h1, by simp⟩
  stop := fun i F1 H1 s1 s2 hi => ⟨vs, Same.seq (Same.trans s1 s2) h1, by rw [RepL.length _ _ _ h2]; omega⟩
  yld := fun i F1 H1 x H' d s1 s2 hy e => by
    obtain ⟨rfl, hy⟩ := hy
    obtain ⟨v, f, e1, r, hf⟩ := RepL.get i h2 e
    have := hy vs (Same.seq (Same.trans s1 s2) h1)
    rw [e1] at this
    cases this
    have ef : f = [] := List.eq_nil_iff_forall_not_mem.mpr fun b hb => nomatch hf b hb
    subst ef
    exact ⟨F1, .here s2 (Rep.mono s1 _ _ _ (fun _ h => nomatch h) r)⟩
theorem itOk_tup {a : Addr} {vs : List V} {ds : List D} (h1 : SqT K F a vs) (h2 : RepL K F H ds vs []) : ItOk K F (Itt K a) ds where
  go := fun i F1 H1 s1 s2 hi => by
    have hl := RepL.length _ _ _ h2
    exact ⟨vs, vs[i]'(by omega), Same.seqT (Same.trans s1 s2) h1, by simp⟩
  stop := fun i F1 H1 s1 s2 hi => ⟨vs, Same.seqT (Same.trans s1 s2) h1, by rw [RepL.length _ _ _ h2]; omega⟩
  yld := fun i F1 H1 x H' d s1 s2 hy e => by
    obtain ⟨rfl, hy⟩ := hy
    obtain ⟨v, f, e1, r, hf⟩ := RepL.get i h2 e
    have := hy vs (Same.seqT (Same.trans s1 s2) h1)
    rw [e1] at this
    cases this
    have ef : f = [] := List.eq_nil_iff_forall_not_mem.mpr fun b hb => nomatch hf b hb
    subst ef
    exact ⟨F1, .here s2 (Rep.mono s1 _ _ _ (fun _ h => nomatch h) r)⟩
/-- what is handed to iter(): a list or a tuple, as it comes -/
def iSeq (K : PySem.W.Frag) (te : TE) : TI := fun σ H R => te σ H fun x H1 => ∃ a xs, x = .ref a ∧ ((SqL K H1 a xs ∧ R (Itl K a) H1) ∨ (SqT K H1 a xs ∧ R (Itt K a) H1))
theorem pi_seq {tg e : Expr} {te : TE} (he : PE X e te) : PI X tg e (iSeq X.K te) := by
  constructor
  intro pins s σ H R I h
  refine wpAny_mono (he.run pins s σ H _ I h) (fun v s1 hv => ?_) fun _ _ x => x
  obtain ⟨x, H1, I1, r1, a, xs, rfl, q⟩ := hv
  cases r1
  have fresh : ∀ b ∈ [s1.heap.objs.size], FpOk X pins H1 b := fun b hb => by
    obtain rfl : b = s1.heap.objs.size := by simpa using hb
    exact I1.fpOk (Nat.le_refl _) (I1.hok.fresh (Nat.le_refl _))
  rcases q with ⟨hq, q⟩ | ⟨hq, q⟩
  · obtain ⟨its, rv, p, hz⟩ := I1.list hq
    refine wpAny_pyIter_list p.isList ?_
    refine ⟨s1.heap.objs.size, [s1.heap.objs.size], _, Itl X.K a, H1, rfl, I1.kept (t' := s1.toks) fun b o e => ?_, turn_list a _, ?_, fresh, q⟩
    · exact Heap.get?_push_of_some _ e
    · exact ⟨_, Heap.get?_push_size _ rfl, rfl, rfl⟩
  · obtain ⟨its, rv, p, hz⟩ := I1.tuple hq
    refine wpAny_pyIter_tuple (show s1.heap.IsTuple a its.toArray from p) ?_
    refine ⟨s1.heap.objs.size, [s1.heap.objs.size], _, Itt X.K a, H1, rfl, I1.kept (t' := s1.toks) fun b o e => ?_, turn_tuple a _, ?_, fresh, q⟩
    · exact Heap.get?_push_of_some _ e
    · exact ⟨_, Heap.get?_push_size _ rfl, rfl, rfl⟩
theorem seqG_inv {dss : List (List D)} {ds : List D} (h : seqG dss = some ds) : dss = [ds] := by
  unfold seqG at h
  split at h
  · cases h; rfl
  · cases h
theorem srcs_one {d : List D} {x : V} (h : SrcsOk K F H [d] [x]) : SrcOk K F H x d := h.1
theorem t_seq {e : IE} {R : L2.It → Hp → Prop} (ho : OneO Φ e) (h : tIt K Φ E (.seq [e]) σ H R) : iSeq K (tO K Φ E e) σ H R := by
  have h1 := t_srcs (es := [e]) (g := seqG) h fun ρ => by simp only [evIt]
  have h2 := t_one' ho h1
  unfold iSeq
  refine tO_mono h2 ?_
  rintro x H1 ⟨F, dss, ds, hs, sF, eg, q⟩
  obtain rfl := seqG_inv eg
  obtain ⟨p, vs, e, hq, r⟩ := srcs_one hs
  rcases hq with hq | hq
  · exact ⟨p, vs, e, .inl ⟨Same.seq sF hq, q _ (itOk_list hq r)⟩⟩
  · exact ⟨p, vs, e, .inr ⟨Same.seqT sF hq, q _ (itOk_tup hq r)⟩⟩
/-! ### range -/
theorem rangeD_get : ∀ (n : Nat) (a s : Int) (i : Nat), i < n → (rangeD n a s)[i]? = some (.int (a + i * s))
  | 0, _, _, _, h => by omega
  | n + 1, a, s, 0, _ => by simp [rangeD]
  | n + 1, a, s, i + 1, h => by
    simp only [rangeD, List.getElem?_cons_succ]
    rw [rangeD_get n (a + s) s i (by omega)]
    have : a + s + (i : Int) * s = a + ((i + 1 : Nat) : Int) * s := by
      rw [Int.natCast_add, Int.add_mul]
      simp
      omega
    rw [this]
theorem rangeD_length : ∀ (n : Nat) (a s : Int), (rangeD n a s).length = n
  | 0, _, _ => rfl
  | n + 1, a, s => by simp [rangeD, rangeD_length n]
theorem itOk_range (lo : Int) (n : Nat) : ItOk K F (Itr lo n) (rangeD n lo 1) where
  go := fun i F1 H1 s1 s2 hi => by rw [rangeD_length] at hi; exact hi
  stop := fun i F1 H1 s1 s2 hi => by rw [rangeD_length] at hi; exact Nat.le_of_eq hi
  yld := fun i F1 H1 x H' d s1 s2 hy e => by
    obtain ⟨rfl, rfl⟩ := hy
    have hi : i < n := by
      have := (List.getElem?_eq_some_iff.mp e).1
      rwa [rangeD_length] at this
    rw [rangeD_get n lo 1 i hi] at e
    cases e
    exact ⟨F1, .here s2 (by simp [Rep])⟩
theorem rangeOk_bounds {i : Int} (h : rangeOk i = true) : -(2 ^ 62) ≤ i ∧ i < 2 ^ 62 := by
  unfold rangeOk at h
  simp only [Bool.and_eq_true, decide_eq_true_eq] at h
  constructor <;> omega
theorem t_range_ops {es : List IE} {R : L2.It → Hp → Prop} (h : tIt K Φ E (.range es) σ H R) : tOs K Φ E es σ H fun vs H1 => ∃ F ds os, WRepL K F H1 ds vs ∧ rangeOf ds = some os ∧ Same F H1 ∧ ∀ J, ItOk K F J os → R J H1 := by
  obtain ⟨B, lk, F, ρ, fps, ts, S, o⟩ := h
  simp only [evIt] at o
  rw [out_bind] at o
  refine ⟨B, lk, F, ρ, fps, ts, S, o.imp fun os ρ1 q tms F1 H1 fps1 hi S1 => ?_⟩
  cases e : getAll ρ1 os with
  | none => rw [e] at q; exact q.elim
  | some ds =>
    rw [e] at q
    have q : Out (XC K E B lk σ) (ofOpt (rangeOf ds) ρ1) _ := q
    cases e2 : rangeOf ds with
    | none => rw [e2] at q; exact q.elim
    | some l =>
      rw [e2] at q
      exact ⟨F1, ds, l, S1.wrepsR hi e, e2, S1.own.sub, fun J hJ => q J F1 H1 fps1 hJ S1.drops⟩
theorem t_range1 {a : IE} {R : L2.It → Hp → Prop} (ha : OneO Φ a) (h : tIt K Φ E (.range [a]) σ H R) : iRng1 (tCons (tO K Φ E a) tNil) σ H R := by
  refine tO_mono (t_one' ha (t_range_ops h)) fun x H1 ⟨F, ds, l, w, e, sF, q⟩ => ?_
  unfold rangeOf at e
  split at e
  · obtain ⟨x', ex, fp, r⟩ := wrep1 w
    cases ex
    obtain rfl := rep_int r
    split at e
    · rename_i hz
      simp only [Bool.and_eq_true, decide_eq_true_eq] at hz
      cases e
      obtain ⟨b1, b2⟩ := rangeOk_bounds hz.1
      exact ⟨_, rfl, b1, b2, q _ (itOk_range 0 _)⟩
    · cases e
  · obtain ⟨x', y', ex, _⟩ := wrep2 w
    cases ex
  · cases e
theorem t_range2 {a b : IE} {R : L2.It → Hp → Prop} (ha : OneO Φ a) (hb : OneO Φ b) (h : tIt K Φ E (.range [a, b]) σ H R) : iRng2 (tCons (tO K Φ E a) (tCons (tO K Φ E b) tNil)) σ H R := by
  refine tO_mono (t_two' ha hb (t_range_ops h)) fun x H1 q => tO_mono q fun y H2 ⟨F, ds, l, w, e, sF, q⟩ => ?_
  unfold rangeOf at e
  split at e
  · obtain ⟨x', ex, _⟩ := wrep1 w
    cases ex
  · obtain ⟨x', y', ex, ⟨f1, r1⟩, ⟨f2, r2⟩⟩ := wrep2 w
    cases ex
    obtain rfl := rep_int r1
    obtain rfl := rep_int r2
    split at e
    · rename_i hz
      simp only [Bool.and_eq_true, decide_eq_true_eq] at hz
      cases e
      obtain ⟨b1, b2⟩ := rangeOk_bounds hz.1.1
      obtain ⟨b3, b4⟩ := rangeOk_bounds hz.1.2
      exact ⟨_, _, rfl, ⟨b1, b2, b3, b4⟩, q _ (itOk_range _ _)⟩
    · cases e
  · cases e
/-! ### list(range(..)), tuple(range(..)) -/
theorem rng_rep {F H : Hp} : ∀ (n : Nat) (a : Int), RepL K F H (rangeD n a 1) ((List.range n).map fun i => V.int (a + (i : Nat))) []
  | 0, a => by simp [rangeD, RepL]
  | n + 1, a => by
    rw [List.range_succ_eq_map, List.map_cons, List.map_map]
    simp only [rangeD, RepL]
    refine ⟨.int a, _, [], [], ?_, by simp [Rep], rng_rep n (a + 1), rfl⟩
    have e1 : V.int (a + ((0 : Nat) : Int)) = V.int a := by simp
    have e2 : (List.range n).map ((fun i => V.int (a + (i : Nat))) ∘ Nat.succ) = (List.range n).map fun i => V.int (a + 1 + (i : Nat)) := List.map_congr_left fun i _ => by
      show V.int (a + ((i + 1 : Nat) : Int)) = V.int (a + 1 + (i : Int))
      congr 1
      omega
    rw [e1, e2]
theorem rangeOf_ok {ds os : List D} (h : rangeOf ds = some os) : (∃ n : Int, ds = [.int n] ∧ RgOk 0 n ∧ os = rangeD (n - 0).toNat 0 1) ∨ (∃ a b : Int, ds = [.int a, .int b] ∧ RgOk a b ∧ os = rangeD (b - a).toNat a 1) := by
  unfold rangeOf at h
  split at h
  · rename_i n
    split at h
    · rename_i hz
      simp only [Bool.and_eq_true, decide_eq_true_eq] at hz
      cases h
      obtain ⟨b1, b2⟩ := rangeOk_bounds hz.1
      have hz2 : n.toNat ≤ 16777216 := hz.2
      exact .inl ⟨n, rfl, ⟨by omega, by omega, b1, b2, by omega⟩, by rw [Int.sub_zero]⟩
    · cases h
  · rename_i a b
    split at h
    · rename_i hz
      simp only [Bool.and_eq_true, decide_eq_true_eq] at hz
      cases h
      obtain ⟨b1, b2⟩ := rangeOk_bounds hz.1.1
      obtain ⟨b3, b4⟩ := rangeOk_bounds hz.1.2
      have hz2 : (b - a).toNat ≤ 16777216 := hz.2
      exact .inr ⟨a, b, rfl, ⟨b1, b2, b3, b4, by omega⟩, rfl⟩
    · cases h
  · cases h
/-- a range's bounds, the operands in a row -/
def tRgO (K : PySem.W.Frag) (Φ : Fns) (E : XK) (es : List IE) : L2.St → Hp → (Int → Int → Hp → Prop) → Prop := fun σ H Q => tOs K Φ E es σ H fun vs H1 => ∃ a b : Int, ((vs = [.int b] ∧ a = 0) ∨ vs = [.int a, .int b]) ∧ Q a b H1
theorem t_rng {tup : Bool} {es : List IE} (h : tI K Φ E (.rng tup es) σ H Q) : tOs K Φ E es σ H fun vs H1 => ∃ a b : Int, ((vs = [.int b] ∧ a = 0) ∨ vs = [.int a, .int b]) ∧ RgOk a b ∧ ∀ q, H1 q = none → Q (.ref q) (upd H1 q (if tup then .tup (rgV a b) else .lst (rgV a b))) := by
  obtain ⟨B, lk, F, ρ, fps, ts, S, o⟩ := h
  simp only [ev] at o
  rw [out_bind] at o
  refine ⟨B, lk, F, ρ, fps, ts, S, o.imp fun os ρ1 q tms F1 H1 fps1 hi S1 => ?_⟩
  cases e : getAll ρ1 os with
  | none => rw [e] at q; exact q.elim
  | some ds =>
    rw [e] at q
    cases e2 : rangeOf ds with
    | none => simp only [Option.bind_some, e2] at q; exact q.elim
    | some l =>
      simp only [Option.bind_some, e2] at q
      have q : ∀ v fp F' H' fps', Sta K B lk F' H' σ ρ1 fps' ((v, .own (if tup then .tup l else .lst true l) fp) :: ts) → Q v H' := q
      have w := S1.wrepsR hi e
      have fin : ∀ a b : Int, l = rangeD (b - a).toNat a 1 → ∀ p, H1 p = none → Q (.ref p) (upd H1 p (if tup then .tup (rgV a b) else .lst (rgV a b))) := fun a b el p hp => by
        subst el
        have rr : RepL K F1 H1 (rangeD (b - a).toNat a 1) (rgV a b) [] := rng_rep _ a
        cases tup with
        | true => exact q (.ref p) [] _ _ fps1 (S1.drops.push (PrimRes.newT S1.own.sub rr hp))
        | false => exact q (.ref p) [p] _ _ fps1 (S1.drops.push (PrimRes.newL S1.own.sub rr hp))
      rcases rangeOf_ok e2 with ⟨n, rfl, ok, el⟩ | ⟨a, b, rfl, ok, el⟩
      · obtain ⟨x', ex, fp, r⟩ := wrep1 w
        have er := rep_int r
        subst er
        exact ⟨0, n, .inl ⟨ex, rfl⟩, ok, fin 0 n el⟩
      · obtain ⟨x', y', ex, ⟨f1, r1⟩, ⟨f2, r2⟩⟩ := wrep2 w
        have er1 := rep_int r1
        have er2 := rep_int r2
        subst er1
        subst er2
        exact ⟨a, b, .inr ex, ok, fin a b el⟩
end Mi
end

section
set_option Elab.async false
set_option linter.all false
set_option maxRecDepth 100000
/-! Targets; comprehensions. -/
namespace Mi
open PySem PySem.Spec PyProof.Rows L2
variable [LT] [Fr]
variable {K : PySem.W.Frag} {Φ : Fns} {E : XK} {B : Bs} {lk : List (Nat × V)} {F F' H H' : Hp} {σ : L2.St} {ρ : Env} {fps : List (List Addr)} {ts : List (V × Tm)} {Q : VK} {X : Cx}

mutual
def slotsT : Tg → List Nat
  | .slot i => [i]
  | .tup ts => slotsTs ts
def slotsTs : List Tg → List Nat
  | [] => []
  | t :: ts => slotsT t ++ slotsTs ts
end
def NoRefs (ts : List (V × Tm)) : Prop := ∀ t ∈ ts, ∀ i, t.2 ≠ .ref i
def Agree (σ σ' : L2.St) (js : List Nat) : Prop := σ'.length = σ.length ∧ ∀ j, j ∉ js → σ'[j]? = σ[j]?
def tG (K : PySem.W.Frag) (lkN : List Nat) (tg : Tg) : TG := fun v σ H Q => ∃ B lk F ρ fps ts d fp, Sta K B lk F H σ ρ fps ((v, .own d fp) :: ts) ∧ (∀ p ∈ lk, lkN.contains p.1 = true) ∧ NoRefs ts ∧
  ∃ ρ1, bindT lkN tg d ρ = some ρ1 ∧ ∀ σ' fps', Sta K B lk F H σ' ρ1 fps' ts → Agree σ σ' (slotsT tg) → Q σ' H
def tGs (K : PySem.W.Frag) (lkN : List Nat) (tgs : List Tg) : TGs := fun vs σ H Q => ∃ B lk F ρ fps ts ds fs, Sta K B lk F H σ ρ fps (inFlight vs ds fs ++ ts) ∧ RepP K F H ds vs fs ∧ (∀ p ∈ lk, lkN.contains p.1 = true) ∧ NoRefs ts ∧
  ∃ ρ1, bindTs lkN tgs ds ρ = some ρ1 ∧ ∀ σ' fps', Sta K B lk F H σ' ρ1 fps' ts → Agree σ σ' (slotsTs tgs) → Q σ' H
theorem PG.imp {tg : Expr} {t t' : TG} (h : PG X tg t) (hi : ∀ v σ H Q, t' v σ H Q → t v σ H Q) : PG X tg t' := ⟨fun pins s σ H v u Q I r q => h.run pins s σ H v u Q I r (hi v σ H Q q)⟩
theorem PGs.imp {tg : List Expr} {t t' : TGs} (h : PGs X tg t) (hi : ∀ v σ H Q, t' v σ H Q → t v σ H Q) : PGs X tg t' := ⟨fun pins s σ H v u Q I r q => h.run pins s σ H v u Q I r (hi v σ H Q q)⟩
theorem g_slot {lkN : List Nat} {i : Nat} {v : V} {Q : L2.St → Hp → Prop} (h : tG K lkN (.slot i) v σ H Q) : gName i v σ H Q := by
  obtain ⟨B, lk, F, ρ, fps, ts, d, fp, S, hl, hn, ρ1, e, q⟩ := h
  simp only [bindT] at e
  split at e
  · cases e
  · rename_i hc
    split at e
    · rename_i hi
      cases e
      refine q _ _ (S.store hi (fun p hp z => hc (z ▸ hl p hp)) fun t ht => hn t ht i) ⟨by simp, fun j hj => ?_⟩
      simp only [slotsT, List.mem_singleton] at hj
      rw [List.getElem?_set_ne (Ne.symm hj)]
    · cases e
theorem repP_of : ∀ {ds : List D} {vs : List V} {fp : List Addr}, RepL K F H ds vs fp → ∃ fs, RepP K F H ds vs fs ∧ fs.flatten = fp
  | [], vs, fp, h => by
    simp only [RepL] at h
    obtain ⟨rfl, rfl⟩ := h
    exact ⟨[], trivial, rfl⟩
  | d :: ds, vs, fp, h => by
    simp only [RepL] at h
    obtain ⟨v, vs', f1, f2, rfl, h1, h2, rfl⟩ := h
    obtain ⟨fs, h3, rfl⟩ := repP_of h2
    exact ⟨f1 :: fs, ⟨h1, h3⟩, rfl⟩
theorem bindTs_len : ∀ {lkN : List Nat} {tgs : List Tg} {ds : List D} {ρ ρ1 : Env}, bindTs lkN tgs ds ρ = some ρ1 → ds.length = tgs.length
  | _, [], [], _, _, _ => rfl
  | lkN, t :: ts, d :: ds, ρ, ρ1, h => by
    simp only [bindTs] at h
    split at h
    · simp [bindTs_len h]
    · cases h
  | _, [], _ :: _, _, _, h => by simp [bindTs] at h
  | _, _ :: _, [], _, _, h => by simp [bindTs] at h
theorem g_tup {lkN : List Nat} {tgs : List Tg} {v : V} {Q : L2.St → Hp → Prop} {n : Nat} (hn : tgs.length = n) (h : tG K lkN (.tup tgs) v σ H Q) : gTup K n (tGs K lkN tgs) v σ H Q := by
  obtain ⟨B, lk, F, ρ, fps, ts, d, fp, S, hl, hr, ρ1, e, q⟩ := h
  cases d <;> try (simp only [bindT] at e; cases e)
  rename_i ds
  simp only [bindT] at e
  have r : Rep K F H (.tup ds) v fp := S.temps _ (List.mem_cons_self ..)
  simp only [Rep] at r
  obtain ⟨a, vs, rfl, hq, r⟩ := r
  obtain ⟨fs, rp, hf⟩ := repP_of r
  refine ⟨a, vs, rfl, Same.seqT S.own.sub hq, by rw [rp.length.1, bindTs_len e, hn], B, lk, F, ρ, fps, ts, ds, fs, ?_, rp, hl, hr, ρ1, e, q⟩
  refine ⟨?_, S.len, S.lenF, S.slots, fun t ht => ?_, S.locks, S.tb, S.opn⟩
  · rw [tfp_app, tfp_inFlight rp, hf]
    have := S.own
    simpa only [tfp, Tm.fp] using this
  · rcases List.mem_append.mp ht with h | h
    · exact ok_inFlight rp t h
    · exact S.temps t (List.mem_cons_of_mem _ h)
theorem g_nil {lkN : List Nat} {vs : List V} {Q : L2.St → Hp → Prop} (h : tGs K lkN [] vs σ H Q) : gNil vs σ H Q := by
  obtain ⟨B, lk, F, ρ, fps, ts, ds, fs, S, rp, hl, hr, ρ1, e, q⟩ := h
  have hd := bindTs_len e
  have hv := rp.length.1
  obtain rfl : ds = [] := List.eq_nil_of_length_eq_zero hd
  obtain rfl : vs = [] := List.eq_nil_of_length_eq_zero hv
  simp only [bindTs] at e
  cases e
  exact ⟨rfl, q σ fps S ⟨rfl, fun _ _ => rfl⟩⟩
theorem inFlight_noRefs : ∀ {vs : List V} {ds : List D} {fs : List (List Addr)}, NoRefs (inFlight vs ds fs)
  | v :: vs, d :: ds, f :: fs => fun t ht i => by
    rcases List.mem_cons.mp ht with rfl | ht
    · intro z; cases z
    · exact inFlight_noRefs t ht i
  | [], _, _ => fun _ h => by simp [inFlight] at h
  | _ :: _, [], _ => fun _ h => by simp [inFlight] at h
  | _ :: _, _ :: _, [] => fun _ h => by simp [inFlight] at h
theorem g_cons {lkN : List Nat} {t : Tg} {tgs : List Tg} {vs : List V} {Q : L2.St → Hp → Prop} (h : tGs K lkN (t :: tgs) vs σ H Q) : gCons (tG K lkN t) (tGs K lkN tgs) vs σ H Q := by
  obtain ⟨B, lk, F, ρ, fps, ts, ds, fs, S, rp, hl, hr, ρ1, e, q⟩ := h
  have hd := bindTs_len e
  match ds, hd, rp, e, S with
  | d :: ds, hd, rp, e, S =>
  match vs, fs, rp, S with
  | v :: vs, f :: fs, rp, S =>
    simp only [bindTs] at e
    cases e1 : bindT lkN t d ρ with
    | none => rw [e1] at e; cases e
    | some ρ2 =>
      rw [e1] at e
      refine ⟨v, vs, rfl, B, lk, F, ρ, fps, inFlight vs ds fs ++ ts, d, f, S, hl, fun u hu i => ?_, ρ2, e1, fun σ' fps' S' ag => ?_⟩
      · rcases List.mem_append.mp hu with h | h
        · exact inFlight_noRefs u h i
        · exact hr u h i
      · exact ⟨B, lk, F, ρ2, fps', ts, ds, fs, S', rp.2, hl, hr, ρ1, e, fun σ'' fps'' S'' ag' => q σ'' fps'' S'' ⟨ag'.1.trans ag.1, fun j hj => by
          simp only [slotsTs, List.mem_append, not_or] at hj
          rw [ag'.2 j hj.2, ag.2 j hj.1]⟩⟩
/-! ### slots forgotten -/
theorem wipeE_length : ∀ (vs : List Nat) (ρ : Env), (wipeE vs ρ).length = ρ.length
  | [], _ => rfl
  | v :: vs, ρ => by simp [wipeE, wipeE_length vs]
theorem backE_length : ∀ (ρ0 : Env) (vs : List Nat) (ρ : Env), (backE ρ0 vs ρ).length = ρ.length
  | _, [], _ => rfl
  | ρ0, v :: vs, ρ => by simp [backE, backE_length ρ0 vs]
theorem getE_set {i j : Nat} {x : Option D} : getE (ρ.set i x) j = if i = j ∧ i < ρ.length then x else getE ρ j := by
  by_cases h : i = j
  · subst h
    by_cases hi : i < ρ.length
    · rw [if_pos ⟨rfl, hi⟩, getE_set_same hi]
    · rw [if_neg fun z => hi z.2, List.set_eq_of_length_le (by omega)]
  · rw [if_neg fun z => h z.1, getE_set_ne h]
theorem wipeE_some : ∀ {vs : List Nat} {ρ : Env} {j : Nat} {d : D}, getE (wipeE vs ρ) j = some d → getE ρ j = some d ∧ j ∉ vs
  | [], ρ, j, d, h => ⟨h, by simp⟩
  | v :: vs, ρ, j, d, h => by
    simp only [wipeE] at h
    rw [getE_set] at h
    split at h
    · cases h
    · rename_i hc
      obtain ⟨h1, h2⟩ := wipeE_some h
      refine ⟨h1, fun hm => ?_⟩
      rcases List.mem_cons.mp hm with rfl | hm
      · exact hc ⟨rfl, by rw [wipeE_length]; exact getE_lt h1⟩
      · exact h2 hm
theorem backE_some : ∀ {ρ0 : Env} {vs : List Nat} {ρ : Env} {j : Nat} {d : D}, getE (backE ρ0 vs ρ) j = some d → (j ∈ vs ∧ getE ρ0 j = some d) ∨ (j ∉ vs ∧ getE ρ j = some d)
  | ρ0, [], ρ, j, d, h => .inr ⟨by simp, h⟩
  | ρ0, v :: vs, ρ, j, d, h => by
    simp only [backE] at h
    rw [getE_set] at h
    split at h
    · rename_i hc
      obtain ⟨rfl, _⟩ := hc
      exact .inl ⟨List.mem_cons_self .., h⟩
    · rename_i hc
      rcases backE_some h with ⟨h1, h2⟩ | ⟨h1, h2⟩
      · exact .inl ⟨List.mem_cons_of_mem _ h1, h2⟩
      · refine .inr ⟨fun hm => ?_, h2⟩
        rcases List.mem_cons.mp hm with rfl | hm
        · exact hc ⟨rfl, by rw [backE_length]; exact getE_lt h2⟩
        · exact h1 hm
def wipeF : List Nat → List (List Addr) → List (List Addr)
  | [], fps => fps
  | v :: vs, fps => (wipeF vs fps).set v []
theorem wipeF_length : ∀ (vs : List Nat) (fps : List (List Addr)), (wipeF vs fps).length = fps.length
  | [], _ => rfl
  | v :: vs, fps => by simp [wipeF, wipeF_length vs]
theorem wipeF_in : ∀ {vs : List Nat} {fps : List (List Addr)} {j : Nat}, j ∈ vs → (wipeF vs fps).getD j [] = []
  | v :: vs, fps, j, h => by
    simp only [wipeF]
    by_cases hj : v = j
    · subst hj
      by_cases hl : v < (wipeF vs fps).length
      · exact getD_set_same hl
      · rw [List.set_eq_of_length_le (by omega), List.getD_eq_getElem?_getD, List.getElem?_eq_none (by omega)]; rfl
    · rw [getD_set_ne hj]
      rcases List.mem_cons.mp h with rfl | h
      · exact absurd rfl hj
      · exact wipeF_in h
theorem wipeF_out : ∀ {vs : List Nat} {fps : List (List Addr)} {j : Nat}, j ∉ vs → (wipeF vs fps).getD j [] = fps.getD j []
  | [], fps, j, _ => rfl
  | v :: vs, fps, j, h => by
    simp only [List.mem_cons, not_or] at h
    simp only [wipeF]
    rw [getD_set_ne (Ne.symm h.1), wipeF_out h.2]
theorem subP_set (fps : List (List Addr)) (v : Nat) : SubP (fps.set v []).flatten fps.flatten := by
  by_cases h : v < fps.length
  · exact SubP.trans (SubP.right (fps.getD v []) _) (.of_perm (flat_split fps v h).symm)
  · rw [List.set_eq_of_length_le (by omega)]
    exact SubP.refl _
theorem wipeF_sub : ∀ (vs : List Nat) (fps : List (List Addr)), SubP (wipeF vs fps).flatten fps.flatten
  | [], fps => SubP.refl _
  | v :: vs, fps => by
    simp only [wipeF]
    exact SubP.trans (subP_set _ v) (wipeF_sub vs fps)
/-- values in flight that are named elsewhere, left out -/
def hide : List (V × Tm) → List (V × Tm)
  | [] => []
  | (v, .own d fp) :: ts => (v, .own d fp) :: hide ts
  | (_, .ref _) :: ts => hide ts
theorem hide_noRefs : ∀ (ts : List (V × Tm)), NoRefs (hide ts)
  | [] => fun _ h => nomatch h
  | (v, .own d fp) :: ts => fun t ht i => by
    rcases List.mem_cons.mp ht with rfl | ht
    · intro z; cases z
    · exact hide_noRefs ts t ht i
  | (_, .ref _) :: ts => fun t ht i => hide_noRefs ts t (by simpa only [hide] using ht) i
theorem hide_tfp : ∀ (ts : List (V × Tm)), tfp (hide ts) = tfp ts
  | [] => rfl
  | (v, .own d fp) :: ts => by simp only [hide, tfp, hide_tfp ts]
  | (_, .ref _) :: ts => by simp only [hide, tfp, hide_tfp ts, Tm.fp, List.nil_append]
theorem hide_sub : ∀ {ts : List (V × Tm)} {t : V × Tm}, t ∈ hide ts → t ∈ ts
  | [], _, h => nomatch h
  | (v, .own d fp) :: ts, t, h => by
    rcases List.mem_cons.mp h with rfl | h
    · exact List.mem_cons_self ..
    · exact List.mem_cons_of_mem _ (hide_sub h)
  | (_, .ref _) :: ts, t, h => List.mem_cons_of_mem _ (hide_sub (by simpa only [hide] using h))
theorem hide_or : ∀ {ts : List (V × Tm)} {t : V × Tm}, t ∈ ts → (∃ i, t.2 = .ref i) ∨ t ∈ hide ts
  | (v, .own d fp) :: ts, t, h => by
    rcases List.mem_cons.mp h with rfl | h
    · exact .inr (List.mem_cons_self ..)
    · rcases hide_or h with h | h
      · exact .inl h
      · exact .inr (List.mem_cons_of_mem _ h)
  | (_, .ref i) :: ts, t, h => by
    rcases List.mem_cons.mp h with rfl | h
    · exact .inl ⟨i, rfl⟩
    · rcases hide_or h with h | h
      · exact .inl h
      · exact .inr (by simpa only [hide] using h)
theorem ok_noRef {t : V × Tm} {σ σ' : L2.St} (hr : ∀ i, t.2 ≠ .ref i) (h : TmOk K F H σ t) : TmOk K F H σ' t := by
  unfold TmOk at h ⊢
  cases e : t.2 with
  | own d fp => rw [e] at h; exact h
  | ref i => exact absurd e (hr i)
theorem Sta.wipe (S : Sta K B lk F H σ ρ fps ts) (hn : NoRefs ts) (vs : List Nat) : Sta K B [] F H (L2.wipe σ vs) (wipeE vs ρ) (wipeF vs fps) ts := by
  refine ⟨S.own.less (SubP.app (wipeF_sub vs fps) _), ?_, ?_, fun j d e => ?_, fun t ht => ok_noRef (hn t ht) (S.temps t ht), (fun p hp => nomatch hp), S.tb, S.opn⟩
  · rw [wipe_length, wipeE_length, S.len]
  · rw [wipeF_length, wipeE_length, S.lenF]
  · obtain ⟨h1, h2⟩ := wipeE_some e
    obtain ⟨v, h3, r⟩ := S.slots j d h1
    refine ⟨v, ?_, by rw [wipeF_out h2]; exact r⟩
    rw [wipe_out h2]
    exact h3
theorem Sta.hide (S : Sta K B lk F H σ ρ fps ts) : Sta K B lk F H σ ρ fps (Mi.hide ts) :=
  ⟨by rw [hide_tfp]; exact S.own, S.len, S.lenF, S.slots, fun t ht => S.temps t (hide_sub ht), S.locks, S.tb, S.opn⟩
theorem Sta.unwipe {ρ1 : Env} {vs : List Nat} {us : List (V × Tm)} (S : Sta K B [] F H (L2.wipe σ vs) (wipeE vs ρ) fps (us ++ Mi.hide ts)) (hl : ρ1.length = ρ.length) (hu : NoRefs us)
    (hs : ∀ i d, i ∈ vs → getE ρ1 i = some d → ∃ v, σ[i]? = some (some v) ∧ Rep K F H d v []) (ht : ∀ t ∈ ts, ∀ i, t.2 = .ref i → σ[i]? = some (some t.1)) (hk : ∀ p ∈ lk, σ[p.1]? = some (some p.2)) :
    Sta K B lk F H σ (backE ρ1 vs ρ) (wipeF vs fps) (us ++ ts) := by
  refine ⟨?_, ?_, ?_, fun j d e => ?_, fun t h => ?_, hk, S.tb, S.opn⟩
  · have := S.own.less (SubP.app (wipeF_sub vs fps) _)
    rw [tfp_app, hide_tfp] at this
    rw [tfp_app]
    exact this
  · have := S.len
    rw [wipe_length, wipeE_length] at this
    rw [backE_length, this]
  · have := S.lenF
    rw [wipeE_length] at this
    rw [wipeF_length, backE_length, this]
  · rcases backE_some e with ⟨h1, h2⟩ | ⟨h1, h2⟩
    · obtain ⟨v, h3, r⟩ := hs j d h1 h2
      exact ⟨v, h3, by rw [wipeF_in h1]; exact r⟩
    · have e2 : getE (wipeE vs ρ) j = some d := by
        clear S hs hl e
        induction vs with
        | nil => exact h2
        | cons v vs ih =>
          simp only [List.mem_cons, not_or] at h1
          simp only [wipeE]
          rw [getE_set_ne (Ne.symm h1.1)]
          exact ih h1.2
      obtain ⟨v, h3, r⟩ := S.slots j d e2
      exact ⟨v, (wipe_some h3).1, by rw [wipeF_out h1]; exact r⟩
  · rcases List.mem_append.mp h with h | h
    · exact ok_noRef (hu t h) (S.temps t (List.mem_append_left _ h))
    · rcases hide_or h with ⟨i, e⟩ | h'
      · have := ht t h i e
        unfold TmOk
        rw [e]
        exact this
      · exact ok_noRef (hide_noRefs ts t h') (S.temps t (List.mem_append_right _ h'))
theorem wipe_agree {σ σ' : L2.St} {js : List Nat} : ∀ {vs : List Nat}, Agree (L2.wipe σ vs) σ' js → (∀ j ∈ js, j ∈ vs) → L2.wipe σ' vs = L2.wipe σ vs := by
  intro vs h hj
  refine List.ext_getElem? fun j => ?_
  by_cases hv : j ∈ vs
  · have h1 : ∀ (τ : L2.St), τ.length = σ.length → (L2.wipe τ vs)[j]? = if j < σ.length then some none else none := by
      intro τ hl
      split
      · rename_i hlt
        have : j < (L2.wipe τ vs).length := by rw [wipe_length, hl]; exact hlt
        cases q : (L2.wipe τ vs)[j]? with
        | none => rw [List.getElem?_eq_none_iff] at q; omega
        | some x =>
          cases x with
          | none => rfl
          | some y => exact absurd hv (wipe_some q).2
      · rename_i hlt
        rw [List.getElem?_eq_none (by rw [wipe_length, hl]; omega)]
    rw [h1 σ rfl, h1 σ' (by rw [h.1, wipe_length])]
  · rw [wipe_out hv, h.2 j fun z => hv (hj j z)]
/-! ### comprehensions -/
def tIfs (K : PySem.W.Frag) (Φ : Fns) (E : XK) (es : List IE) : TT := fun σ H Q => ∃ B lk F ρ fps ts, Sta K B lk F H σ ρ fps ts ∧
  Out (XC K E B lk σ) (evIfs Φ es ρ) fun b ρ' => ∀ F' H' fps', Sta K B lk F' H' σ ρ' fps' ts → Q b H'
theorem t_ifs0 {Q : Bool → Hp → Prop} (h : tIfs K Φ E [] σ H Q) : tYes σ H Q := by
  obtain ⟨B, lk, F, ρ, fps, ts, S, o⟩ := h
  exact o F H fps S
theorem t_ifs1 {e : IE} {Q : Bool → Hp → Prop} (h : tIfs K Φ E [e] σ H Q) : tT K Φ E e σ H Q := by
  obtain ⟨B, lk, F, ρ, fps, ts, S, o⟩ := h
  simp only [evIfs] at o
  rw [out_bind] at o
  refine ⟨B, lk, F, ρ, fps, ts, S, o.imp fun d ρ' q => ?_⟩
  cases d <;> try exact q.elim
  rename_i b
  refine ⟨b, rfl, ?_⟩
  cases b with
  | true => exact q
  | false => exact q
theorem PTs.imp {ifs : List Expr} {t t' : TT} (h : PTs X ifs t) (hi : ∀ σ H Q, t' σ H Q → t σ H Q) : PTs X ifs t' := ⟨fun pins s σ H Q I q => h.run pins s σ H Q I (hi σ H Q q)⟩
theorem out_step {x x' : String → D → Env → Prop} {r : R (Option D)} {A : D → Env → R (List D)} {C : Env → R (List D)} {k : List D → Env → Prop} (h : Out x (match r with
    | .ok (some e) ρ1 => A e ρ1
    | .ok none ρ1 => C ρ1
    | .exc _ _ _ => .stk
    | .stk => .stk) k) : Out x' r fun o ρ1 => match o with
      | some e => Out x (A e ρ1) k
      | none => Out x (C ρ1) k := by
  cases r with
  | ok o ρ1 => cases o <;> exact h
  | exc _ _ _ => exact h.elim
  | stk => exact h
/-- a value in flight goes to the end of a list in flight -/
theorem Sta.writeT {ds : List D} {a : Addr} {f g : List Addr} {v : V} {e : D} (S : Sta K B lk F H σ ρ fps ((v, .own e g) :: (.ref a, .own (.lst true ds) f) :: ts)) :
    ∃ vs f', H a = some (.lst vs) ∧ vs.length = ds.length ∧ Sta K B lk F (upd H a (.lst (vs ++ [v]))) σ ρ fps ((.ref a, .own (.lst true (ds ++ [e])) f') :: ts) := by
  have r1 : Rep K F H e v g := S.temps _ (List.mem_cons_self ..)
  have r2 : Rep K F H (.lst true ds) (.ref a) f := S.temps (.ref a, .own (.lst true ds) f) (by simp)
  simp only [Rep] at r2
  obtain ⟨a', vs, f0, ea, hH, rl, rfl⟩ := r2
  cases ea
  have hperm : (tfp ((v, .own e g) :: (.ref a, .own (.lst true ds) (a :: f0)) :: ts) ++ fps.flatten).Perm (a :: ((f0 ++ g) ++ (tfp ts ++ fps.flatten))) := by
    simp only [tfp, Tm.fp]
    rw [List.append_assoc, List.append_assoc]
    refine (List.perm_append_comm (l₁ := g)).trans ?_
    simp only [List.cons_append, List.append_assoc]
    refine List.Perm.cons a ?_
    refine List.Perm.append_left f0 ?_
    rw [← List.append_assoc]
    exact List.perm_append_comm
  have o0 := S.own.perm hperm.symm
  have o1 := o0.write (a := a) (List.mem_cons_self ..) (vs ++ [v])
  have hn : a ∉ (f0 ++ g) ++ (tfp ts ++ fps.flatten) := (List.nodup_cons.mp o0.nodup).1
  have keepH : ∀ b ∈ (f0 ++ g) ++ (tfp ts ++ fps.flatten), upd H a (.lst (vs ++ [v])) b = H b := fun b hb => upd_ne fun z => hn (z ▸ hb)
  refine ⟨vs, a :: (f0 ++ g), hH, RepL.length _ _ _ rl, ?_, S.len, S.lenF, fun j d e => ?_, fun t ht => ?_, S.locks, S.tb, S.opn⟩
  · simpa [tfp, Tm.fp] using o1
  · obtain ⟨w, e1, r⟩ := S.slots j d e
    exact ⟨w, e1, Rep.mono (Same.refl _) _ _ _ (fun b hb => keepH b (List.mem_append_right _ (List.mem_append_right _ (getD_mem hb)))) r⟩
  · rcases List.mem_cons.mp ht with rfl | ht
    · show Rep K F _ (.lst true (ds ++ [e])) (.ref a) _
      simp only [Rep]
      refine ⟨a, vs ++ [v], f0 ++ g, rfl, upd_same, ?_, rfl⟩
      refine RepL.app (RepL.mono (Same.refl _) _ _ _ (fun b hb => keepH b (List.mem_append_left _ (List.mem_append_left _ hb))) rl) ?_
      simp only [RepL]
      exact ⟨v, [], g, [], rfl, Rep.mono (Same.refl _) _ _ _ (fun b hb => keepH b (List.mem_append_left _ (List.mem_append_right _ hb))) r1, ⟨rfl, rfl⟩, by simp⟩
    · exact TmOk.mono (Same.refl _) (h := S.temps t (by simp [ht])) fun b hb => keepH b (List.mem_append_right _ (List.mem_append_left _ (tfp_mem ht hb)))
/-- a stretch of a body by itself -/
theorem Sta.rebase (S : Sta K B lk F H σ ρ fps ts) : Sta K ⟨F, H, tfp ts ++ fps.flatten⟩ lk F H σ ρ fps ts :=
  ⟨⟨S.own.sub, Same.refl _, fun b o e _ _ => e, fun b ps e => ⟨ps, e⟩, S.own.nof, id, fun a ha => .inl ha, fun b o e => .inl e, S.own.nodup, S.own.disj, S.own.live⟩, S.len, S.lenF, S.slots, S.temps, S.locks, S.own.tabs S.tb, S.opn⟩
theorem Sta.unbase {all : List Addr} (o : OwnOk B F H all) (tb : LamX.Tabs LT.T B.H0) (S : Sta K ⟨F, H, all⟩ lk F' H' σ ρ fps ts) : Sta K B lk F' H' σ ρ fps ts := by
  have o1 : OwnOk B F H (all ++ []) := by simpa using o
  have o2 := (o1.call S.own).1
  exact ⟨by simpa using o2, S.len, S.lenF, S.slots, S.temps, S.locks, tb, S.opn⟩
theorem t_lc {vs : List Nat} {tg : Tg} {it : It} {ifs : List IE} {elt : IE} (hv : ∀ j ∈ slotsT tg, j ∈ vs) (h : tI K Φ E (.lc vs tg it ifs elt) σ H Q) :
    tLc (tIt K Φ E it) (tG K [] tg) (tIfs K Φ noX ifs) (tI K Φ noX elt) vs σ H Q := by
  obtain ⟨B, lk, F, ρ, fps, ts, S, o⟩ := h
  simp only [ev] at o
  rw [out_bind] at o
  refine ⟨B, lk, F, ρ, fps, ts, S, o.imp fun ds ρ1 q J F1 H1 fps1 hJ S1 => ?_⟩
  split at q
  · rename_i hz
    obtain ⟨hz, hu⟩ := hz
    rw [out_bind] at q
    intro Da hD
    let step : D → Env → R (Option D) := fun d ρ2 => match bindT [] tg d (wipeE vs ρ2) with
        | some ρ3 => (evIfs Φ ifs ρ3).bind fun b ρ4 => match b with
          | true => (ev Φ elt ρ4).bind fun e ρ5 => .ok (some e) ρ5
          | false => .ok none ρ4
        | none => .stk
    let B2 : Bs := ⟨F1, H1, tfp ts ++ fps1.flatten⟩
    have S1b : Sta K B2 lk F1 H1 σ ρ1 fps1 ts := S1.rebase
    let k2 : List D → Env → Prop := fun es ρ6 => ∀ v fp F' H' fps', Sta K B lk F' H' σ (backE ρ1 vs ρ6) fps' ((v, .own (.lst true es) fp) :: ts) → Q v H'
    have q : Out (XC K E B lk σ) (lcLoop step ds [] ρ1) k2 := q
    refine ⟨fun i m H => m = ds.length - i ∧ i ≤ ds.length ∧ ∃ F' acc ρ2 fps' fpD, Same F1 F' ∧ acc.length ≤ i ∧ ρ2.length = ρ1.length ∧
      Sta K B2 [] F' H (L2.wipe σ vs) (wipeE vs ρ2) fps' ((.ref Da, .own (.lst true acc.reverse) fpD) :: Mi.hide ts) ∧ Out (XC K E B lk σ) (lcLoop step (ds.drop i) acc ρ2) k2, ⟨ds.length, by omega, by omega, F1, [], ρ1, wipeF vs fps1, [Da], Same.refl _, Nat.le_refl _, rfl, ?_, ?_⟩, ?_⟩
    · have S2 := S1b.hide
      have ow := S2.own.list hD []
      have keep : ∀ a ∈ tfp (Mi.hide ts) ++ fps1.flatten, upd H1 Da (.lst []) a = H1 a := fun a ha => upd_ne fun z => (List.nodup_cons.mp ow.nodup).1 (z ▸ ha)
      have S3 : Sta K B2 lk F1 (upd H1 Da (.lst [])) σ ρ1 fps1 ((.ref Da, .own (.lst true []) [Da]) :: Mi.hide ts) := by
        refine Sta.pushOwn (Sta.mono (all := []) S2 (Same.refl _) keep (ow.less ?_) (fun _ _ _ z => z)) (by simpa using ow) ?_
        · exact SubP.right [Da] _
        · simp only [Rep]
          exact ⟨Da, [], [], rfl, upd_same, by simp [RepL], rfl⟩
      exact S3.wipe (fun t ht i => by
        rcases List.mem_cons.mp ht with rfl | ht
        · intro z; cases z
        · exact hide_noRefs ts t ht i) vs
    · simpa using q
    rintro i m H2 ⟨rfl, hi, F2, acc, ρ2, fps2, fpD, sF, hacc, hlen, S2, w⟩
    by_cases hlt : i < ds.length
    · refine .inr ⟨hJ.go i F2 H2 sF S2.own.sub hlt, fun H' => i + 1 ≤ ds.length ∧ ∃ F' acc ρ2 fps' fpD, Same F1 F' ∧ acc.length ≤ i + 1 ∧ ρ2.length = ρ1.length ∧
        Sta K B2 [] F' H' (L2.wipe σ vs) (wipeE vs ρ2) fps' ((.ref Da, .own (.lst true acc.reverse) fpD) :: Mi.hide ts) ∧ Out (XC K E B lk σ) (lcLoop step (ds.drop (i + 1)) acc ρ2) k2, fun H' nx => ⟨ds.length - (i + 1), by omega, rfl, nx⟩, fun x H3 hy => ?_⟩
      obtain ⟨F3, pr⟩ := hJ.yld i F2 H2 x H3 (ds[i]'hlt) sF S2.own.sub hy (by simp [hlt])
      have S3 := S2.push pr
      have ed : ds.drop i = ds[i]'hlt :: ds.drop (i + 1) := by rw [← List.drop_eq_getElem_cons hlt]
      rw [ed] at w
      simp only [lcLoop] at w
      have w1 := fun x' => out_step (x' := x') w
      simp only [step] at w1
      cases e1 : bindT [] tg (ds[i]'hlt) (wipeE vs ρ2) with
      | none => simp only [e1] at w1; exact (w1 fun _ _ _ => False).elim
      | some ρ3 =>
        simp only [e1] at w1
        have nr : NoRefs ((.ref Da, .own (.lst true acc.reverse) fpD) :: Mi.hide ts) := fun t ht i => by
          rcases List.mem_cons.mp ht with rfl | ht
          · intro z; cases z
          · exact hide_noRefs ts t ht i
        refine ⟨B2, [], F3, _, _, _, _, _, S3, fun p hp => (nomatch hp), nr, ρ3, e1, fun σ' fps' S4 ag => ⟨wipe_agree ag hv, ?_⟩⟩
        have hw := wipe_agree ag hv
        have w1 := w1 (XC K noX B2 [] σ')
        have sF3 : Same F1 F3 := Same.trans sF pr.fF
        rw [out_bind] at w1
        have hl3 : ρ3.length = ρ1.length := by rw [← S4.len, ag.1, wipe_length, S1.len]
        refine ⟨B2, [], F3, ρ3, fps', _, S4, w1.imp fun b ρ4 w2 F4 H4 fps4 S5 => ?_⟩
        have grow4 : Same F1 F4 := S5.own.base
        have hl4 : ρ4.length = ρ1.length := by rw [← S5.len, ag.1, wipe_length, S1.len]
        cases b with
        | false =>
          simp only [Bool.false_eq_true, if_false]
          refine ⟨hlt, F4, acc, ρ4, wipeF vs fps4, fpD, grow4, by omega, hl4, ?_, w2⟩
          have := S5.wipe nr vs
          rw [hw] at this
          exact this
        | true =>
          simp only [if_true]
          simp only at w2
          rw [out_bind] at w2
          refine ⟨B2, [], F4, ρ4, fps4, _, S5, w2.imp fun e ρ5 w3 y fp F5 H5 fps5 S6 => ?_⟩
          have grow5 : Same F1 F5 := S6.own.base
          have hl5 : ρ5.length = ρ1.length := by rw [← S6.len, ag.1, wipe_length, S1.len]
          obtain ⟨accV, f', hD5, hlV, S7⟩ := S6.writeT
          rw [List.length_reverse] at hlV
          refine ⟨accV, hD5, ?_, hlt, F5, e :: acc, ρ5, wipeF vs fps5, f', grow5, by simp; omega, hl5, ?_, w3⟩
          · rw [hlV, ← SZ_eq]; omega
          · have := S7.wipe (fun t ht i => by
              rcases List.mem_cons.mp ht with rfl | ht
              · intro z; cases z
              · exact hide_noRefs ts t ht i) vs
            rw [hw] at this
            rw [List.reverse_cons]
            exact this
    · have hie : i = ds.length := by omega
      subst hie
      refine .inl ⟨hJ.stop _ F2 H2 sF S2.own.sub rfl, ?_⟩
      rw [List.drop_length] at w
      simp only [lcLoop] at w
      have w : k2 acc.reverse ρ2 := w
      refine w (.ref Da) fpD F2 H2 _ (Sta.unbase S1.own S1.tb (Sta.unwipe (us := [(.ref Da, .own (.lst true acc.reverse) fpD)]) S2 hlen.symm (fun t ht i => ?_) (fun j d hj e => ?_) (fun t ht j e => ?_) S1.locks))
      · rcases List.mem_cons.mp ht with rfl | ht
        · intro z; cases z
        · cases ht
      · obtain ⟨v, h1, r⟩ := S1.slots j d e
        have ho : d.own = false := by
          unfold unowned at hu
          have := List.all_eq_true.mp hu j hj
          rw [e] at this
          simpa using this
        refine ⟨v, h1, Rep.mono sF _ _ _ (fun _ h => nomatch h) (Rep.nil ho r)⟩
      · have := S1.temps t ht
        unfold TmOk at this
        rw [e] at this
        exact this
  · exact q.elim
end Mi
end

section
set_option Elab.async false
set_option linter.all false
set_option maxRecDepth 100000
/-! enumerate and zip, over lists and tuples in any mix. -/
namespace Mi
open PySem PySem.Spec PyProof.Rows L2
variable [LT] [Fr]
open AutoSeq1 (wpAny_loadPart')
variable {K : PySem.W.Frag} {Φ : Fns} {E : XK} {B : Bs} {lk : List (Nat × V)} {F F' H H' : Hp} {σ : L2.St} {ρ : Env} {fps : List (List Addr)} {ts : List (V × Tm)} {Q : VK} {X : Cx}

def SqB (k : Bool) (K : PySem.W.Frag) (H : Hp) (a : Addr) (xs : List V) : Prop := match k with
  | true => SqL K H a xs
  | false => SqT K H a xs
def itB (k : Bool) (h : Heap) (it a : Addr) (i : Nat) : Prop := match k with
  | true => h.IsListIter it a i
  | false => h.IsTupleIter it a i
def obB (k : Bool) (h : Heap) (a : Addr) (items : Array Value) : Prop := match k with
  | true => h.IsList a items
  | false => h.IsTuple a items
theorem drawsB {prog : Program} {w : World} {A : Around} (k : Bool) (hh : A.handled = none) (it l : Addr) (hne : l ≠ it) (items : Array Value) :
    Draws prog w A it [it, l] items.size (fun i v => items[i]? = some v) (fun i h => itB k h it l i ∧ obB k h l items) := by
  cases k with
  | true => exact Draws.list hh it l hne items
  | false => exact Draws.tuple hh it l hne items
def itO (k : Bool) (a : Addr) : Obj := match k with
  | true => { cls := .type "list_iterator", data := .fields #[.ref a, .int 0 0] }
  | false => { cls := .type "tuple_iterator", data := .fields #[.ref a, .int 0 0] }
theorem beginsB (k : Bool) (l : Addr) (items : Array Value) : Begins (.ref l) (itO k l) fun h => obB k h l items := by
  cases k with
  | true => exact begins_list l items
  | false => exact begins_tuple l items
theorem itB_at {k : Bool} {h h' : Heap} {it a : Addr} {i : Nat} (x : itB k h it a i) (hk : ∀ o, h.get? it = some o → h'.get? it = some o) : itB k h' it a i := by
  cases k with
  | true => exact Heap.IsListIter.at x hk
  | false => exact Heap.IsTupleIter.at x hk
theorem itB_obj {k : Bool} {h : Heap} {it a : Addr} {i : Nat} (x : itB k h it a i) : ∃ o, h.get? it = some o ∧ ∀ v, o.data ≠ .cell v := by
  cases k with
  | true =>
    obtain ⟨o, ho, hc, hd⟩ := x
    exact ⟨o, ho, fun v q => by rw [hd] at q; cases q⟩
  | false =>
    obtain ⟨o, ho, hc, hd⟩ := x
    exact ⟨o, ho, fun v q => by rw [hd] at q; cases q⟩
theorem itB_new {k : Bool} {h : Heap} {it a : Addr} (x : h.get? it = some (itO k a)) : itB k h it a 0 := by
  cases k with
  | true => exact ⟨_, x, rfl, rfl⟩
  | false => exact ⟨_, x, rfl, rfl⟩
theorem srcB {k : Bool} {pins : List (Addr × Obj)} {s : Shared} {a : Addr} {xs : List V} (I : Inv X pins σ H s) (hq : SqB k X.K H a xs) : ∃ its : List Value, Vals xs its ∧ obB k s.heap a its.toArray ∧ a < s.heap.objs.size := by
  cases k with
  | true =>
    obtain ⟨its, rv, p, _⟩ := I.list hq
    exact ⟨its, rv, p.isList, p.lt⟩
  | false =>
    obtain ⟨its, rv, p, _⟩ := I.tuple hq
    have hp : s.heap.IsTuple a its.toArray := p
    obtain ⟨o, ho, _⟩ := hp
    exact ⟨its, rv, p, Heap.lt_size ho⟩
theorem SqB.mono {k : Bool} {a : Addr} {xs : List V} (e : Same H H') (h : SqB k K H a xs) : SqB k K H' a xs := by
  cases k with
  | true => exact Same.seq e h
  | false => exact Same.seqT e h
/-! ### enumerate -/
def ItE (K : PySem.W.Frag) (k : Bool) (a : Addr) (xs : List V) : L2.It :=
  ⟨fun i H => SqB k K H a xs ∧ i < xs.length, fun i H v H' => ∃ T x, v = .ref T ∧ H T = none ∧ H' = upd H T (.tup [.int (i : Nat), x]) ∧ xs[i]? = some x, fun i H => SqB k K H a xs ∧ xs.length = i⟩
theorem turn_enumB {P : Program} {w : World} {elts : List Expr} {kk : Nat} {tpos : Pos} (k : Bool) (a e it : Addr) (xs : List V) (hea : e ≠ a) (hia : it ≠ a) (hne : e ≠ it) :
    Turn P w K (.Tuple elts kk tpos) (ItE K k a xs) [e, it] e (fun i h => (∃ old, IsEnum h e it ((i : Nat) : Int) old) ∧ itB k h it a i) where
  mem := by simp
  obj := fun i h st b hb => by
    obtain ⟨⟨old, he⟩, hi⟩ := st
    have e' : b = e ∨ b = it := by simpa using hb
    rcases e' with z | z
    · rw [z]; exact ⟨_, he, fun v q => nomatch q⟩
    · rw [z]; exact itB_obj hi
  keep := fun i h h' st k => let ⟨⟨old, he⟩, hi⟩ := st; ⟨⟨old, k e (by simp) _ he⟩, itB_at hi fun o q => k it (by simp) o q⟩
  item := by
    intro X hP hw hK hc i pins s σ H E I hf st hg
    subst hP hw hK
    obtain ⟨⟨old, he⟩, hit⟩ := st
    obtain ⟨hq, hx⟩ := hg
    obtain ⟨its, rv, p, hz⟩ := srcB I hq
    have hl := rv.length
    have hel : e < s.heap.objs.size := Heap.lt_size he
    have hil : it < s.heap.objs.size := by obtain ⟨_, q, _⟩ := itB_obj hit; exact Heap.lt_size q
    have W := GoesN.enumFrom (prog := X.prog) (w := X.w) (A := X.A) (elts := elts) (x1 := kk) (pos := tpos) 0 (drawsB (prog := X.prog) (w := X.w) (A := X.A.in1) k (I.ok.hd hc) it a (Ne.symm hia) its.toArray) e hne (by simp [hne, hea]) (by simp)
    refine W.goes i s _ E (by simp; omega) ⟨⟨old, by rw [Int.zero_add]; exact he⟩, hit, p⟩ fun v h' tk hY hst hk htk => ?_
    obtain ⟨T, t, u, ev, hT, hu, hTu⟩ := hY
    obtain ⟨⟨old', he'⟩, hit', _⟩ := hst
    subst ev
    have hu : its.toArray[i]? = some u := hu
    have hu : its[i]? = some u := by simpa using hu
    obtain ⟨x, ex, ru⟩ : ∃ x, xs[i]? = some x ∧ RelV x u := by
      obtain ⟨u', hu', ru⟩ := rv.get (List.getElem?_eq_getElem hx)
      rw [hu] at hu'
      cases hu'
      exact ⟨_, by simp [hx], ru⟩
    have new : ObjOk X.prog X.w (upd H T (.tup [.int (i : Nat), x])) h' T (.tup [.int (i : Nat), x]) :=
      ⟨by show 2 ≤ sizeLine; decide, [.int (0 + (i : Int)) t, u], .cons ⟨t, by rw [Int.zero_add]⟩ (.cons ru .nil), hTu⟩
    have I1 : Inv X pins σ (upd H T (.tup [.int (i : Nat), x])) { s with heap := h', toks := tk } :=
      I.turnedNew (ch := [e, it]) (fun b ob hb q => hk b ob hb q) hf hT new
    refine ⟨.ref T, _, I1, rfl, ⟨T, x, rfl, I.hok.fresh hT, rfl, ex⟩, ⟨⟨old', ?_⟩, hit'⟩, fun b hb => ?_⟩
    · rw [Int.zero_add] at he'
      exact he'
    · have hb' : b < s.heap.objs.size := by
        have e' : b = e ∨ b = it := by simpa using hb
        rcases e' with z | z
        · rw [z]; exact hel
        · rw [z]; exact hil
      rw [upd_ne (Nat.ne_of_lt (Nat.lt_of_lt_of_le hb' hT))]
      exact (hf b hb).1
  done := by
    intro X hP hw hK hc i pins s σ H E I hf st hg
    subst hP hw hK
    obtain ⟨⟨old, he⟩, hit⟩ := st
    obtain ⟨hq, hx⟩ := hg
    obtain ⟨its, rv, p, hz⟩ := srcB I hq
    have hl := rv.length
    have W := GoesN.enumFrom (prog := X.prog) (w := X.w) (A := X.A) (elts := elts) (x1 := kk) (pos := tpos) 0 (drawsB (prog := X.prog) (w := X.w) (A := X.A.in1) k (I.ok.hd hc) it a (Ne.symm hia) its.toArray) e hne (by simp [hne, hea]) (by simp)
    have hn : its.toArray.size = i := by simp; omega
    refine W.stops s (fun s1 => Inv X pins σ H s1) E ?_ fun h' tk hk htk => I.turnedL (t' := tk) (ch := [e, it]) (fun b o hb q => hk b o hb q) hf
    rw [hn]
    exact ⟨⟨old, by rw [Int.zero_add]; exact he⟩, hit, p⟩
  self := fun A i s Q E st h => let ⟨⟨_, he⟩, _⟩ := st; wpAny_pyIter_enum he h
set_option maxHeartbeats 1000000 in
theorem meets_enumerate_newB1 {v : Value} {o : Obj} {H : Heap → Prop} (B : Begins v o H) :
    Meets (Builtin.«enumerate.__new__» ⟨[.type "enumerate", v], []⟩) (fun _ R s => H s.heap ∧
      R (.ok (.ret (.ref (s.heap.push o).objs.size))) { s with heap := (s.heap.push o).push { cls := .type "enumerate", data := .fields #[.none, .bool false, .ref s.heap.objs.size, rawInt 0, .none, .none] } }) :=
  .of_wp fun prog w A R s h => by
    obtain ⟨hp, g, d, tk, os⟩ := s; obtain ⟨h1, h⟩ := h
    have hsub := sub_enumerate
    have q1 : ∀ {A' : Around} {E : Value → Shared → Prop} {Q : Value → Shared → Prop}, Q (.ref hp.objs.size) ⟨hp.push o, g, d, tk, os⟩ → wpAny (model prog w) A' (pyIter v) Q E ⟨hp, g, d, tk, os⟩ :=
      fun q => B.iter prog w _ _ ⟨hp, g, d, tk, os⟩ _ h1 q
    wp_walk using q1
    refine wpAny_stack_any fun st => wpAny_pure ?_
    split
    · rename_i c _ _ _ _ _
      cases (c == Value.type "enumerate")
      · wp_walk using q1
        exact ⟨_, rfl, h⟩
      · wp_walk using q1
        exact ⟨_, rfl, h⟩
    · wp_walk using q1
      exact ⟨_, rfl, h⟩
theorem enum_begins1 {prog : Program} {w : World} {A : Around} {E : Value → Shared → Prop} {s : Shared} {v : Value} {o : Obj} {H : Heap → Prop} {Q : Value → Shared → Prop} (B : Begins v o H) (h1 : H s.heap)
    (h : ∀ h', IsEnum h' (s.heap.objs.size + 1) s.heap.objs.size 0 .none → h'.get? s.heap.objs.size = some o → h'.objs.size = s.heap.objs.size + 2 →
      (∀ b o, s.heap.get? b = some o → h'.get? b = some o) → Q (.ref (s.heap.objs.size + 1)) { s with heap := h' }) :
    wpAny (model prog w) A (call (.type "enumerate") [v]) Q E s := by
  refine callType_new F.called_enumerate (by decide) (F.typeCall_enumerate_1 _) (F.newCall_enumerate_1 _) (fun obj => F.args_object_init_2 obj _) F.entry_enumerate_new
    (meets_enumerate_newB1 B) ⟨h1, ?_⟩
  have hz : (s.heap.push o).objs.size = s.heap.objs.size + 1 := Heap.size_push ..
  show _ ∧ _
  rw [hz]
  have he : IsEnum ((s.heap.push o).push { cls := .type "enumerate", data := .fields #[.none, .bool false, .ref s.heap.objs.size, rawInt 0, .none, .none] }) (s.heap.objs.size + 1) s.heap.objs.size 0 .none := by
    have := Heap.get?_push_size (s.heap.push o) (o := { cls := .type "enumerate", data := .fields #[.none, .bool false, .ref s.heap.objs.size, rawInt 0, .none, .none] }) rfl
    rw [hz] at this; exact this
  refine ⟨⟨_, he, rfl⟩, h _ he (Heap.get?_push_of_some _ (Heap.get?_push_size _ B.free)) (by rw [Heap.size_push, hz]) fun b o x => Heap.get?_push_of_some _ (Heap.get?_push_of_some _ x)⟩
def iEnB (K : PySem.W.Frag) (ta : TA) : TI := fun σ H R => ta σ H fun vs H1 => ∃ k a xs, vs = [.ref a] ∧ SqB k K H1 a xs ∧ R (ItE K k a xs) H1
theorem pi_enumB {e : Expr} {ta : TA} {p pos tpos : Pos} {elts : List Expr} {kk : Nat} (hg : Gl X "enumerate") (hm : X.mg "enumerate" = none) (ha : PA X [e] ta) (hs : starEach [e] X.env = [(false, eval e X.env)] := by rfl) :
    PI X (.Tuple elts kk tpos) (.Call (.Name "enumerate" p) [e] [] pos) (iEnB X.K ta) := by
  refine ⟨fun pins s σ H R I h => ?_⟩
  refine Call_ (ld_blt I hg hm boot_enumerate (PyProof.Rows.callWith_type1 (thn (ha.run pos pins s σ H _ I h) fun us s1 ⟨vs, H1, I1, r1, q1⟩ => ?_) hs rfl))
  obtain ⟨k, a, xs, ex, hq, q⟩ := q1
  subst ex
  cases r1 with
  | cons r rr =>
    cases rr
    cases r
    obtain ⟨its, rv, p', hz⟩ := srcB I1 hq
    refine enum_begins1 (beginsB k a its.toArray) p' fun h' he hit hsz hk => wpAny_pyIter_enum he ?_
    have I2 : Inv X pins σ H1 { s1 with heap := h' } := I1.kept (t' := s1.toks) hk
    refine ⟨s1.heap.objs.size + 1, [s1.heap.objs.size + 1, s1.heap.objs.size], _, _, H1, rfl, I2, turn_enumB k a (s1.heap.objs.size + 1) s1.heap.objs.size xs (Nat.ne_of_gt (Nat.lt_succ_of_lt hz)) (Nat.ne_of_gt hz) (Nat.succ_ne_self _), ⟨⟨.none, he⟩, itB_new hit⟩, fun b hb => ?_, q⟩
    have e' : b = s1.heap.objs.size + 1 ∨ b = s1.heap.objs.size := by simpa using hb
    have hle : s1.heap.objs.size ≤ b := by
      rcases e' with z | z
      · rw [z]; exact Nat.le_add_right _ _
      · rw [z]; exact Nat.le_refl _
    exact I1.fpOk hle (I1.hok.fresh hle)
end Mi
end

section
set_option Elab.async false
set_option linter.all false
set_option maxRecDepth 100000
namespace Mi
open PySem PySem.Spec PyProof.Rows L2
variable [LT] [Fr]
variable {K : PySem.W.Frag} {Φ : Fns} {E : XK} {B : Bs} {lk : List (Nat × V)} {F F' H H' : Hp} {σ : L2.St} {ρ : Env} {fps : List (List Addr)} {ts : List (V × Tm)} {Q : VK} {X : Cx}
/-! ### zip -/
theorem sep2 (n a b : Nat) (ha : a < n) (hb : b < n) : ZipSep2 (n + 4) (n + 2) (n + 3) n (n + 1) [n, a] [n + 1, b] := by
  constructor <;> simp <;> (try unfold Addr at *) <;> (try omega)
theorem sep3 (n a b c : Nat) (ha : a < n) (hb : b < n) (hc : c < n) : ZipSep3 (n + 5) (n + 3) (n + 4) n (n + 1) (n + 2) [n, a] [n + 1, b] [n + 2, c] := by
  constructor <;> simp <;> (try unfold Addr at *) <;> (try omega)
theorem vals_at {xs : List V} {its : List Value} {i : Nat} {u : Value} (rv : Vals xs its) (hx : i < xs.length) (hu : its.toArray[i]? = some u) : ∃ x, xs[i]? = some x ∧ RelV x u := by
  have hu : its[i]? = some u := by simpa using hu
  obtain ⟨u', hu', ru⟩ := rv.get (List.getElem?_eq_getElem hx)
  rw [hu] at hu'
  cases hu'
  exact ⟨_, by simp [hx], ru⟩
def ItZ2 (K : PySem.W.Frag) (k1 : Bool) (a : Addr) (xs : List V) (k2 : Bool) (b : Addr) (ys : List V) : L2.It :=
  ⟨fun i H => SqB k1 K H a xs ∧ SqB k2 K H b ys ∧ i < xs.length ∧ i < ys.length, fun i H v H' => ∃ T x y, v = .ref T ∧ H T = none ∧ H' = upd H T (.tup [x, y]) ∧ xs[i]? = some x ∧ ys[i]? = some y,
    fun i H => SqB k1 K H a xs ∧ SqB k2 K H b ys ∧ min xs.length ys.length = i⟩
theorem turn_zipB {P : Program} {w : World} {elts : List Expr} {kk : Nat} {tpos : Pos} {k1 k2 : Bool} {a b z TI TO i1 i2 : Addr} {xs ys : List V} (D : ZipSep2 z TI TO i1 i2 [i1, a] [i2, b]) (h1a : a ≠ i1) (h2b : b ≠ i2) :
    Turn P w K (.Tuple elts kk tpos) (ItZ2 K k1 a xs k2 b ys) [z, TI, TO, i1, i2] z (fun i h => IsZip h z TI TO .none ∧ IsTupOf2 h TI (.ref i1) (.ref i2) ∧ (∃ a1 a2, IsTupOf2 h TO a1 a2) ∧ itB k1 h i1 a i ∧ itB k2 h i2 b i) where
  mem := by simp
  obj := fun i h st c hc => by
    obtain ⟨hz, hTI, ⟨x, y, hTO⟩, hi1, hi2⟩ := st
    have e' : c = z ∨ c = TI ∨ c = TO ∨ c = i1 ∨ c = i2 := by simpa using hc
    rcases e' with q | q | q | q | q
    · rw [q]; exact ⟨_, hz, fun v q => nomatch q⟩
    · rw [q]; exact ⟨_, hTI, fun v q => nomatch q⟩
    · rw [q]; exact ⟨_, hTO, fun v q => nomatch q⟩
    · rw [q]; exact itB_obj hi1
    · rw [q]; exact itB_obj hi2
  keep := fun i h h' st k => by
    obtain ⟨hz, hTI, ⟨x, y, hTO⟩, h1, h2⟩ := st
    exact ⟨k z (by simp) _ hz, k TI (by simp) _ hTI, ⟨x, y, k TO (by simp) _ hTO⟩, itB_at h1 fun o q => k i1 (by simp) o q, itB_at h2 fun o q => k i2 (by simp) o q⟩
  item := by
    intro X hP hw hK hc i pins s σ H E I hf st hg
    subst hP hw hK
    obtain ⟨hz, hTI, ⟨x0, y0, hTO⟩, hi1, hi2⟩ := st
    obtain ⟨hq1, hq2, hx1, hx2⟩ := hg
    obtain ⟨its1, rv1, p1, _⟩ := srcB I hq1
    obtain ⟨its2, rv2, p2, _⟩ := srcB I hq2
    have hl1 := rv1.length
    have hl2 := rv2.length
    have W := GoesN.zip2 (prog := X.prog) (w := X.w) (A := X.A) (elts := elts) (x1 := kk) (pos := tpos) D (drawsB (prog := X.prog) (w := X.w) (A := X.A.in1) k1 (I.ok.hd hc) i1 a h1a its1.toArray) (drawsB (prog := X.prog) (w := X.w) (A := X.A.in1) k2 (I.ok.hd hc) i2 b h2b its2.toArray)
    refine W.goes i s _ E (by simp; omega) ⟨hz, hTI, ⟨x0, y0, hTO⟩, ⟨hi1, p1⟩, ⟨hi2, p2⟩⟩ fun v h' tk hY hst hk htk => ?_
    obtain ⟨T, u1, u2, ev, hT, hu1, hu2, hTu⟩ := hY
    obtain ⟨hz', hTI', ⟨x0', y0', hTO'⟩, ⟨hi1', _⟩, ⟨hi2', _⟩⟩ := hst
    subst ev
    obtain ⟨x, ex, rx⟩ := vals_at rv1 hx1 hu1
    obtain ⟨y, ey, ry⟩ := vals_at rv2 hx2 hu2
    have new : ObjOk X.prog X.w (upd H T (.tup [x, y])) h' T (.tup [x, y]) :=
      ⟨by show 2 ≤ sizeLine; decide, [u1, u2], .cons rx (.cons ry .nil), hTu⟩
    have I1 : Inv X pins σ (upd H T (.tup [x, y])) { s with heap := h', toks := tk } :=
      I.turnedNew (ch := [z, TI, TO, i1, i2]) (fun b ob hb q => hk b ob (fun hm => hb (by
        simp only [List.mem_cons, List.not_mem_nil, or_false] at hm ⊢
        rcases hm with h | h | h | h
        · exact .inl h
        · exact .inr (.inr (.inl h))
        · exact .inr (.inr (.inr (.inl h)))
        · exact .inr (.inr (.inr (.inr h))))) q) hf hT new
    refine ⟨.ref T, _, I1, rfl, ⟨T, x, y, rfl, I.hok.fresh hT, rfl, ex, ey⟩, ⟨hz', hTI', ⟨x0', y0', hTO'⟩, hi1', hi2'⟩, fun c hcm => ?_⟩
    have hb' : c < s.heap.objs.size := by
      have e' : c = z ∨ c = TI ∨ c = TO ∨ c = i1 ∨ c = i2 := by simpa using hcm
      rcases e' with q | q | q | q | q
      · rw [q]; exact Heap.lt_size hz
      · rw [q]; exact Heap.lt_size hTI
      · rw [q]; exact Heap.lt_size hTO
      · rw [q]; obtain ⟨_, q, _⟩ := itB_obj hi1; exact Heap.lt_size q
      · rw [q]; obtain ⟨_, q, _⟩ := itB_obj hi2; exact Heap.lt_size q
    rw [upd_ne (Nat.ne_of_lt (Nat.lt_of_lt_of_le hb' hT))]
    exact (hf c hcm).1
  done := by
    intro X hP hw hK hc i pins s σ H E I hf st hg
    subst hP hw hK
    obtain ⟨hz, hTI, ⟨x0, y0, hTO⟩, hi1, hi2⟩ := st
    obtain ⟨hq1, hq2, hx⟩ := hg
    obtain ⟨its1, rv1, p1, _⟩ := srcB I hq1
    obtain ⟨its2, rv2, p2, _⟩ := srcB I hq2
    have hl1 := rv1.length
    have hl2 := rv2.length
    have W := GoesN.zip2 (prog := X.prog) (w := X.w) (A := X.A) (elts := elts) (x1 := kk) (pos := tpos) D (drawsB (prog := X.prog) (w := X.w) (A := X.A.in1) k1 (I.ok.hd hc) i1 a h1a its1.toArray) (drawsB (prog := X.prog) (w := X.w) (A := X.A.in1) k2 (I.ok.hd hc) i2 b h2b its2.toArray)
    have hn : min its1.toArray.size its2.toArray.size = i := by simp; omega
    refine W.stops s (fun s1 => Inv X pins σ H s1) E ?_ fun h' tk hk htk => I.turnedL (t' := tk) (ch := [z, TI, TO, i1, i2]) (fun b o hb q => hk b o (fun hm => hb (by
        simp only [List.mem_cons, List.not_mem_nil, or_false] at hm ⊢
        rcases hm with h | h | h | h
        · exact .inl h
        · exact .inr (.inr (.inl h))
        · exact .inr (.inr (.inr (.inl h)))
        · exact .inr (.inr (.inr (.inr h))))) q) hf
    rw [hn]
    exact ⟨hz, hTI, ⟨x0, y0, hTO⟩, ⟨hi1, p1⟩, ⟨hi2, p2⟩⟩
  self := fun A i s Q E st h => wpAny_pyIter_zip st.1 h
def iZipB (K : PySem.W.Frag) (ta : TA) : TI := fun σ H R => ta σ H fun vs H1 => ∃ k1 a xs k2 b ys, vs = [.ref a, .ref b] ∧ SqB k1 K H1 a xs ∧ SqB k2 K H1 b ys ∧ R (ItZ2 K k1 a xs k2 b ys) H1
theorem pi_zipB {e e2 : Expr} {ta : TA} {p pos tpos : Pos} {elts : List Expr} {kk : Nat} (hg : Gl X "zip") (hm : X.mg "zip" = none) (ha : PA X [e, e2] ta)
    (hs : starEach [e, e2] X.env = (false, eval e X.env) :: starEach [e2] X.env := by rfl) (hpl : (backTo pos (starEach [e2] X.env)).any (·.1) = false := by rfl) :
    PI X (.Tuple elts kk tpos) (.Call (.Name "zip" p) [e, e2] [] pos) (iZipB X.K ta) := by
  refine ⟨fun pins s σ H R I h => ?_⟩
  refine Call_ (ld_blt I hg hm PyProof.Rows.boot_zip (PyProof.Rows.callWith_type1 (thn (ha.run pos pins s σ H _ I h) fun us s1 ⟨vs, H1, I1, r1, q1⟩ => ?_) hs hpl))
  obtain ⟨k1, a, xs, k2, b, ys, ex, hqx, hqy, q⟩ := q1
  subst ex
  cases r1 with
  | cons r rr =>
    cases rr with
    | cons r' rr =>
      cases rr
      cases r
      cases r'
      obtain ⟨its, rv, p1, la⟩ := srcB I1 hqx
      obtain ⟨its2, rv2, p2, lb⟩ := srcB I1 hqy
      refine zip_begins2 (beginsB k1 a its.toArray) (beginsB k2 b its2.toArray) p1 p2 fun h' hz hTI hTO h1 h2 hsz hk => wpAny_pyIter_zip hz ?_
      have I2 : Inv X pins σ H1 { s1 with heap := h' } := I1.kept (t' := s1.toks) hk
      refine ⟨s1.heap.objs.size + 4, [s1.heap.objs.size + 4, s1.heap.objs.size + 2, s1.heap.objs.size + 3, s1.heap.objs.size, s1.heap.objs.size + 1], _, _, H1, rfl, I2, turn_zipB (sep2 s1.heap.objs.size a b la lb) (Nat.ne_of_lt la) (Nat.ne_of_lt (Nat.lt_succ_of_lt lb)), ⟨hz, hTI, ⟨_, _, hTO⟩, itB_new h1, itB_new h2⟩, fun c hcm => ?_, q⟩
      have e' : c = s1.heap.objs.size + 4 ∨ c = s1.heap.objs.size + 2 ∨ c = s1.heap.objs.size + 3 ∨ c = s1.heap.objs.size ∨ c = s1.heap.objs.size + 1 := by simpa using hcm
      have hle : s1.heap.objs.size ≤ c := by
        rcases e' with z | z | z | z | z
        · rw [z]; exact Nat.le_add_right _ _
        · rw [z]; exact Nat.le_add_right _ _
        · rw [z]; exact Nat.le_add_right _ _
        · rw [z]; exact Nat.le_refl _
        · rw [z]; exact Nat.le_add_right _ _
      exact I1.fpOk hle (I1.hok.fresh hle)
/-! ### three -/
def ItZ3 (K : PySem.W.Frag) (k1 : Bool) (a : Addr) (xs : List V) (k2 : Bool) (b : Addr) (ys : List V) (k3 : Bool) (c : Addr) (zs : List V) : L2.It :=
  ⟨fun i H => SqB k1 K H a xs ∧ SqB k2 K H b ys ∧ SqB k3 K H c zs ∧ i < xs.length ∧ i < ys.length ∧ i < zs.length, fun i H v H' => ∃ T x y u, v = .ref T ∧ H T = none ∧ H' = upd H T (.tup [x, y, u]) ∧ xs[i]? = some x ∧ ys[i]? = some y ∧ zs[i]? = some u,
    fun i H => SqB k1 K H a xs ∧ SqB k2 K H b ys ∧ SqB k3 K H c zs ∧ min (min xs.length ys.length) zs.length = i⟩
theorem in_wr3 {z TI TO i1 i2 i3 b : Addr} (hm : b ∈ [z, TO, i1, i2, i3]) : b ∈ [z, TI, TO, i1, i2, i3] := by
  simp only [List.mem_cons, List.not_mem_nil, or_false] at hm ⊢
  rcases hm with h | h | h | h | h
  · exact .inl h
  · exact .inr (.inr (.inl h))
  · exact .inr (.inr (.inr (.inl h)))
  · exact .inr (.inr (.inr (.inr (.inl h))))
  · exact .inr (.inr (.inr (.inr (.inr h))))
theorem turn_zipC {P : Program} {w : World} {elts : List Expr} {kk : Nat} {tpos : Pos} {k1 k2 k3 : Bool} {a b c z TI TO i1 i2 i3 : Addr} {xs ys zs : List V} (D : ZipSep3 z TI TO i1 i2 i3 [i1, a] [i2, b] [i3, c]) (h1a : a ≠ i1) (h2b : b ≠ i2) (h3c : c ≠ i3) :
    Turn P w K (.Tuple elts kk tpos) (ItZ3 K k1 a xs k2 b ys k3 c zs) [z, TI, TO, i1, i2, i3] z (fun i h => IsZip h z TI TO .none ∧ IsTupOf3 h TI (.ref i1) (.ref i2) (.ref i3) ∧ (∃ a1 a2 a3, IsTupOf3 h TO a1 a2 a3) ∧ itB k1 h i1 a i ∧ itB k2 h i2 b i ∧ itB k3 h i3 c i) where
  mem := by simp
  obj := fun i h st c hc => by
    obtain ⟨hz, hTI, ⟨x, y, u, hTO⟩, hi1, hi2, hi3⟩ := st
    have e' : c = z ∨ c = TI ∨ c = TO ∨ c = i1 ∨ c = i2 ∨ c = i3 := by simpa using hc
    rcases e' with q | q | q | q | q | q
    · rw [q]; exact ⟨_, hz, fun v q => nomatch q⟩
    · rw [q]; exact ⟨_, hTI, fun v q => nomatch q⟩
    · rw [q]; exact ⟨_, hTO, fun v q => nomatch q⟩
    · rw [q]; exact itB_obj hi1
    · rw [q]; exact itB_obj hi2
    · rw [q]; exact itB_obj hi3
  keep := fun i h h' st k => by
    obtain ⟨hz, hTI, ⟨x, y, u, hTO⟩, h1, h2, h3⟩ := st
    exact ⟨k z (by simp) _ hz, k TI (by simp) _ hTI, ⟨x, y, u, k TO (by simp) _ hTO⟩, itB_at h1 fun o q => k i1 (by simp) o q, itB_at h2 fun o q => k i2 (by simp) o q, itB_at h3 fun o q => k i3 (by simp) o q⟩
  item := by
    intro X hP hw hK hc i pins s σ H E I hf st hg
    subst hP hw hK
    obtain ⟨hz, hTI, ⟨x0, y0, u0, hTO⟩, hi1, hi2, hi3⟩ := st
    obtain ⟨hq1, hq2, hq3, hx1, hx2, hx3⟩ := hg
    obtain ⟨its1, rv1, p1, _⟩ := srcB I hq1
    obtain ⟨its2, rv2, p2, _⟩ := srcB I hq2
    obtain ⟨its3, rv3, p3, _⟩ := srcB I hq3
    have hl1 := rv1.length
    have hl2 := rv2.length
    have hl3 := rv3.length
    have W := GoesN.zip3 (prog := X.prog) (w := X.w) (A := X.A) (elts := elts) (x1 := kk) (pos := tpos) D (drawsB (prog := X.prog) (w := X.w) (A := X.A.in1) k1 (I.ok.hd hc) i1 a h1a its1.toArray) (drawsB (prog := X.prog) (w := X.w) (A := X.A.in1) k2 (I.ok.hd hc) i2 b h2b its2.toArray) (drawsB (prog := X.prog) (w := X.w) (A := X.A.in1) k3 (I.ok.hd hc) i3 c h3c its3.toArray)
    refine W.goes i s _ E (by simp; omega) ⟨hz, hTI, ⟨x0, y0, u0, hTO⟩, ⟨hi1, p1⟩, ⟨hi2, p2⟩, ⟨hi3, p3⟩⟩ fun v h' tk hY hst hk htk => ?_
    obtain ⟨T, u1, u2, u3, ev, hT, hu1, hu2, hu3, hTu⟩ := hY
    obtain ⟨hz', hTI', ⟨x0', y0', u0', hTO'⟩, ⟨hi1', _⟩, ⟨hi2', _⟩, ⟨hi3', _⟩⟩ := hst
    subst ev
    obtain ⟨x, ex, rx⟩ := vals_at rv1 hx1 hu1
    obtain ⟨y, ey, ry⟩ := vals_at rv2 hx2 hu2
    obtain ⟨u, eu, ru⟩ := vals_at rv3 hx3 hu3
    have new : ObjOk X.prog X.w (upd H T (.tup [x, y, u])) h' T (.tup [x, y, u]) :=
      ⟨by show 3 ≤ sizeLine; decide, [u1, u2, u3], .cons rx (.cons ry (.cons ru .nil)), hTu⟩
    have I1 : Inv X pins σ (upd H T (.tup [x, y, u])) { s with heap := h', toks := tk } :=
      I.turnedNew (ch := [z, TI, TO, i1, i2, i3]) (fun b ob hb q => hk b ob (fun hm => hb (in_wr3 hm)) q) hf hT new
    refine ⟨.ref T, _, I1, rfl, ⟨T, x, y, u, rfl, I.hok.fresh hT, rfl, ex, ey, eu⟩, ⟨hz', hTI', ⟨x0', y0', u0', hTO'⟩, hi1', hi2', hi3'⟩, fun c hcm => ?_⟩
    have hb' : c < s.heap.objs.size := by
      have e' : c = z ∨ c = TI ∨ c = TO ∨ c = i1 ∨ c = i2 ∨ c = i3 := by simpa using hcm
      rcases e' with q | q | q | q | q | q
      · rw [q]; exact Heap.lt_size hz
      · rw [q]; exact Heap.lt_size hTI
      · rw [q]; exact Heap.lt_size hTO
      · rw [q]; obtain ⟨_, q, _⟩ := itB_obj hi1; exact Heap.lt_size q
      · rw [q]; obtain ⟨_, q, _⟩ := itB_obj hi2; exact Heap.lt_size q
      · rw [q]; obtain ⟨_, q, _⟩ := itB_obj hi3; exact Heap.lt_size q
    rw [upd_ne (Nat.ne_of_lt (Nat.lt_of_lt_of_le hb' hT))]
    exact (hf c hcm).1
  done := by
    intro X hP hw hK hc i pins s σ H E I hf st hg
    subst hP hw hK
    obtain ⟨hz, hTI, ⟨x0, y0, u0, hTO⟩, hi1, hi2, hi3⟩ := st
    obtain ⟨hq1, hq2, hq3, hx⟩ := hg
    obtain ⟨its1, rv1, p1, _⟩ := srcB I hq1
    obtain ⟨its2, rv2, p2, _⟩ := srcB I hq2
    obtain ⟨its3, rv3, p3, _⟩ := srcB I hq3
    have hl1 := rv1.length
    have hl2 := rv2.length
    have hl3 := rv3.length
    have W := GoesN.zip3 (prog := X.prog) (w := X.w) (A := X.A) (elts := elts) (x1 := kk) (pos := tpos) D (drawsB (prog := X.prog) (w := X.w) (A := X.A.in1) k1 (I.ok.hd hc) i1 a h1a its1.toArray) (drawsB (prog := X.prog) (w := X.w) (A := X.A.in1) k2 (I.ok.hd hc) i2 b h2b its2.toArray) (drawsB (prog := X.prog) (w := X.w) (A := X.A.in1) k3 (I.ok.hd hc) i3 c h3c its3.toArray)
    have hn : min (min its1.toArray.size its2.toArray.size) its3.toArray.size = i := by simp; omega
    refine W.stops s (fun s1 => Inv X pins σ H s1) E ?_ fun h' tk hk htk => I.turnedL (t' := tk) (ch := [z, TI, TO, i1, i2, i3]) (fun b o hb q => hk b o (fun hm => hb (in_wr3 hm)) q) hf
    rw [hn]
    exact ⟨hz, hTI, ⟨x0, y0, u0, hTO⟩, ⟨hi1, p1⟩, ⟨hi2, p2⟩, ⟨hi3, p3⟩⟩
  self := fun A i s Q E st h => wpAny_pyIter_zip st.1 h
def iZipC (K : PySem.W.Frag) (ta : TA) : TI := fun σ H R => ta σ H fun vs H1 => ∃ k1 a xs k2 b ys k3 c zs, vs = [.ref a, .ref b, .ref c] ∧ SqB k1 K H1 a xs ∧ SqB k2 K H1 b ys ∧ SqB k3 K H1 c zs ∧ R (ItZ3 K k1 a xs k2 b ys k3 c zs) H1
theorem pi_zipC {e e2 e3 : Expr} {ta : TA} {p pos tpos : Pos} {elts : List Expr} {kk : Nat} (hg : Gl X "zip") (hm : X.mg "zip" = none) (ha : PA X [e, e2, e3] ta)
    (hs : starEach [e, e2, e3] X.env = (false, eval e X.env) :: starEach [e2, e3] X.env := by rfl) (hpl : (backTo pos (starEach [e2, e3] X.env)).any (·.1) = false := by rfl) :
    PI X (.Tuple elts kk tpos) (.Call (.Name "zip" p) [e, e2, e3] [] pos) (iZipC X.K ta) := by
  refine ⟨fun pins s σ H R I h => ?_⟩
  refine Call_ (ld_blt I hg hm PyProof.Rows.boot_zip (PyProof.Rows.callWith_type1 (thn (ha.run pos pins s σ H _ I h) fun us s1 ⟨vs, H1, I1, r1, q1⟩ => ?_) hs hpl))
  obtain ⟨k1, a, xs, k2, b, ys, k3, c, zs, ex, hqx, hqy, hqz, q⟩ := q1
  subst ex
  cases r1 with
  | cons r rr =>
    cases rr with
    | cons r' rr =>
      cases rr with
      | cons r'' rr =>
        cases rr
        cases r
        cases r'
        cases r''
        obtain ⟨its, rv, p1, la⟩ := srcB I1 hqx
        obtain ⟨its2, rv2, p2, lb⟩ := srcB I1 hqy
        obtain ⟨its3, rv3, p3, lc⟩ := srcB I1 hqz
        refine zip_begins3 (beginsB k1 a its.toArray) (beginsB k2 b its2.toArray) (beginsB k3 c its3.toArray) p1 p2 p3 fun h' hz hTI hTO h1 h2 h3 hsz hk => wpAny_pyIter_zip hz ?_
        have I2 : Inv X pins σ H1 { s1 with heap := h' } := I1.kept (t' := s1.toks) hk
        refine ⟨s1.heap.objs.size + 5, [s1.heap.objs.size + 5, s1.heap.objs.size + 3, s1.heap.objs.size + 4, s1.heap.objs.size, s1.heap.objs.size + 1, s1.heap.objs.size + 2], _, _, H1, rfl, I2, turn_zipC (sep3 s1.heap.objs.size a b c la lb lc) (Nat.ne_of_lt la) (Nat.ne_of_lt (Nat.lt_succ_of_lt lb)) (Nat.ne_of_lt (Nat.lt_succ_of_lt (Nat.lt_succ_of_lt lc))), ⟨hz, hTI, ⟨_, _, _, hTO⟩, itB_new h1, itB_new h2, itB_new h3⟩, fun c hcm => ?_, q⟩
        have e' : c = s1.heap.objs.size + 5 ∨ c = s1.heap.objs.size + 3 ∨ c = s1.heap.objs.size + 4 ∨ c = s1.heap.objs.size ∨ c = s1.heap.objs.size + 1 ∨ c = s1.heap.objs.size + 2 := by simpa using hcm
        have hle : s1.heap.objs.size ≤ c := by
          rcases e' with z | z | z | z | z | z
          · rw [z]; exact Nat.le_add_right _ _
          · rw [z]; exact Nat.le_add_right _ _
          · rw [z]; exact Nat.le_add_right _ _
          · rw [z]; exact Nat.le_refl _
          · rw [z]; exact Nat.le_add_right _ _
          · rw [z]; exact Nat.le_add_right _ _
        exact I1.fpOk hle (I1.hok.fresh hle)
/-! ### what they tell -/
theorem srcOk_B {v : V} {ds : List D} (h : SrcOk K F H v ds) : ∃ k a vs, v = .ref a ∧ SqB k K F a vs ∧ RepL K F H ds vs [] := by
  obtain ⟨a, vs, e, h1 | h1, h2⟩ := h
  · exact ⟨true, a, vs, e, h1, h2⟩
  · exact ⟨false, a, vs, e, h1, h2⟩
theorem repL_at {ds : List D} {vs : List V} {i : Nat} {d : D} {x : V} (h : RepL K F H ds vs []) (e : ds[i]? = some d) (e2 : vs[i]? = some x) : Rep K F H d x [] := by
  obtain ⟨v, f, e1, r, hf⟩ := RepL.get i h e
  rw [e2] at e1
  cases e1
  have ef : f = [] := List.eq_nil_iff_forall_not_mem.mpr fun b hb => nomatch hf b hb
  subst ef
  exact r
/-- a new tuple of things that stay -/
theorem prim_tup {T : Addr} {ds : List D} {vs : List V} (sF : Same F H) (hT : H T = none) (r : RepL K F H ds vs []) : PrimRes K F H (upd F T (.tup vs)) (upd H T (.tup vs)) (.tup ds) (.ref T) [] :=
  .newT sF r hT
theorem enumD_get : ∀ (n : Nat) (ds : List D) (i : Nat), (enumD n ds)[i]? = ds[i]?.map fun d => .tup [.int ((n + i : Nat) : Int), d]
  | n, [], i => by simp [enumD]
  | n, d :: r, 0 => by simp [enumD]
  | n, d :: r, i + 1 => by
    simp only [enumD, List.getElem?_cons_succ]
    rw [enumD_get (n + 1) r i, show n + 1 + i = n + (i + 1) by omega]
theorem enumD_len : ∀ (n : Nat) (ds : List D), (enumD n ds).length = ds.length
  | n, [] => rfl
  | n, d :: r => by simp [enumD, enumD_len (n + 1) r]
theorem zip2_get : ∀ (as bs : List D) (i : Nat) (d : D), (zip2 as bs)[i]? = some d → ∃ a b, as[i]? = some a ∧ bs[i]? = some b ∧ d = .tup [a, b]
  | [], bs, i, d, h => by simp [zip2] at h
  | _ :: _, [], i, d, h => by simp [zip2] at h
  | a :: as, b :: bs, 0, d, h => by simp [zip2] at h; exact ⟨a, b, rfl, rfl, h.symm⟩
  | a :: as, b :: bs, i + 1, d, h => by
    simp only [zip2, List.getElem?_cons_succ] at h
    simpa using zip2_get as bs i d h
theorem zip2_len : ∀ (as bs : List D), (zip2 as bs).length = min as.length bs.length
  | [], bs => by simp [zip2]
  | _ :: _, [] => by simp [zip2]
  | a :: as, b :: bs => by simp [zip2, zip2_len as bs]
theorem zip3_get : ∀ (as bs cs : List D) (i : Nat) (d : D), (zip3 as bs cs)[i]? = some d → ∃ a b c, as[i]? = some a ∧ bs[i]? = some b ∧ cs[i]? = some c ∧ d = .tup [a, b, c]
  | [], bs, cs, i, d, h => by simp [zip3] at h
  | _ :: _, [], cs, i, d, h => by simp [zip3] at h
  | _ :: _, _ :: _, [], i, d, h => by simp [zip3] at h
  | a :: as, b :: bs, c :: cs, 0, d, h => by simp [zip3] at h; exact ⟨a, b, c, rfl, rfl, rfl, h.symm⟩
  | a :: as, b :: bs, c :: cs, i + 1, d, h => by
    simp only [zip3, List.getElem?_cons_succ] at h
    simpa using zip3_get as bs cs i d h
theorem zip3_len : ∀ (as bs cs : List D), (zip3 as bs cs).length = min (min as.length bs.length) cs.length
  | [], bs, cs => by simp [zip3]
  | _ :: _, [], cs => by simp [zip3]
  | _ :: _, _ :: _, [] => by simp [zip3]
  | a :: as, b :: bs, c :: cs => by simp only [zip3, List.length_cons, zip3_len as bs cs]; omega
theorem itOk_enum {k : Bool} {a : Addr} {vs : List V} {ds : List D} (h1 : SqB k K F a vs) (h2 : RepL K F H ds vs []) : ItOk K F (ItE K k a vs) (enumD 0 ds) := by
  have hl := RepL.length _ _ _ h2
  refine ⟨fun i F1 H1 s1 s2 hi => ?_, fun i F1 H1 s1 s2 hi => ?_, fun i F1 H1 x H' d s1 s2 hy e => ?_⟩
  · rw [enumD_len] at hi
    exact ⟨h1.mono (Same.trans s1 s2), by omega⟩
  · rw [enumD_len] at hi
    exact ⟨h1.mono (Same.trans s1 s2), by omega⟩
  · obtain ⟨T, y, rfl, hT, rfl, hy⟩ := hy
    rw [enumD_get] at e
    cases e2 : ds[i]? with
    | none => rw [e2] at e; cases e
    | some d0 =>
      rw [e2] at e
      cases e
      have r : Rep K F1 H1 d0 y [] := Rep.mono s1 _ _ _ (fun _ h => nomatch h) (repL_at h2 e2 hy)
      rw [Nat.zero_add]
      refine ⟨_, prim_tup s2 hT ?_⟩
      simp only [RepL, Rep]
      exact ⟨_, _, [], [], rfl, ⟨rfl, rfl⟩, ⟨_, _, [], [], rfl, r, ⟨rfl, rfl⟩, rfl⟩, rfl⟩
theorem itOk_zip2 {k1 k2 : Bool} {a b : Addr} {vs ws : List V} {ds es : List D} (h1 : SqB k1 K F a vs) (h2 : RepL K F H ds vs []) (g1 : SqB k2 K F b ws) (g2 : RepL K F H es ws []) : ItOk K F (ItZ2 K k1 a vs k2 b ws) (zip2 ds es) := by
  have hl := RepL.length _ _ _ h2
  have gl := RepL.length _ _ _ g2
  refine ⟨fun i F1 H1 s1 s2 hi => ?_, fun i F1 H1 s1 s2 hi => ?_, fun i F1 H1 x H' d s1 s2 hy e => ?_⟩
  · rw [zip2_len] at hi
    exact ⟨h1.mono (Same.trans s1 s2), g1.mono (Same.trans s1 s2), by omega, by omega⟩
  · rw [zip2_len] at hi
    exact ⟨h1.mono (Same.trans s1 s2), g1.mono (Same.trans s1 s2), by omega⟩
  · obtain ⟨T, y, z, rfl, hT, rfl, hy, hz⟩ := hy
    obtain ⟨d1, d2, e1, e2, rfl⟩ := zip2_get _ _ _ _ e
    refine ⟨_, prim_tup s2 hT ?_⟩
    simp only [RepL]
    exact ⟨_, _, [], [], rfl, Rep.mono s1 _ _ _ (fun _ h => nomatch h) (repL_at h2 e1 hy), ⟨_, _, [], [], rfl, Rep.mono s1 _ _ _ (fun _ h => nomatch h) (repL_at g2 e2 hz), ⟨rfl, rfl⟩, rfl⟩, rfl⟩
theorem itOk_zip3 {k1 k2 k3 : Bool} {a b c : Addr} {vs ws us : List V} {ds es gs : List D} (h1 : SqB k1 K F a vs) (h2 : RepL K F H ds vs []) (g1 : SqB k2 K F b ws) (g2 : RepL K F H es ws []) (j1 : SqB k3 K F c us) (j2 : RepL K F H gs us []) : ItOk K F (ItZ3 K k1 a vs k2 b ws k3 c us) (zip3 ds es gs) := by
  have hl := RepL.length _ _ _ h2
  have gl := RepL.length _ _ _ g2
  have jl := RepL.length _ _ _ j2
  refine ⟨fun i F1 H1 s1 s2 hi => ?_, fun i F1 H1 s1 s2 hi => ?_, fun i F1 H1 x H' d s1 s2 hy e => ?_⟩
  · rw [zip3_len] at hi
    exact ⟨h1.mono (Same.trans s1 s2), g1.mono (Same.trans s1 s2), j1.mono (Same.trans s1 s2), by omega, by omega, by omega⟩
  · rw [zip3_len] at hi
    exact ⟨h1.mono (Same.trans s1 s2), g1.mono (Same.trans s1 s2), j1.mono (Same.trans s1 s2), by omega⟩
  · obtain ⟨T, y, z, u, rfl, hT, rfl, hy, hz, hu⟩ := hy
    obtain ⟨d1, d2, d3, e1, e2, e3, rfl⟩ := zip3_get _ _ _ _ _ e
    refine ⟨_, prim_tup s2 hT ?_⟩
    simp only [RepL]
    exact ⟨_, _, [], [], rfl, Rep.mono s1 _ _ _ (fun _ h => nomatch h) (repL_at h2 e1 hy), ⟨_, _, [], [], rfl, Rep.mono s1 _ _ _ (fun _ h => nomatch h) (repL_at g2 e2 hz),
      ⟨_, _, [], [], rfl, Rep.mono s1 _ _ _ (fun _ h => nomatch h) (repL_at j2 e3 hu), ⟨rfl, rfl⟩, rfl⟩, rfl⟩, rfl⟩
theorem enumG_inv {dss : List (List D)} {ds : List D} (h : enumG dss = some ds) : ∃ a, dss = [a] ∧ ds = enumD 0 a := by
  unfold enumG at h
  split at h
  · cases h; exact ⟨_, rfl, rfl⟩
  · cases h
theorem zipG_inv {dss : List (List D)} {ds : List D} (h : zipG dss = some ds) : (∃ a b, dss = [a, b] ∧ ds = zip2 a b) ∨ (∃ a b c, dss = [a, b, c] ∧ ds = zip3 a b c) := by
  unfold zipG at h
  split at h
  · cases h; exact .inl ⟨_, _, rfl, rfl⟩
  · cases h; exact .inr ⟨_, _, _, rfl, rfl⟩
  · cases h
theorem srcs_len : ∀ {dss : List (List D)} {vs : List V}, SrcsOk K F H dss vs → vs.length = dss.length
  | [], [], _ => rfl
  | d :: ds, v :: vs, h => by simp [srcs_len h.2]
  | [], _ :: _, h => h.elim
  | _ :: _, [], h => h.elim
theorem t_enum {es : List IE} {R : L2.It → Hp → Prop} (h : tIt K Φ E (.enum es) σ H R) : iEnB K (tOs K Φ E es) σ H R := by
  have h1 := t_srcs (es := es) (g := enumG) h fun ρ => by simp only [evIt]
  unfold iEnB
  refine h1.mono ?_
  rintro vs H1 ⟨F, dss, ds, hs, sF, eg, q⟩
  obtain ⟨a, rfl, rfl⟩ := enumG_inv eg
  match vs, srcs_len hs, hs with
  | [x], _, hs =>
    obtain ⟨k, p, ws, rfl, h1, h2⟩ := srcOk_B (srcs_one hs)
    exact ⟨k, p, ws, rfl, h1.mono sF, q _ (itOk_enum h1 h2)⟩
theorem t_zip2 {a b : IE} {R : L2.It → Hp → Prop} (ha : OneO Φ a) (hb : OneO Φ b) (h : tIt K Φ E (.zip [a, b]) σ H R) : iZipB K (tCons (tO K Φ E a) (tCons (tO K Φ E b) tNil)) σ H R := by
  have h1 := t_srcs (es := [a, b]) (g := zipG) h fun ρ => by simp only [evIt]
  have h2 := t_two' ha hb h1
  show tO K Φ E a σ H _
  refine tO_mono h2 fun x H1 h3 => ?_
  show tO K Φ E b σ H1 _
  refine tO_mono h3 ?_
  rintro y H2 ⟨F, dss, ds, hs, sF, eg, q⟩
  have hl := srcs_len hs
  rcases zipG_inv eg with ⟨d1, d2, rfl, rfl⟩ | ⟨d1, d2, d3, rfl, rfl⟩
  · obtain ⟨k, p, ws, rfl, h1, h2⟩ := srcOk_B hs.1
    obtain ⟨k', p', ws', rfl, h1', h2'⟩ := srcOk_B hs.2.1
    exact ⟨k, p, ws, k', p', ws', rfl, h1.mono sF, h1'.mono sF, q _ (itOk_zip2 h1 h2 h1' h2')⟩
  · simp at hl
theorem t_zip3 {a b c : IE} {R : L2.It → Hp → Prop} (ha : OneO Φ a) (hb : OneO Φ b) (hc : OneO Φ c) (h : tIt K Φ E (.zip [a, b, c]) σ H R) : iZipC K (tCons (tO K Φ E a) (tCons (tO K Φ E b) (tCons (tO K Φ E c) tNil))) σ H R := by
  have h1 := t_srcs (es := [a, b, c]) (g := zipG) h fun ρ => by simp only [evIt]
  have h2 := t_three ha hb hc h1
  show tO K Φ E a σ H _
  refine tO_mono h2 fun x H1 h3 => ?_
  show tO K Φ E b σ H1 _
  refine tO_mono h3 fun y H2 h4 => ?_
  show tO K Φ E c σ H2 _
  refine tO_mono h4 ?_
  rintro z H3 ⟨F, dss, ds, hs, sF, eg, q⟩
  have hl := srcs_len hs
  rcases zipG_inv eg with ⟨d1, d2, rfl, rfl⟩ | ⟨d1, d2, d3, rfl, rfl⟩
  · simp at hl
  · obtain ⟨k, p, ws, rfl, h1, h2⟩ := srcOk_B hs.1
    obtain ⟨k', p', ws', rfl, h1', h2'⟩ := srcOk_B hs.2.1
    obtain ⟨k'', p'', ws'', rfl, h1'', h2''⟩ := srcOk_B hs.2.2.1
    exact ⟨k, p, ws, k', p', ws', k'', p'', ws'', rfl, h1.mono sF, h1'.mono sF, h1''.mono sF, q _ (itOk_zip3 h1 h2 h1' h2' h1'' h2'')⟩
end Mi
end

section
set_option Elab.async false
set_option linter.all false
set_option maxRecDepth 100000
/-! Statements. -/
namespace Mi
open PySem PySem.Spec PyProof.Rows L2
variable [LT] [Fr]
variable {K : PySem.W.Frag} {Φ : Fns} {E : XK} {B : Bs} {lk : List (Nat × V)} {F F' H H' : Hp} {σ : L2.St} {ρ : Env} {fps : List (List Addr)} {ts : List (V × Tm)} {Q : VK} {X : Cx} {lkN : List Nat} {D' : Ends}

def OutS (x : String → D → Env → Prop) (r : SR) (kn : Env → Prop) (kr : D → Env → Prop) : Prop := match r with
  | .nx ρ => kn ρ
  | .ret d ρ => kr d ρ
  | .exc c d ρ => x c d ρ
  | .stk => False
theorem outS_of {α : Type} {x : String → D → Env → Prop} {r : R α} {f : α → Env → SR} {kn : Env → Prop} {kr : D → Env → Prop} : OutS x (ofR r f) kn kr ↔ Out x r fun a ρ => OutS x (f a ρ) kn kr := by
  cases r <;> exact Iff.rfl
theorem OutS.imp {x x' : String → D → Env → Prop} {r : SR} {kn kn' : Env → Prop} {kr kr' : D → Env → Prop} (h : OutS x r kn kr) (hx : ∀ c d ρ, x c d ρ → x' c d ρ) (hn : ∀ ρ, kn ρ → kn' ρ) (hr : ∀ d ρ, kr d ρ → kr' d ρ) : OutS x' r kn' kr' := by
  cases r with
  | nx ρ => exact hn _ h
  | ret d ρ => exact hr _ _ h
  | exc c d ρ => exact hx _ _ _ h
  | stk => exact h
/-- what is wanted of an exception, whatever the slots hold -/
def XS (K : PySem.W.Frag) (E : XK) (B : Bs) (lk : List (Nat × V)) (c : String) (d : D) (ρ : Env) : Prop := ∀ σ cls dx F H fps, Sta K B lk F H σ ρ fps [] → RepX K F H c d cls dx → E cls dx H
def kN (K : PySem.W.Frag) (B : Bs) (lk : List (Nat × V)) (k : L2.St → Hp → Prop) (ρ : Env) : Prop := ∀ F H σ fps, Sta K B lk F H σ ρ fps [] → k σ H
def kR (K : PySem.W.Frag) (B : Bs) (lk : List (Nat × V)) (k : VK) (d : D) (ρ : Env) : Prop := ∀ v fp F H σ fps, Sta K B lk F H σ ρ fps [(v, .own d fp)] → k v H
def Lks (lk : List (Nat × V)) (lkN : List Nat) : Prop := ∀ p ∈ lk, lkN.contains p.1 = true
/-- a statement's reading -/
def tS (K : PySem.W.Frag) (Φ : Fns) (E : XK) (lkN : List Nat) (s : IS) : TS := fun D' σ H => ∃ B lk F ρ fps, Sta K B lk F H σ ρ fps [] ∧ Lks lk lkN ∧ OutS (XS K E B lk) (exS Φ lkN s ρ) (kN K B lk D'.nx) (kR K B lk D'.rt)
/-- a block's -/
def tSs (K : PySem.W.Frag) (Φ : Fns) (E : XK) (lkN : List Nat) (s : List IS) : TS := fun D' σ H => ∃ B lk F ρ fps, Sta K B lk F H σ ρ fps [] ∧ Lks lk lkN ∧ OutS (XS K E B lk) (exSs Φ lkN s ρ) (kN K B lk D'.nx) (kR K B lk D'.rt)
theorem PS.imp {st : Stmt} {t t' : TS} (h : PS X st t) (hi : ∀ D' σ H, t' D' σ H → t D' σ H) : PS X st t' := ⟨fun pins s σ H D' I q => h.run pins s σ H D' I (hi D' σ H q)⟩
theorem PSs.imp {st : List Stmt} {t t' : TS} (h : PSs X st t) (hi : ∀ D' σ H, t' D' σ H → t D' σ H) : PSs X st t' := ⟨fun pins s σ H D' I q => h.run pins s σ H D' I (hi D' σ H q)⟩
theorem XS.xc {c : String} {d : D} {ρ : Env} (h : XS K E B lk c d ρ) : XC K E B lk σ c d ρ := fun cls dx F H fps S r => h σ cls dx F H fps S r
theorem Out.impX {α : Type} {x x' : String → D → Env → Prop} {r : R α} {k k' : α → Env → Prop} (h : Out x r k) (hx : ∀ c d ρ, x c d ρ → x' c d ρ) (hk : ∀ a ρ, k a ρ → k' a ρ) : Out x' r k' := by
  cases r with
  | ok a ρ => exact hk _ _ h
  | exc c d ρ => exact hx _ _ _ h
  | stk => exact h
theorem ts_nil (h : tSs K Φ E lkN [] D' σ H) : tNext D' σ H := by
  obtain ⟨B, lk, F, ρ, fps, S, _, o⟩ := h
  exact o F H σ fps S
theorem ts_cons {s : IS} {r : List IS} (h : tSs K Φ E lkN (s :: r) D' σ H) : tSeq (tS K Φ E lkN s) (tSs K Φ E lkN r) D' σ H := by
  obtain ⟨B, lk, F, ρ, fps, S, hl, o⟩ := h
  refine ⟨B, lk, F, ρ, fps, S, hl, ?_⟩
  simp only [exSs] at o
  cases e : exS Φ lkN s ρ with
  | nx ρ1 => rw [e] at o; exact fun F' H' σ' fps' S' => ⟨B, lk, F', ρ1, fps', S', hl, o⟩
  | ret d ρ1 => rw [e] at o; exact o
  | exc c d ρ1 => rw [e] at o; exact o
  | stk => rw [e] at o; exact o
theorem ts_ex {e : IE} (h : tS K Φ E lkN (.ex e) D' σ H) : tDrop (tI K Φ E e) D' σ H := by
  obtain ⟨B, lk, F, ρ, fps, S, hl, o⟩ := h
  simp only [exS] at o
  rw [outS_of] at o
  exact ⟨B, lk, F, ρ, fps, [], S, o.impX (fun _ _ _ => XS.xc) fun d ρ1 q v fp F' H' fps' S' => q F' H' σ fps' S'.drop⟩
theorem ts_asg {tg : Tg} {e : IE} (h : tS K Φ E lkN (.asg tg e) D' σ H) : tAsg (tI K Φ E e) (tG K lkN tg) D' σ H := by
  obtain ⟨B, lk, F, ρ, fps, S, hl, o⟩ := h
  simp only [exS] at o
  rw [outS_of] at o
  refine ⟨B, lk, F, ρ, fps, [], S, o.impX (fun _ _ _ => XS.xc) fun d ρ1 q v fp F' H' fps' S' => ?_⟩
  cases e2 : bindT lkN tg d ρ1 with
  | none => rw [e2] at q; exact q.elim
  | some ρ2 =>
    rw [e2] at q
    exact ⟨B, lk, F', ρ1, fps', [], d, fp, S', hl, (fun t ht => nomatch ht), ρ2, e2, fun σ' fps'' S'' _ => q F' H' σ' fps'' S''⟩
theorem ts_ret {e : IE} (h : tS K Φ E lkN (.ret e) D' σ H) : tRet (tI K Φ E e) D' σ H := by
  obtain ⟨B, lk, F, ρ, fps, S, hl, o⟩ := h
  simp only [exS] at o
  rw [outS_of] at o
  exact ⟨B, lk, F, ρ, fps, [], S, o.impX (fun _ _ _ => XS.xc) fun d ρ1 q v fp F' H' fps' S' => q v fp F' H' σ fps' S'⟩
theorem ts_if {c : IE} {a b : List IS} (h : tS K Φ E lkN (.ifs c a b) D' σ H) : tIfS (tT K Φ E c) (tSs K Φ E lkN a) (tSs K Φ E lkN b) D' σ H := by
  obtain ⟨B, lk, F, ρ, fps, S, hl, o⟩ := h
  simp only [exS] at o
  rw [outS_of] at o
  refine ⟨B, lk, F, ρ, fps, [], S, o.impX (fun _ _ _ => XS.xc) fun d ρ1 q => ?_⟩
  cases d <;> try exact q.elim
  rename_i k
  refine ⟨k, rfl, fun F' H' fps' S' => ?_⟩
  cases k with
  | true => exact iteT ⟨B, lk, F', ρ1, fps', S', hl, q⟩
  | false => exact iteF ⟨B, lk, F', ρ1, fps', S', hl, q⟩
theorem ts_never (h : tS K Φ E lkN .never D' σ H) : tNever D' σ H := by
  obtain ⟨B, lk, F, ρ, fps, S, hl, o⟩ := h
  simp only [exS] at o
  exact o
/-- from a stretch by itself to the body -/
theorem XS.unbase {all : List Addr} {F H : Hp} {c : String} {d : D} {ρ : Env} (o : OwnOk B F H all) (tb : LamX.Tabs LT.T B.H0) (h : XS K E B lk c d ρ) : XS K E ⟨F, H, all⟩ lk c d ρ := fun σ cls dx F' H' fps S r => h σ cls dx F' H' fps (Sta.unbase o tb S) r
theorem ts_for {tg : Tg} {it : It} {body : List IS} (h : tS K Φ E lkN (.for_ tg it body) D' σ H) : tFor (tIt K Φ E it) (tG K lkN tg) (tSs K Φ E lkN body) D' σ H := by
  obtain ⟨B, lk, F, ρ, fps, S, hl, o⟩ := h
  simp only [exS] at o
  rw [outS_of] at o
  refine ⟨B, lk, F, ρ, fps, [], S, o.impX (fun _ _ _ => XS.xc) fun ds ρ1 q J F1 H1 fps1 hJ S1 => ?_⟩
  let B2 : Bs := ⟨F1, H1, tfp [] ++ fps1.flatten⟩
  have S1b : Sta K B2 lk F1 H1 σ ρ1 fps1 [] := S1.rebase
  refine ⟨fun i m σ H => m = ds.length - i ∧ i ≤ ds.length ∧ ∃ F' ρ' fps', Same F1 F' ∧ Sta K B2 lk F' H σ ρ' fps' [] ∧ OutS (XS K E B lk) (forL lkN tg (exSs Φ lkN body) (ds.drop i) ρ') (kN K B lk D'.nx) (kR K B lk D'.rt),
    ⟨ds.length, by omega, by omega, F1, ρ1, fps1, Same.refl _, S1b, by simpa using q⟩, ?_⟩
  rintro i m σ2 H2 ⟨rfl, hi, F2, ρ2, fps2, sF, S2, w⟩
  by_cases hlt : i < ds.length
  · refine .inr ⟨hJ.go i F2 H2 sF S2.own.sub hlt, fun σ H => i + 1 ≤ ds.length ∧ ∃ F' ρ' fps', Same F1 F' ∧ Sta K B2 lk F' H σ ρ' fps' [] ∧ OutS (XS K E B lk) (forL lkN tg (exSs Φ lkN body) (ds.drop (i + 1)) ρ') (kN K B lk D'.nx) (kR K B lk D'.rt),
      fun σ' H' nx => ⟨ds.length - (i + 1), by omega, rfl, nx⟩, fun x H3 hy => ?_⟩
    obtain ⟨F3, pr⟩ := hJ.yld i F2 H2 x H3 (ds[i]'hlt) sF S2.own.sub hy (by simp [hlt])
    have S3 := S2.push pr
    have ed : ds.drop i = ds[i]'hlt :: ds.drop (i + 1) := by rw [← List.drop_eq_getElem_cons hlt]
    rw [ed] at w
    simp only [forL] at w
    cases e1 : bindT lkN tg (ds[i]'hlt) ρ2 with
    | none => rw [e1] at w; exact w.elim
    | some ρ3 =>
      rw [e1] at w
      simp only at w
      refine ⟨B2, lk, F3, ρ2, fps2, [], _, _, S3, hl, (fun t ht => nomatch ht), ρ3, e1, fun σ' fps' S4 ag => ?_⟩
      refine ⟨B2, lk, F3, ρ3, fps', S4, hl, ?_⟩
      cases e2 : exSs Φ lkN body ρ3 with
      | nx ρ4 =>
        rw [e2] at w
        intro F5 H5 σ5 fps5 S5
        exact ⟨hlt, F5, ρ4, fps5, S5.own.base, S5, w⟩
      | ret d ρ4 =>
        rw [e2] at w
        intro v fp F5 H5 σ5 fps5 S5
        exact w v fp F5 H5 σ5 fps5 (Sta.unbase S1.own S1.tb S5)
      | exc c d ρ4 =>
        rw [e2] at w
        exact XS.unbase S1.own S1.tb w
      | stk => rw [e2] at w; exact w.elim
  · have hie : i = ds.length := by omega
    subst hie
    refine .inl ⟨hJ.stop _ F2 H2 sF S2.own.sub rfl, ?_⟩
    rw [List.drop_length] at w
    simp only [forL] at w
    exact w F2 H2 σ2 fps2 (Sta.unbase S1.own S1.tb S2)
theorem ts_while {c : IE} {body : List IS} (h : tS K Φ E lkN (.while_ c body) D' σ H) : tWhile (tT K Φ E c) (tSs K Φ E lkN body) D' σ H := by
  obtain ⟨B, lk, F, ρ, fps, S, hl, o⟩ := h
  simp only [exS] at o
  refine ⟨fun m σ H => ∃ F' ρ' fps', Sta K B lk F' H σ ρ' fps' [] ∧ OutS (XS K E B lk) (whL (ev Φ c) (exSs Φ lkN body) m ρ') (kN K B lk D'.nx) (kR K B lk D'.rt), ⟨FUEL, F, ρ, fps, S, o⟩, ?_⟩
  rintro m σ2 H2 ⟨F2, ρ2, fps2, S2, w⟩
  cases m with
  | zero => exact w.elim
  | succ m =>
    simp only [whL] at w
    refine ⟨B, lk, F2, ρ2, fps2, [], S2, ?_⟩
    cases e : ev Φ c ρ2 with
    | stk => rw [e] at w; exact w.elim
    | exc c d ρ3 => rw [e] at w; exact XS.xc w
    | ok d ρ3 =>
      rw [e] at w
      cases d <;> try exact w.elim
      rename_i b
      refine ⟨b, rfl, fun F3 H3 fps3 S3 => ?_⟩
      cases b with
      | false => exact iteF (w F3 H3 σ2 fps3 S3)
      | true =>
        simp only at w
        refine iteT ⟨fun σ' H' => ∃ F' ρ' fps', Sta K B lk F' H' σ' ρ' fps' [] ∧ OutS (XS K E B lk) (whL (ev Φ c) (exSs Φ lkN body) m ρ') (kN K B lk D'.nx) (kR K B lk D'.rt), fun σ' H' nx => ⟨m, by omega, nx⟩, B, lk, F3, ρ3, fps3, S3, hl, ?_⟩
        cases e2 : exSs Φ lkN body ρ3 with
        | nx ρ4 =>
          rw [e2] at w
          intro F5 H5 σ5 fps5 S5
          exact ⟨F5, ρ4, fps5, S5, w⟩
        | ret d ρ4 => rw [e2] at w; exact w
        | exc c d ρ4 => rw [e2] at w; exact w
        | stk => rw [e2] at w; exact w.elim
/-! ### lists changed -/
theorem RepL.setAt : ∀ {ds : List D} {vs : List V} {f g : List Addr} {j : Nat} {d : D} {v : V}, RepL K F H ds vs f → Rep K F H d v g → ∃ f', RepL K F H (ds.set j d) (vs.set j v) f' ∧ SubP f' (f ++ g)
  | [], vs, f, g, j, d, v, h, r => by
    have h' := h
    simp only [RepL] at h
    obtain ⟨rfl, rfl⟩ := h
    exact ⟨[], by simpa using h', ⟨g, by simp⟩⟩
  | d0 :: ds, vs, f, g, 0, d, v, h, r => by
    simp only [RepL] at h
    obtain ⟨v0, vs', f1, f2, rfl, h1, h2, rfl⟩ := h
    refine ⟨g ++ f2, ?_, ?_⟩
    · simp only [List.set_cons_zero, RepL]
      exact ⟨v, vs', g, f2, rfl, r, h2, rfl⟩
    · refine ⟨f1, ?_⟩
      refine (List.perm_append_comm (l₁ := g ++ f2) (l₂ := f1)).trans ?_
      rw [List.append_assoc]
      exact List.Perm.append_left f1 List.perm_append_comm
  | d0 :: ds, vs, f, g, j + 1, d, v, h, r => by
    simp only [RepL] at h
    obtain ⟨v0, vs', f1, f2, rfl, h1, h2, rfl⟩ := h
    obtain ⟨f', h3, hs⟩ := RepL.setAt (j := j) h2 r
    refine ⟨f1 ++ f', ?_, ?_⟩
    · simp only [List.set_cons_succ, RepL]
      exact ⟨v0, vs'.set j v, f1, f', rfl, h1, h3, rfl⟩
    · rw [List.append_assoc]
      exact SubP.app hs f1
theorem own_slot {i : Nat} {xs : List D} (S : Sta K B lk F H σ ρ fps ts) (e : getE ρ i = some (.lst true xs)) : ∃ a vs f, σ[i]? = some (some (.ref a)) ∧ H a = some (.lst vs) ∧ RepL K F H xs vs f ∧ fps.getD i [] = a :: f := by
  obtain ⟨v, e1, r⟩ := S.slots i _ e
  simp only [Rep] at r
  obtain ⟨a, vs, f, rfl, h1, h2, h3⟩ := r
  exact ⟨a, vs, f, e1, h1, h2, h3⟩
theorem isOwnL_inv {o : Option D} (h : isOwnL o = true) : ∃ xs, o = some (.lst true xs) := by
  unfold isOwnL at h
  split at h
  · exact ⟨_, rfl⟩
  · cases h
theorem ts_app {i : Nat} {e : IE} (h : tS K Φ E lkN (.app i e) D' σ H) : tDrop (tBM K "list" rAppend (tVar i) (tCons (tI K Φ E e) tNil)) D' σ H := by
  obtain ⟨B, lk, F, ρ, fps, S, hl, o⟩ := h
  simp only [exS] at o
  split at o
  · rename_i h0
    obtain ⟨xs0, e0⟩ := isOwnL_inv h0
    rw [outS_of] at o
    obtain ⟨a, vs0, f0, hσ, hH0, _, _⟩ := own_slot S e0
    refine ⟨.ref a, hσ, .inl ⟨rfl, vs0, SqL.of hH0⟩, B, lk, F, ρ, fps, [], S, o.impX (fun _ _ _ => XS.xc) fun d ρ1 q v fp F1 H1 fps1 S1 => ?_⟩
    split at q
    · rename_i xs e1
      split at q
      · rename_i hz
        obtain ⟨a', vs, f, hσ', hH, rl, hf⟩ := own_slot S1 e1
        rw [hσ] at hσ'
        cases hσ'
        have hlen := RepL.length _ _ _ rl
        have r1 : Rep K F1 H1 d v fp := S1.temps _ (List.mem_cons_self ..)
        refine ⟨a, vs, v, rfl, rfl, hH, by rw [hlen, ← SZ_eq]; exact hz, ?_⟩
        refine q F1 _ σ _ (Sta.write (o := true) (f' := f ++ fp) S1 e1 hσ hH hf (fun H' hk => ?_) (SubP.refl _))
        refine RepL.app (RepL.mono (Same.refl _) _ _ _ (fun b hb => hk b (List.mem_append_left _ hb)) rl) ?_
        simp only [RepL]
        exact ⟨v, [], fp, [], rfl, Rep.mono (Same.refl _) _ _ _ (fun b hb => hk b (List.mem_append_right _ hb)) r1, ⟨rfl, rfl⟩, by simp⟩
      · exact q.elim
    · exact q.elim
  · exact o.elim
theorem ts_ext {i : Nat} {e : IE} (h : tS K Φ E lkN (.ext i e) D' σ H) : tDrop (tBM K "list" rExtend (tVar i) (tCons (tI K Φ E e) tNil)) D' σ H := by
  obtain ⟨B, lk, F, ρ, fps, S, hl, o⟩ := h
  simp only [exS] at o
  split at o
  · rename_i h0
    obtain ⟨xs0, e0⟩ := isOwnL_inv h0
    rw [outS_of] at o
    obtain ⟨a, vs0, f0, hσ, hH0, _, _⟩ := own_slot S e0
    refine ⟨.ref a, hσ, .inl ⟨rfl, vs0, SqL.of hH0⟩, B, lk, F, ρ, fps, [], S, o.impX (fun _ _ _ => XS.xc) fun d ρ1 q v fp F1 H1 fps1 S1 => ?_⟩
    split at q
    · rename_i xs ys e1
      split at q
      · rename_i hz
        obtain ⟨a', vs, f, hσ', hH, rl, hf⟩ := own_slot S1 e1
        rw [hσ] at hσ'
        cases hσ'
        have hlen := RepL.length _ _ _ rl
        have r1 : Rep K F1 H1 (.lst true ys) v fp := S1.temps _ (List.mem_cons_self ..)
        simp only [Rep] at r1
        obtain ⟨b, us, g, rfl, hHb, rb, rfl⟩ := r1
        have hlen2 := RepL.length _ _ _ rb
        refine ⟨a, b, vs, us, rfl, rfl, hH, hHb, by rw [hlen, hlen2, ← SZ_eq]; exact hz, ?_⟩
        refine q F1 _ σ _ (Sta.write (o := true) (f' := f ++ g) S1 e1 hσ hH hf (fun H' hk => ?_) ?_)
        · exact RepL.app (RepL.mono (Same.refl _) _ _ _ (fun b hb => hk b (List.mem_append_left _ hb)) rl) (RepL.mono (Same.refl _) _ _ _ (fun c hb => hk c (List.mem_append_right _ (List.mem_cons_of_mem _ hb))) rb)
        · exact SubP.app (SubP.right [b] g) f
      · exact q.elim
    · exact q.elim
  · exact o.elim
theorem ts_seti {i : Nat} {e ix : IE} (h : tS K Φ E lkN (.seti i e ix) D' σ H) : tAsg (tI K Φ E e) (gSub (tVar i) (tI K Φ E ix) rSetL) D' σ H := by
  obtain ⟨B, lk, F, ρ, fps, S, hl, o⟩ := h
  simp only [exS] at o
  rw [outS_of] at o
  refine ⟨B, lk, F, ρ, fps, [], S, o.impX (fun _ _ _ => XS.xc) fun d ρ1 q v fp F1 H1 fps1 S1 => ?_⟩
  split at q
  · rename_i h0
    obtain ⟨xs0, e0⟩ := isOwnL_inv h0
    rw [outS_of] at q
    obtain ⟨a, vs0, f0, hσ, hH0, _, _⟩ := own_slot S1 e0
    refine ⟨.ref a, hσ, B, lk, F1, ρ1, fps1, _, S1, q.impX (fun _ _ _ => XS.xc) fun k ρ2 q2 u gp F2 H2 fps2 S2 => ?_⟩
    split at q2
    · rename_i xs k e1
      split at q2
      · rename_i j ej
        obtain ⟨a', vs, f, hσ', hH, rl, hf⟩ := own_slot S2 e1
        rw [hσ] at hσ'
        cases hσ'
        have hlen := RepL.length _ _ _ rl
        have rk : Rep K F2 H2 (.int k) u gp := S2.temps _ (List.mem_cons_self ..)
        have eu := rep_int rk
        subst eu
        have S3 := S2.drop
        have r1 : Rep K F2 H2 d v fp := S3.temps _ (List.mem_cons_self ..)
        obtain ⟨f', rs, hsub⟩ := RepL.setAt (j := j) rl r1
        refine ⟨a, vs, k, j, rfl, rfl, hH, by rw [hlen]; exact ej, ?_⟩
        refine q2 F2 _ σ _ (Sta.write (o := true) (f' := f') S3 e1 hσ hH hf (fun H' hk => ?_) hsub)
        exact RepL.mono (Same.refl _) _ _ _ (fun b hb => hk b (hsub.mem hb)) rs
      · exact q2.elim
    · exact q2.elim
  · exact q.elim
theorem ts_aug {i : Nat} {sub : Bool} {e : IE} (h : tS K Φ E lkN (.aug i sub e) D' σ H) : tAug i (tI K Φ E e) (ipI fun a b => if sub then a - b else a + b) D' σ H := by
  obtain ⟨B, lk, F, ρ, fps, S, hl, o⟩ := h
  simp only [exS] at o
  split at o
  · rename_i a e0
    rw [outS_of] at o
    obtain ⟨v0, hσ, r0⟩ := S.slots i _ e0
    have ev0 := rep_int r0
    subst ev0
    refine ⟨_, hσ, B, lk, F, ρ, fps, [], S, o.impX (fun _ _ _ => XS.xc) fun d ρ1 q v fp F1 H1 fps1 S1 => ?_⟩
    split at q
    · rename_i b
      split at q
      · rename_i hc
        have r1 : Rep K F1 H1 (.int b) v fp := S1.temps _ (List.mem_cons_self ..)
        have ev := rep_int r1
        subst ev
        refine ⟨a, b, rfl, rfl, ?_⟩
        have S2 := S1.drop.pushS (d := .int (if sub = true then a - b else a + b)) (v := .int (if sub = true then a - b else a + b)) (by simp [Rep])
        exact q F1 H1 _ _ (S2.store hc.1 (fun p hp z => by rw [← z, hl p hp] at hc; exact absurd hc.2 (by simp)) fun t ht => nomatch ht)
      · exact q.elim
    · exact q.elim
  · exact o.elim
/-- a list's item, by values -/
def rGetL (K : PySem.W.Frag) : V → V → Hp → VK → Prop := fun o i H Q => ∃ p xs k x, o = .ref p ∧ i = .int k ∧ H p = some (.lst xs) ∧ atI xs k = some x ∧ Q x H
theorem ts_augi {i : Nat} {sub : Bool} {ix e : IE} (h : tS K Φ E lkN (.augi i sub ix e) D' σ H) : tAugS (tVar i) (tI K Φ E ix) (tI K Φ E e) (rGetL K) (ipI fun a b => if sub then a - b else a + b) rSetL D' σ H := by
  obtain ⟨B, lk, F, ρ, fps, S, hl, o⟩ := h
  simp only [exS] at o
  split at o
  · rename_i h0
    obtain ⟨xs0, e0⟩ := isOwnL_inv h0
    rw [outS_of] at o
    obtain ⟨a, vs0, f0, hσ, hH0, _, _⟩ := own_slot S e0
    refine ⟨.ref a, hσ, B, lk, F, ρ, fps, [], S, o.impX (fun _ _ _ => XS.xc) fun kd ρ1 q u gp F1 H1 fps1 S1 => ?_⟩
    split at q
    · rename_i xs k e1
      split at q
      · rename_i a0 ea
        rw [outS_of] at q
        obtain ⟨a', vs, f, hσ', hH, rl, hf⟩ := own_slot S1 e1
        rw [hσ] at hσ'
        cases hσ'
        have hlen := RepL.length _ _ _ rl
        have rk : Rep K F1 H1 (.int k) u gp := S1.temps _ (List.mem_cons_self ..)
        have eu := rep_int rk
        subst eu
        have eat : atI vs k = some (.int a0) := by
          unfold atI at ea ⊢
          rw [hlen]
          cases hj : ixN xs.length k with
          | none => rw [hj] at ea; cases ea
          | some j =>
            rw [hj] at ea
            obtain ⟨w, fw, e3, r3, _⟩ := RepL.get j rl ea
            have := rep_int r3
            subst this
            exact e3
        refine ⟨a, vs, k, .int a0, rfl, rfl, hH, eat, B, lk, F1, ρ1, fps1, _, S1.drop, q.impX (fun _ _ _ => XS.xc) fun d ρ2 q2 v fp F2 H2 fps2 S2 => ?_⟩
        split at q2
        · rename_i ys b e2
          split at q2
          · rename_i j ej
            have rb : Rep K F2 H2 (.int b) v fp := S2.temps _ (List.mem_cons_self ..)
            have ev := rep_int rb
            subst ev
            refine ⟨a0, b, rfl, rfl, ?_⟩
            obtain ⟨a'', us, g, hσ'', hH2, rl2, hf2⟩ := own_slot S2 e2
            rw [hσ] at hσ''
            cases hσ''
            have hlen2 := RepL.length _ _ _ rl2
            refine ⟨a, us, k, j, rfl, rfl, hH2, by rw [hlen2]; exact ej, ?_⟩
            have S3 := S2.drop.pushS (d := .int (if sub = true then a0 - b else a0 + b)) (v := .int (if sub = true then a0 - b else a0 + b)) (by simp [Rep])
            have r1 : Rep K F2 H2 (.int (if sub = true then a0 - b else a0 + b)) (.int (if sub = true then a0 - b else a0 + b)) [] := by simp [Rep]
            obtain ⟨f', rs, hsub⟩ := RepL.setAt (j := j) rl2 r1
            exact q2 F2 _ σ _ (Sta.write (o := true) (f' := f') S3 e2 hσ hH2 hf2 (fun H' hk => RepL.mono (Same.refl _) _ _ _ (fun b hb => hk b (hsub.mem hb)) rs) hsub)
          · exact q2.elim
        · exact q2.elim
      · exact q.elim
    · exact q.elim
  · exact o.elim
end Mi
end

section
set_option Elab.async false
set_option linter.all false
set_option maxRecDepth 100000
/-! A list that lies in a list of one's own, changed in its place. -/
namespace Mi
open PySem PySem.Spec PyProof.Rows L2
variable [LT] [Fr]
variable {K : PySem.W.Frag} {Φ : Fns} {E : XK} {B : Bs} {lk : List (Nat × V)} {F F' H H' : Hp} {σ : L2.St} {ρ : Env} {fps : List (List Addr)} {ts : List (V × Tm)} {Q : VK} {X : Cx} {lkN : List Nat} {D' : Ends}
mutual
def cntD : D → Nat
  | .lst true ds => cntL ds + 1
  | .lst false _ => 0
  | .tup ds => cntL ds
  | .non => 0
  | .bl _ => 0
  | .int _ => 0
  | .str _ => 0
  | .dct _ _ _ => 0
  | .scr _ => 0
  | .typ _ => 0
  | .cls _ => 0
  | .exc _ _ => 0
  | .clo _ _ => 0
def cntL : List D → Nat
  | [] => 0
  | d :: r => cntD d + cntL r
end
mutual
theorem Rep.cnt : ∀ (d : D) (v : V) (fp : List Addr), Rep K F H d v fp → fp.length = cntD d
  | .non, v, fp, h => by simp only [Rep] at h; rw [h.2]; rfl
  | .bl _, v, fp, h => by simp only [Rep] at h; rw [h.2]; rfl
  | .int _, v, fp, h => by simp only [Rep] at h; rw [h.2]; rfl
  | .str _, v, fp, h => by simp only [Rep] at h; rw [h.2]; rfl
  | .typ _, v, fp, h => by simp only [Rep] at h; rw [h.2]; rfl
  | .tup ds, v, fp, h => by
    simp only [Rep] at h
    obtain ⟨a, vs, e, hs, hl⟩ := h
    simp only [cntD]
    exact RepL.cnt ds vs fp hl
  | .lst true ds, v, fp, h => by
    simp only [Rep] at h
    obtain ⟨a, vs, fp', e, hs, hl, rfl⟩ := h
    simp only [cntD, List.length_cons]
    rw [RepL.cnt ds vs fp' hl]
  | .lst false ds, v, fp, h => by
    simp only [Rep] at h
    obtain ⟨a, vs, e, hs, hl, rfl⟩ := h
    rfl
  | .scr ds, v, fp, h => by
    simp only [Rep] at h
    obtain ⟨a, vs, e, hs, hl, rfl⟩ := h
    rfl
  | .cls _, v, fp, h => by simp only [Rep] at h; rw [h.2]; rfl
  | .dct _ _ _, _, _, h => by simp only [Rep] at h
  | .exc _ _, _, _, h => by simp only [Rep] at h; obtain ⟨_, _, _, _, _, _, _, e⟩ := h; rw [e]; rfl
  | .clo _ _, _, _, h => by simp only [Rep] at h; obtain ⟨_, _, _, _, _, _, _, _, _, _, _, _, _, _, e⟩ := h; rw [e]; rfl
theorem RepL.cnt : ∀ (ds : List D) (vs : List V) (fp : List Addr), RepL K F H ds vs fp → fp.length = cntL ds
  | [], vs, fp, h => by simp only [RepL] at h; rw [h.2]; rfl
  | d :: ds, vs, fp, h => by
    simp only [RepL] at h
    obtain ⟨v, vs', f1, f2, e, h1, h2, rfl⟩ := h
    simp only [cntL, List.length_append]
    rw [Rep.cnt d v f1 h1, RepL.cnt ds vs' f2 h2]
end
/-- the j-th item, a list of one's own: where it lies -/
theorem RepL.inner : ∀ {ds : List D} {vs : List V} {f : List Addr} {j : Nat} {ys : List D}, RepL K F H ds vs f → ds[j]? = some (.lst true ys) → ∃ b us g f1 f2, vs[j]? = some (.ref b) ∧ H b = some (.lst us) ∧ RepL K F H ys us g ∧ f = f1 ++ (b :: g) ++ f2 ∧ f1.length = cntL (ds.take j) ∧
    ∀ H' dn g', (∀ c ∈ f1 ++ f2, H' c = H c) → Rep K F H' dn (.ref b) g' → RepL K F H' (ds.set j dn) vs (f1 ++ g' ++ f2)
  | [], vs, f, j, ys, h, e => by simp at e
  | d :: ds, vs, f, 0, ys, h, e => by
    simp only [RepL] at h
    obtain ⟨v, vs', f1, f2, rfl, h1, h2, rfl⟩ := h
    have ed : d = .lst true ys := by simpa using e
    subst ed
    simp only [Rep] at h1
    obtain ⟨b, us, g, rfl, hb, hl, rfl⟩ := h1
    refine ⟨b, us, g, [], f2, rfl, hb, hl, by simp, rfl, fun H' dn g' hk r => ?_⟩
    simp only [List.set_cons_zero, RepL]
    exact ⟨.ref b, vs', g', f2, rfl, r, RepL.mono (Same.refl _) ds vs' f2 (fun c hc => hk c (by simpa using hc)) h2, by simp⟩
  | d :: ds, vs, f, j + 1, ys, h, e => by
    simp only [RepL] at h
    obtain ⟨v, vs', f1, f2, rfl, h1, h2, rfl⟩ := h
    obtain ⟨b, us, g, p1, p2, e1, hb, hl, ef, en, hr⟩ := RepL.inner (j := j) h2 (by simpa using e)
    refine ⟨b, us, g, f1 ++ p1, p2, by simpa using e1, hb, hl, by rw [ef]; simp, ?_, fun H' dn g' hk r => ?_⟩
    · simp only [List.take_succ_cons, cntL, List.length_append]
      rw [Rep.cnt d v f1 h1, en]
    · simp only [List.set_cons_succ, RepL]
      refine ⟨v, vs', f1, p1 ++ g' ++ p2, rfl, Rep.mono (Same.refl _) d v f1 (fun c hc => hk c (by simp [hc])) h1, hr H' dn g' (fun c hc => hk c ?_) r, by simp⟩
      rcases List.mem_append.mp hc with hc | hc <;> simp [hc]
/-- a value in flight goes back into the slot that still holds it -/
theorem Sta.putb {i : Nat} {d : D} {v : V} {fp : List Addr} (S : Sta K B lk F H σ ρ fps ((v, .own d fp) :: ts)) (hi : i < ρ.length) (hv : σ[i]? = some (some v)) : Sta K B lk F H σ (ρ.set i (some d)) (fps.set i fp) ts := by
  have hf : i < fps.length := by rw [S.lenF]; exact hi
  have r : Rep K F H d v fp := S.temps _ (List.mem_cons_self ..)
  refine ⟨?_, by simp [S.len], by simp [S.lenF], fun j d' e => ?_, fun t h => S.temps t (List.mem_cons_of_mem _ h), S.locks, S.tb, S.opn⟩
  · refine S.own.less ?_
    simp only [tfp, Tm.fp]
    rw [List.append_assoc]
    have h1 : (tfp ts ++ (fps.set i fp).flatten).Perm (fp ++ (tfp ts ++ (fps.set i []).flatten)) := by
      refine ((flat_set fps i fp hf).append_left (tfp ts)).trans ?_
      rw [← List.append_assoc, ← List.append_assoc]
      exact List.perm_append_comm.append_right _
    have h2 : SubP (fps.set i []).flatten fps.flatten := SubP.trans (SubP.right (fps.getD i []) _) (.of_perm (flat_split fps i hf).symm)
    exact SubP.trans (.of_perm h1) (SubP.app (SubP.app h2 (tfp ts)) fp)
  · by_cases hj : i = j
    · subst hj
      rw [getE_set_same hi] at e
      cases e
      rw [getD_set_same hf]
      exact ⟨v, hv, r⟩
    · rw [getE_set_ne hj] at e
      rw [getD_set_ne hj]
      exact S.slots j d' e
/-- an object that a slot holds is changed; the value in flight may be taken in -/
theorem Sta.writeG {i : Nat} {d d' e : D} {b : Addr} {us' : List V} {f' g : List Addr} {v : V} (S : Sta K B lk F H σ ρ fps ((v, .own e g) :: ts)) (hd : getE ρ i = some d) (hb : b ∈ fps.getD i [])
    (hr : ∀ v0, σ[i]? = some (some v0) → Rep K F (upd H b (.lst us')) d' v0 f') (hf : SubP f' (fps.getD i [] ++ g)) : Sta K B lk F (upd H b (.lst us')) σ (ρ.set i (some d')) (fps.set i f') ts := by
  have hl := getE_lt hd
  have hfl : i < fps.length := by rw [S.lenF]; exact hl
  have hperm : (tfp ((v, .own e g) :: ts) ++ fps.flatten).Perm ((fps.getD i [] ++ g) ++ (tfp ts ++ (fps.set i []).flatten)) := by
    simp only [tfp, Tm.fp]
    rw [List.append_assoc]
    refine ((S.drop.split hl).append_left g).trans ?_
    refine (List.perm_append_comm (l₁ := g) (l₂ := fps.getD i [] ++ (tfp ts ++ (fps.set i []).flatten))).trans ?_
    rw [List.append_assoc, List.append_assoc (fps.getD i []) g]
    refine List.Perm.append_left _ ?_
    exact List.perm_append_comm
  have o0 := S.own.perm hperm.symm
  have o1 := o0.write (a := b) (List.mem_append_left _ (List.mem_append_left _ hb)) us'
  have hn : ∀ c ∈ tfp ts ++ (fps.set i []).flatten, c ≠ b := fun c hc z => apart o0.nodup (List.mem_append_left _ hb) (z ▸ hc)
  have keepH : ∀ c ∈ tfp ts ++ (fps.set i []).flatten, upd H b (.lst us') c = H c := fun c hc => upd_ne (hn c hc)
  obtain ⟨v0, hv0, _⟩ := S.slots i d hd
  refine ⟨?_, by simp [S.len], by simp [S.lenF], fun j d e => ?_, fun t ht => ?_, S.locks, S.tb, S.opn⟩
  · refine o1.less (SubP.trans (m := f' ++ (tfp ts ++ (fps.set i []).flatten)) (.of_perm (((flat_set fps i f' hfl).append_left (tfp ts)).trans ?_)) (SubP.app2 hf _))
    rw [← List.append_assoc, ← List.append_assoc]
    exact List.perm_append_comm.append_right _
  · by_cases hj : i = j
    · subst hj
      rw [getE_set_same hl] at e
      cases e
      rw [getD_set_same hfl]
      exact ⟨v0, hv0, hr v0 hv0⟩
    · rw [getE_set_ne hj] at e
      rw [getD_set_ne hj]
      obtain ⟨w, e1, r⟩ := S.slots j d e
      refine ⟨w, e1, Rep.mono (Same.refl _) _ _ _ (fun c hc => keepH c (List.mem_append_right _ ?_)) r⟩
      rw [← getD_set_ne (i := i) (x := []) hj] at hc
      exact getD_mem hc
  · exact TmOk.mono (Same.refl _) (h := S.temps t (List.mem_cons_of_mem _ ht)) fun c hc => keepH c (List.mem_append_left _ (tfp_mem ht hc))
/-- two values in flight change places -/
theorem Sta.swap {t u : V × Tm} (S : Sta K B lk F H σ ρ fps (t :: u :: ts)) : Sta K B lk F H σ ρ fps (u :: t :: ts) := by
  refine ⟨S.own.perm ?_, S.len, S.lenF, S.slots, fun x hx => S.temps x ?_, S.locks, S.tb, S.opn⟩
  · simp only [tfp]
    rw [← List.append_assoc, ← List.append_assoc]
    exact (List.perm_append_comm.append_right _).append_right _
  · simp only [List.mem_cons] at hx ⊢
    rcases hx with h | h | h
    · exact .inr (.inl h)
    · exact .inl h
    · exact .inr (.inr h)
theorem ts_appi {i : Nat} {ix e : IE} (h : tS K Φ E lkN (.appi i ix e) D' σ H) : tDrop (tBM K "list" rAppend (tOp (rIxL K) (tVar i) (tI K Φ E ix)) (tCons (tI K Φ E e) tNil)) D' σ H := by
  obtain ⟨B, lk, F, ρ, fps, S, hl, o⟩ := h
  simp only [exS] at o
  split at o
  · rename_i h0
    obtain ⟨xs0, e0⟩ := isOwnL_inv h0
    rw [outS_of] at o
    obtain ⟨a, vs0, f0, hσ, hH0, _, _⟩ := own_slot S e0
    refine ⟨.ref a, hσ, B, lk, F, ρ, fps, [], S, o.impX (fun _ _ _ => XS.xc) fun kd ρ1 q u gp F1 H1 fps1 S1 => ?_⟩
    split at q
    · rename_i xs k e1
      split at q
      · rename_i j ej
        split at q
        · rename_i ys ey
          rw [outS_of] at q
          obtain ⟨a', vs, f, hσ', hH, rl, hf⟩ := own_slot S1 e1
          rw [hσ] at hσ'
          cases hσ'
          have hlen := RepL.length _ _ _ rl
          have rk : Rep K F1 H1 (.int k) u gp := S1.temps _ (List.mem_cons_self ..)
          have eu := rep_int rk
          subst eu
          obtain ⟨b, us, g, f1, f2, eb, hb, rb, ef, en, _⟩ := RepL.inner rl ey
          have eat : atI vs k = some (.ref b) := by
            unfold atI
            rw [hlen, ej]
            exact eb
          refine ⟨a, vs, k, .ref b, rfl, rfl, SqL.of hH, eat, .inl ⟨rfl, us, SqL.of hb⟩, ?_⟩
          obtain ⟨v1, hv1, S2⟩ := S1.drop.move e1
          rw [hσ] at hv1
          cases hv1
          refine ⟨B, lk, F1, _, _, _, S2, q.impX (fun _ _ _ => XS.xc) fun d ρ2 q2 v fp F3 H3 fps3 S3 => ?_⟩
          split at q2
          · rename_i hc
            have r3 : Rep K F3 H3 (.lst true xs) (.ref a) (fps1.getD i []) := S3.temps (.ref a, .own (.lst true xs) (fps1.getD i [])) (by simp)
            simp only [Rep] at r3
            obtain ⟨a3, vs3, f3, ea3, hH3, rl3, hf3⟩ := r3
            cases ea3
            obtain ⟨b3, us3, g3, p1, p2, eb3, hb3, rb3, ef3, en3, hr3⟩ := RepL.inner rl3 ey
            have eff : f = f3 := by
              rw [hf] at hf3
              exact (List.cons.inj hf3).2
            have ebb : b3 = b := by
              have z : (p1 ++ (b3 :: g3) ++ p2)[p1.length]? = (f1 ++ (b :: g) ++ f2)[f1.length]? := by
                rw [← ef, ← ef3, eff, en, en3]
              simpa using z
            subst ebb
            have hlen3 := RepL.length _ _ _ rb3
            have rd : Rep K F3 H3 d v fp := S3.temps _ (List.mem_cons_self ..)
            refine ⟨b3, us3, v, rfl, rfl, hb3, by rw [hlen3, ← SZ_eq]; exact hc.2, ?_⟩
            have S4 := Sta.putb (i := i) S3.swap hc.1 hσ
            have hg4 : getE (ρ2.set i (some (.lst true xs))) i = some (.lst true xs) := getE_set_same hc.1
            have hfl : i < fps3.length := by rw [S3.lenF]; exact hc.1
            have hget : (fps3.set i (fps1.getD i [])).getD i [] = a :: (p1 ++ (b3 :: g3) ++ p2) := by
              rw [getD_set_same hfl, hf3, ef3]
            have nd : ((a :: (p1 ++ (b3 :: g3) ++ p2)) ++ fp).Nodup := by
              have := S4.own.nodup
              have hp : (tfp [(v, Tm.own d fp)] ++ (fps3.set i (fps1.getD i [])).flatten).Perm (((a :: (p1 ++ (b3 :: g3) ++ p2)) ++ fp) ++ ((fps3.set i (fps1.getD i [])).set i []).flatten) := by
                simp only [tfp, Tm.fp, List.append_nil]
                refine ((flat_split _ i (by simpa using hfl)).append_left fp).trans ?_
                rw [hget, ← List.append_assoc]
                exact List.perm_append_comm.append_right _
              exact (List.nodup_append.mp (hp.nodup_iff.mp this)).1
            have hb_ne : ∀ c ∈ (a :: (p1 ++ p2)) ++ fp ++ g3, c ≠ b3 := by
              intro c hc2 z
              subst z
              have key : ∀ {l1 l2 : List Addr}, (a :: (p1 ++ (c :: g3) ++ p2) ++ fp).Nodup → c ∈ a :: (p1 ++ p2) ++ fp ++ g3 → False := by
                intro _ _ n m
                have n2 : (c :: (a :: (p1 ++ p2) ++ fp ++ g3)).Nodup := by
                  refine (List.Perm.nodup_iff ?_).mp n
                  simp only [List.cons_append, List.append_assoc]
                  refine (List.Perm.cons a (List.perm_middle (l₁ := p1))).trans ?_
                  refine (List.Perm.swap c a _).trans ?_
                  refine List.Perm.cons c (List.Perm.cons a ?_)
                  refine List.Perm.append_left p1 ?_
                  rw [← List.append_assoc p2 fp g3]
                  exact List.perm_append_comm
                exact (List.nodup_cons.mp n2).1 m
              exact key (l1 := []) (l2 := []) nd hc2
            have S6 := Sta.writeG (d' := .lst true (xs.set j (.lst true (ys ++ [d])))) (b := b3) (us' := us3 ++ [v]) (f' := a :: (p1 ++ (b3 :: (g3 ++ fp)) ++ p2)) S4 hg4 (by rw [hget]; simp) (fun v0 hv0 => ?_) ?_
            · rw [List.set_set] at S6
              exact q2 F3 _ σ _ S6
            · rw [hσ] at hv0
              cases hv0
              have keep : ∀ c ∈ (a :: (p1 ++ p2)) ++ fp ++ g3, upd H3 b3 (.lst (us3 ++ [v])) c = H3 c := fun c hc2 => upd_ne (hb_ne c hc2)
              simp only [Rep]
              refine ⟨a, vs3, p1 ++ (b3 :: (g3 ++ fp)) ++ p2, rfl, by rw [keep a (by simp)]; exact hH3, hr3 _ _ _ (fun c hc2 => keep c ?_) ?_, rfl⟩
              · rcases List.mem_append.mp hc2 with hc2 | hc2 <;> simp [hc2]
              · simp only [Rep]
                refine ⟨b3, us3 ++ [v], g3 ++ fp, rfl, upd_same, ?_, rfl⟩
                refine RepL.app (RepL.mono (Same.refl _) _ _ _ (fun c hc2 => keep c (by simp [hc2])) rb3) ?_
                simp only [RepL]
                exact ⟨v, [], fp, [], rfl, Rep.mono (Same.refl _) _ _ _ (fun c hc2 => keep c (by simp [hc2])) rd, ⟨rfl, rfl⟩, by simp⟩
            · rw [hget]
              refine .of_perm ?_
              simp only [List.cons_append, List.append_assoc]
              refine List.Perm.cons a (List.Perm.append_left p1 (List.Perm.cons b3 (List.Perm.append_left g3 ?_)))
              exact List.perm_append_comm
          · exact q2.elim
        · exact q.elim
      · exact q.elim
    · exact q.elim
  · exact o.elim
end Mi
end

section
set_option Elab.async false
set_option linter.all false
set_option maxRecDepth 100000
set_option maxHeartbeats 2000000
/-! An exception whose base class says super().__init__(value) and self.value = value. -/
namespace Mi
open PySem PySem.Spec PyProof.Rows PySem.Calls PySem.W

section
variable {prog : Program} {w : World} {A : Around} {s : Shared} {K : Frag} {mg mb : Str → Option Value} {R : Result → Shared → Prop}
theorem excLoc {M : Model} {E : Value → Shared → Prop} {env : PySem.Env} {m : Str → Option Value} {x : Str} {pos : Pos} {v : Value} {Q : Value → Shared → Prop} (hn : s.heap.Ns env.locals m) (hv : m x = some v) (h : Q v s)
    (hk : env.scope.kind = .function) (hl : env.kindOf x = some .local) (hd : (x == ("__debug__" : Str)) = false) : wpAny M A (eval (.Name x pos) env) Q E s := wpAny_Name (wpAny_loadName_local hk hl hn hv h) hd
/-- what the call of the base's __init__ asks of the written part -/
structure InitK (K : Frag) (mg : Str → Option Value) (prog : Program) (fI D cc cda : Addr) (fd : FuncData) (scope : Scope) (q : Str) (p1 p2 p3 p4 p5 p6 p7 p8 p9 p10 : Pos) : Prop where
  fn : ∃ oc od osl, K.lookup fI = some ⟨oc, od, .func fd, osl⟩
  body : fd.body = .stmts [.Expr (.Call (.Attribute (.Call (.Name "super" p1) [] [] p2) "__init__" p3) [.Name "value" p4] [] p5) p6, .Assign [.Attribute (.Name "self" p7) "value" p8] (.Name "value" p9) p10]
  sc : fd.scope = scope
  cl : fd.closure = [(("__class__" : Str), cc)]
  code : fd.code = .ref cda
  qn : fd.qualname = q
  gl : fd.globals = mainGlobals
  bl : fd.builtins = builtinsNs
  par : ∃ ar, (fd.params.posonlyargs ++ fd.params.args).head? = some ar ∧ ar.arg = "self"
  cdr : codeIn K (.ref cda) q = true
  cod : ∃ ccl cdd vs ccs file tf, K.lookup cda = some ⟨ccl, cdd, .fields vs, ccs⟩ ∧ vs[2]? = some (.str file tf) ∧ ((prog.main.file : Str) == file) = true
  cell : ∃ cl cld csl, K.lookup cc = some ⟨cl, cld, .cell (some (.ref D)), csl⟩
  cls : ∃ cdD, clsIn K D = some cdD
  kind : scope.kind = .function
  co : scope.isCoroutine = false
  gen : scope.isGenerator = false
  ncell : ∀ x ∈ scope.names, x.2 ≠ .cell
  sSelf : scope.names.lookup ("self" : Str) = some NameKind.«local»
  sVal : scope.names.lookup ("value" : Str) = some NameKind.«local»
  sSup : scope.names.lookup ("super" : Str) = some NameKind.globalImplicit
  sCls : scope.names.lookup ("__class__" : Str) = some NameKind.free
  top : (prog.main.scope.names.lookup ("super" : Str)).isSome = false
  mgS : mg "super" = none
  opq : nsIn K cStatics "thirdparty.any" = some none
/-- .. of the exception's class -/
structure ExcK (K : Frag) (C D : Addr) : Prop where
  cls : ∃ nm q N bs bm sn sub ab col dd k0 k1 k2 k3 k5, K.lookup C = some (excClassObj nm q C N bs bm true sn sub ab col dd k0 k1 k2 k3 k5 "ValueError.__new__") ∧ PySem.HandSPX.refsVE bm = true
  sa : findIn K (.ref C) "__setattr__" = some (some (.builtin "object.__setattr__"))
  sub : mroIn K C (.ref D) = some true
  sup : ks_superIn K C D "__init__" = some (some (.builtin "ValueError.__init__"))
  ve : subIn K (.ref C) (.type "ValueError") = some true
  noV : findIn K (.ref C) "value" = some none
theorem fire_init {fI C D cc cda e t0 : Addr} {fd : FuncData} {scope : Scope} {q : Str} {v : Value} {p1 p2 p3 p4 p5 p6 p7 p8 p9 p10 : Pos} (IK : InitK K mg prog fI D cc cda fd scope q p1 p2 p3 p4 p5 p6 p7 p8 p9 p10) (EK : ExcK K C D)
    {pl : Sem Bool} (hcall : ∀ env : PySem.Env, eval (.Call (.Attribute (.Call (.Name "super" p1) [] [] p2) "__init__" p3) [.Name "value" p4] [] p5) env = (do
      let ov ← attributeBase (.Call (.Name "super" p1) [] [] p2) "__init__" env (eval (.Call (.Name "super" p1) [] [] p2) env)
      standAt p3.atName
      let (f, first) ← holding [ov] (getMethod ov "__init__" pl)
      callWith p5 f first (backTo p5 (starEach [.Name "value" p4] env)) []))
    (X : K.In s.heap) (hmg : s.heap.Ns mainGlobals mg) (hmb : s.heap.Ns builtinsNs mb) (hbs : mb "super" = some (.type "super")) (hlim : s.heap.NoLimit) (hroom : A.depth < recursionLimit)
    (hbind : BindsTo s fd ⟨[.ref e, v], []⟩ [("self", .ref e), ("value", v)]) (he : s.heap.get? e = some (PySem.HandSPX.excO C t0)) (hKe : K.lookup e = none)
    (hR : ∀ h' d t1 tk', (∀ b o, b ≠ e → s.heap.get? b = some o → h'.get? b = some o) → s.heap.objs.size ≤ d → d ≠ e → h'.get? e = some { cls := .ref C, dict := some d, data := .fields #[.ref t1, .none, .none, .none, .bool false, .none] } →
      h'.Ns1 d (fun y => if y = "value" then some v else none) → R (.ok (.ret .none)) { s with heap := h', toks := tk' }) :
    codeAny (model prog w) A (.call (.ref fI) ⟨[.ref e, v], []⟩) R s := by
  obtain ⟨oc, od, osl, lk⟩ := IK.fn
  obtain ⟨ar, hp, har⟩ := IK.par
  obtain ⟨ccl, cdd, vs, ccs, file, tf, lkc, hvs, hfile⟩ := IK.cod
  obtain ⟨cl1, cld, csl, lkcell⟩ := IK.cell
  obtain ⟨cdD, hD⟩ := IK.cls
  have hcdr : s.heap.CodeRec fd.code fd.qualname := by rw [IK.code, IK.qn]; exact codeRec_of X IK.cdr
  refine ks_codeAny_call_defAt (fd := fd) (body := _) (binds := [("self", .ref e), ("value", v)]) hroom (X _ _ lk) rfl hlim hcdr IK.body hbind (by rw [IK.sc]; exact IK.ncell) (fun y hy => ?_) (fun h₁ hns₁ hk₁ => ?_) (by rw [IK.sc]; exact IK.co) (by rw [IK.sc]; exact IK.gen) (by rw [IK.sc]; exact IK.kind)
  · rw [IK.sc]
    simp only [List.mem_cons, List.not_mem_nil, or_false] at hy
    rcases hy with rfl | rfl
    · exact IK.sSelf
    · exact IK.sVal
  have hcl : (callEnv fd s.heap.objs.size fI).scope = scope := IK.sc
  have hL : (callEnv fd s.heap.objs.size fI).locals = s.heap.objs.size := rfl
  have kSelf : (callEnv fd s.heap.objs.size fI).kindOf ("self" : Str) = some NameKind.«local» := by show fd.scope.names.lookup _ = _; rw [IK.sc]; exact IK.sSelf
  have kVal : (callEnv fd s.heap.objs.size fI).kindOf ("value" : Str) = some NameKind.«local» := by show fd.scope.names.lookup _ = _; rw [IK.sc]; exact IK.sVal
  have kSup : (callEnv fd s.heap.objs.size fI).kindOf ("super" : Str) = some NameKind.globalImplicit := by show fd.scope.names.lookup _ = _; rw [IK.sc]; exact IK.sSup
  have kCls : (callEnv fd s.heap.objs.size fI).kindOf ("__class__" : Str) = some NameKind.free := by show fd.scope.names.lookup _ = _; rw [IK.sc]; exact IK.sCls
  have kKind : (callEnv fd s.heap.objs.size fI).scope.kind = .function := by rw [hcl]; exact IK.kind
  have nsv : (("self" : Str) == ("value" : Str)) = false := by decide +kernel
  have mS : (([("self", Value.ref e), ("value", v)] : List (Str × Value)).reverse.lookup ("self" : Str)) = some (.ref e) := by
    show (match (("self" : Str) == ("value" : Str)) with | true => some v | false => List.lookup ("self" : Str) [(("self" : Str), Value.ref e)]) = _
    rw [nsv]
    show (match (("self" : Str) == ("self" : Str)) with | true => some (Value.ref e) | false => none) = _
    rw [beq_self_eq_true]
  have mV : (([("self", Value.ref e), ("value", v)] : List (Str × Value)).reverse.lookup ("value" : Str)) = some v := by
    show (match (("value" : Str) == ("value" : Str)) with | true => some v | false => List.lookup ("value" : Str) [(("self" : Str), Value.ref e)]) = _
    rw [beq_self_eq_true]
  have X1 : K.In h₁ := X.keeps hk₁
  have ge1 : h₁.get? e = some (PySem.HandSPX.excO C t0) := hk₁ _ _ he
  obtain ⟨nm, q', N, bs, bm, sn, sub, ab, col, dd, k0, k1, k2, k3, k5, hC, hbm⟩ := EK.cls
  have hcl' : clsIn K C = some { name := nm, bases := bs, mro := .ref C :: bm, ns := N, qualname := q', hasDict := true, slotNames := sn, subclasses := sub, abstract := ab, collection := col, hasDel := false } := by unfold clsIn; rw [hC] <;> rfl
  obtain ⟨oD, hoD, hdD⟩ : ∃ oD, K.lookup D = some oD ∧ oD.data = .cls cdD := by
    unfold clsIn at hD
    split at hD
    · rename_i c d cd' sl ho
      cases hD
      exact ⟨_, ho, rfl⟩
    · cases hD
  have hint : interactive (callEnv fd s.heap.objs.size fI) = false := by unfold interactive; rw [hcl, IK.kind]; rfl
  refine ks_wpAt_execs_cons (ks_wpAt_Expr_any (ks_wpAt_MethodCall ?_ (hcall _)) hint)
  have hat : (("__init__" : Str) == ("__class__" : Str)) = false := by decide +kernel
  refine ks_wpAt_super_base kSup kCls hat rfl (X1 _ _ lk) rfl hp (show fd.code = _ from IK.code) (X1 _ _ lkc) rfl hvs hfile IK.top ?_
  have hmg1 : h₁.Ns (callEnv fd s.heap.objs.size fI).globals mg := by show h₁.Ns fd.globals mg; rw [IK.gl]; exact hmg.keeps hk₁
  have hmb1 : h₁.Ns (callEnv fd s.heap.objs.size fI).builtins mb := by show h₁.Ns fd.builtins mb; rw [IK.bl]; exact hmb.keeps hk₁
  refine ks_loadName_global kKind kSup (loadGlobal_builtin hmg1 IK.mgS hmb1 hbs ⟨rfl, ?_⟩)
  refine wpAny_loadName_free kKind kCls (show fd.closure.lookup ("__class__" : Str) = some cc by rw [IK.cl]; rfl) ⟨_, X1 _ _ lkcell, rfl⟩ ?_
  refine wpAny_loadName_local kKind (by rw [har]; exact kSelf) hns₁ (show _ = some (Value.ref e) by rw [har]; exact mS) ?_
  refine ks_wpAny_isType_cls (X1 _ _ hoD) hdD ⟨rfl, ?_⟩
  refine ks_wpAny_call_super (X1 _ _ hoD) hdD ge1 rfl (fun c z => by cases z) (looks_mroIn X1 EK.sub) (fun h2 e2 k2' => ?_)
  have X2 : K.In h2 := X1.keeps k2'
  have ge2 : h2.get? e = some (PySem.HandSPX.excO C t0) := k2' _ _ ge1
  have I2 : InstAt h2 e (PySem.HandSPX.excO C t0) C none := ⟨ge2, rfl, rfl, trivial⟩
  have hsup : alongIn K "__init__" (((Value.ref C :: bm).dropWhile (· != .ref D)).drop 1) = some (some (.builtin "ValueError.__init__")) := by
    have := EK.sup
    unfold ks_superIn at this
    rw [hcl'] at this
    exact this
  refine kxs_getMethod kxs_ValueError (K := K) (C := C) (D := D) (x := e) e2 (looks_opaque X2 IK.opq) (l₀ := .ref C :: bm) (fun A Q E s k q => wpAny_bind ((looks_clsIn X2 hcl') A _ E s k (wpAny_pure q))) rfl X2 hsup (I2.type.andThen (looks_subIn X2 EK.ve)) (ks_ne X2 I2 hcl') hat ?_
  have hns2 : h2.Ns s.heap.objs.size fun x => ([("self", Value.ref e), ("value", v)] : List (Str × Value)).reverse.lookup x := hns₁.keeps k2'
  have kp : ∀ b o, h2.get? b = some o → (h2.push (kxs_mw "ValueError.__init__" e)).get? b = some o := fun b o z => Heap.get?_push_of_some _ z
  refine kxs_callWith (i := "ValueError.__init__") (x := e) rfl (evalArgs_plain (spliced_cons (excLoc (hns2.keeps kp) mV (spliced_nil ⟨?_, ?_⟩) kKind kVal (by decide +kernel))))
  · exact Heap.get?_push_size _ rfl
  have ge3 := kp _ _ ge2
  have X3 := X2.keeps kp
  refine wpAny_call (codeAny_of_tree ?_)
  show wpAny _ _ (callAny (.ref h2.objs.size) ⟨[v], []⟩) _ _ _
  simp only [callAny]
  refine wpAny_bind (wpAny_load (Heap.get?_push_size _ rfl) ?_)
  simp only [kxs_mw, show (Value.type "method-wrapper" == Value.type "method" || Value.type "method-wrapper" == Value.type "builtin_function_or_method" || Value.type "method-wrapper" == Value.type "method-wrapper") = true by decide, if_true]
  refine KFB.if_so (by decide) ?_
  refine wpAny_bind (check_bound_init F.excBase_ValueError.toExcCallFacts (X3 _ _ hC) ge3 rfl ?_)
  refine wpAny_bind (wpAny_pure (wpAny_pure ?_))
  refine ⟨plainId_quiet F.excBase_ValueError.init.plain _, codeAny_builtin F.excBase_ValueError.initEntry ?_⟩
  refine exc_init_tree (cls := .ref C) (t0 := t0) (dv := none) (c2 := .none) (c3 := .none) (b4 := .bool false) ge3 (show 1 ≤ sizeLine by unfold sizeLine; decide) (fun h4 k4 e4 t4 => ?_)
  have hLe : s.heap.objs.size ≠ e := Nat.ne_of_gt (Heap.lt_size he)
  have hns4 : h4.Ns s.heap.objs.size fun x => ([("self", Value.ref e), ("value", v)] : List (Str × Value)).reverse.lookup x := by
    obtain ⟨o, es, ep, ho, r⟩ := hns2.keeps kp
    exact ⟨o, es, ep, k4 _ _ hLe ho, r⟩
  have eC : e ≠ C := ks_ne X2 I2 hcl'
  have X4 : K.In h4 := fun b o z => by
    refine k4 b o (fun y => ?_) (X3 b o z)
    subst y
    rw [hKe] at z
    cases z
  refine ks_wpAt_execs_cons (ks_wpAt_Assign_Attr (wpAt_of_wpAny (excLoc hns4 mV (excLoc hns4 mS ?_ kKind kSelf (by decide +kernel)) kKind kVal (by decide +kernel))))
  refine set_plain X4 (ox := { cls := .ref C, dict := none, data := .fields #[.ref _, .none, .none, .none, .bool false, .none] }) (od := none) ⟨e4, rfl, rfl, trivial⟩ EK.sa ?_
  refine PySem.HandSPX.exc_osa X4 e4 hcl' (show PySem.HandSPX.refsVE (.ref C :: bm) = true from hbm) rfl EK.noV (fun h' tk' dx k dn dne hx hn => ?_)
  have big : s.heap.objs.size ≤ dx := by
    obtain ⟨o, es, ep, ho, r⟩ := hns4
    exact Nat.le_trans (Nat.le_of_lt (Heap.lt_size ho)) dn
  have kall : ∀ b o, b ≠ e → s.heap.get? b = some o → h'.get? b = some o := fun b o hb z => k b o hb (k4 b o hb (kp _ _ (k2' _ _ (hk₁ _ _ z))))
  exact wpAt_of_wpAny (wpAny_pure (hR h' dx _ tk' kall big dne hx hn))
end
end Mi
end

section
set_option Elab.async false
set_option linter.all false
set_option maxRecDepth 100000
set_option maxHeartbeats 2000000
namespace L2
open PySem PySem.Spec PyProof.Rows Mi
/-- what the module knows of an exception class and its base's __init__ -/
structure FireC (K : PySem.W.Frag) (mg : Str → Option Value) (prog : Program) (C : Addr) : Prop where
  ek : ∃ fI D cc cda fd scope q p1 p2 p3 p4 p5 p6 p7 p8 p9 p10, InitK K mg prog fI D cc cda fd scope q p1 p2 p3 p4 p5 p6 p7 p8 p9 p10 ∧ ExcK K C D ∧ PySem.W.findIn K (.ref C) "__init__" = some (some (.ref fI)) ∧ PySem.W.typeIn K (.ref fI) = some (.type "function") ∧
    (∃ pl : Sem Bool, ∀ env : PySem.Env, eval (.Call (.Attribute (.Call (.Name "super" p1) [] [] p2) "__init__" p3) [.Name "value" p4] [] p5) env = (do
      let ov ← attributeBase (.Call (.Name "super" p1) [] [] p2) "__init__" env (eval (.Call (.Name "super" p1) [] [] p2) env)
      standAt p3.atName
      let (f, first) ← holding [ov] (getMethod ov "__init__" pl)
      callWith p5 f first (backTo p5 (starEach [.Name "value" p4] env)) [])) ∧
    ∀ (s : Shared) (e v : Value), BindsTo s fd ⟨[e, v], []⟩ [("self", e), ("value", v)]
  exC : PySem.W.subIn K (.ref C) (.type "BaseException") = some true
  tyC : PySem.W.typeIn K (.ref C) = some (.type "type")
  kC : PySem.W.keepIn K (.ref C) = true
def tFire (C : Addr) (ta : TA) : St → Hp → XK → Prop := fun σ H Q => ta σ H fun vs H1 => ∃ y, vs = [y] ∧ ∀ d, H1 d = none → Q (.ref C) (some d) (upd H1 d (.xd [("value", y)]))
section
variable {X : Cx} {x : Str} {C : Addr} {e : Expr} {ta : TA} {p pos : Pos}
theorem pmk_fire (T : FireC X.K X.mg X.prog C) (hr : Room 2 X.A) (hg : Gl X x) (hm : X.mg x = some (.ref C)) (ha : PA X [e] ta) (hdb : (x == ("__debug__" : Str)) = false) (he : starEach [e] X.env = (false, eval e X.env) :: starEach [] X.env) :
    PMk X (.Call (.Name x p) [e] [] pos) (tFire C ta) := by
  intro pins s σ H Q I h
  obtain ⟨fI, D, cc, cda, fd, scope, q, p1, p2, p3, p4, p5, p6, p7, p8, p9, p10, IK, EK, iC, tI, ⟨pl, hcall⟩, hbind⟩ := T.ek
  obtain ⟨nm, q', N, bs, bm, sn, sub, ab, col, dd, k0, k1, k2, k3, k5, hC, hbm⟩ := EK.cls
  refine wpAny_Call_Name_kw (ld_glob I hg hm ?_ hdb)
  refine PySem.W.callWith_K (h₀ := X.base) I.ok.mod.kin T.kC (thn (ha.run pos pins s σ H _ I h) fun us s1 ⟨vs, H1, I1, r1, y, ev, q1⟩ => ⟨I1.kIn, ?_⟩) he rfl
  subst ev
  show wpAny _ _ (call (.ref C) us) _ _ _
  obtain ⟨v, rfl, ry⟩ : ∃ v, us = [v] ∧ RelV y v := by
    cases r1 with
    | cons a b =>
      cases b
      exact ⟨_, rfl, a⟩
  obtain ⟨hp, g, dr, tk, os⟩ := s1
  have hsz : hp.objs.size ≤ hp.objs.size + 1 := Nat.le_succ _
  have hn : H1 (hp.objs.size + 1) = none := I1.hok.fresh hsz
  have kk : ∀ b o, hp.get? b = some o → ((hp.push (PySem.W.kdv_tup [v])).push (PySem.HandSPX.excO C hp.objs.size)).get? b = some o := fun b o e => Heap.get?_push_of_some _ (Heap.get?_push_of_some _ e)
  have hget : ((hp.push (PySem.W.kdv_tup [v])).push (PySem.HandSPX.excO C hp.objs.size)).get? (hp.objs.size + 1) = some (PySem.HandSPX.excO C hp.objs.size) := by heap_get
  have I2 : Inv X pins σ (upd H1 (hp.objs.size + 1) (exo (hp.objs.size + 1) C none)) ⟨(hp.push (PySem.W.kdv_tup [v])).push (PySem.HandSPX.excO C hp.objs.size), g, dr, tk, os⟩ :=
    I1.laid (t' := tk) (a := hp.objs.size + 1) (o := exo (hp.objs.size + 1) C none) (h' := (hp.push (PySem.W.kdv_tup [v])).push (PySem.HandSPX.excO C hp.objs.size)) kk hsz (exo_ok hget)
  have hKe : X.K.lookup (hp.objs.size + 1) = none := by
    cases z : X.K.lookup (hp.objs.size + 1) with
    | none => rfl
    | some o =>
      have := Heap.lt_size (I1.kIn _ _ z)
      exact absurd this (by show ¬ hp.objs.size + 1 < hp.objs.size; omega)
  obtain ⟨mb, hmb, hmb2⟩ := I2.ok.mod.blt
  refine wpAny_call (PySem.HandSPX.call_own F.excBase_ValueError (fun Y => PySem.HandSPX.refsVE_contains Y bm hbm) (I1.kIn _ _ hC) (PySem.W.looks_findIn I1.kIn iC) (fun self => PySem.W.bind_fn I1.kIn self tI) (show 1 ≤ sizeLine by unfold sizeLine; decide)
    (codeAny_mono (fire_init (R := fun r s' => r = .ok (.ret .none) ∧ ∃ h' d t1 tk', s' = ⟨h', g, dr, tk', os⟩ ∧ (∀ b o, b ≠ hp.objs.size + 1 → ((hp.push (PySem.W.kdv_tup [v])).push (PySem.HandSPX.excO C hp.objs.size)).get? b = some o → h'.get? b = some o) ∧ ((hp.push (PySem.W.kdv_tup [v])).push (PySem.HandSPX.excO C hp.objs.size)).objs.size ≤ d ∧ d ≠ hp.objs.size + 1 ∧
        h'.get? (hp.objs.size + 1) = some { cls := Value.ref C, dict := some d, data := .fields #[.ref t1, .none, .none, .none, .bool false, .none] } ∧ h'.Ns1 d (fun y => if y = "value" then some v else none))
      IK EK hcall I2.kIn (I2.ok.mod.glob.keeps I2.bk) (hmb.keeps I2.bk) ((hmb2 _ (by decide +kernel)).trans (by decide +kernel)) (I2.ok.mod.nolimit.keeps I2.bk) (hr.make C [v] []).depth (hbind _ _ _) hget hKe
      (fun h' d t1 tk' k1 k2 k3 k4 k5 => ⟨rfl, h', d, t1, tk', rfl, k1, k2, k3, k4, k5⟩)) fun r s' hq' => ?_))
  obtain ⟨rfl, h', d, t1, tk', rfl, k, dn, dne, hx, hns⟩ := hq'
  generalize hA : hp.objs.size + 1 = a at *
  generalize hH : (hp.push (PySem.W.kdv_tup [v])).push (PySem.HandSPX.excO C hp.objs.size) = hp2 at *
  have hnd : upd H1 a (exo a C none) d = none := I2.hok.fresh dn
  have hnd1 : H1 d = none := by rw [upd_ne dne] at hnd; exact hnd
  have e0 : upd H1 a (exo a C none) a = some (exo a C none) := upd_same
  have nd : ∀ {b : Addr} {o : Obj}, hp2.get? b = some o → b ≠ d := fun {b o} q => Nat.ne_of_lt (Nat.lt_of_lt_of_le (Heap.lt_size q) dn)
  have na : ∀ {b : Addr}, upd H1 a (exo a C none) b = none → b ≠ a := fun {b} n z => by
    rw [z, e0] at n
    cases n
  have Un1 : Un (frs X.stack) [] (upd H1 a (exo a C none)) (upd (upd (upd H1 a (exo a C none)) d (exd d [("value", y)])) a (exo a C (some d))) hp2 h' := {
    keep := fun b o q n _ _ => k b o (na n) q
    slot := fun b o q n _ _ => ⟨o.slots, k b o (na n) q⟩
    free := fun b o q n _ => by rw [upd_ne (na n), upd_ne (nd q)]; exact n
    there := fun b o q _ => by
      by_cases hb : b = a
      · exact ⟨_, by rw [hb]; exact hx⟩
      · exact ⟨o, k b o hb q⟩
    tups := fun b xs q => by rw [upd_ne (at_ne e0 q exo_tup), upd_ne (ne_of_none q hnd)]; exact q
    frzs := fun b o v q => by rw [upd_ne (at_ne e0 q exo_frz), upd_ne (ne_of_none q hnd)]; exact q
    tbls := fun b ps q => ⟨#[], by rw [upd_ne (at_ne e0 q exo_tbl), upd_ne (ne_of_none q hnd), q]; simp⟩ }
  have hok2 : HOk X.prog X.w (upd (upd (upd H1 a (exo a C none)) d (exd d [("value", y)])) a (exo a C (some d))) h' := fun b o q => by
    by_cases hb : b = a
    · subst hb
      rw [upd_same] at q
      cases q
      exact exo_ok hx
    · rw [upd_ne hb] at q
      by_cases hd : b = d
      · subst hd
        rw [upd_same] at q
        cases q
        exact exd_ok hns (relO_put (fs := []) ry fun g => True.intro)
      · rw [upd_ne hd] at q
        exact (I2.hok b o q).stay (fun c v hc z => k c v (by
            rcases hc with hc | hc
            · rw [hc]
              exact hb
            · exact at_ne e0 hc exo_own) z)
          (fun c hc => by rw [upd_ne (at_ne e0 hc exo_own), upd_ne (ne_of_none hc hnd)]; exact hc) (fun c xs hc => by rw [upd_ne (at_ne e0 hc exo_tup), upd_ne (ne_of_none hc hnd)]; exact hc)
  have hdel : upd (del (upd (upd (upd H1 a (exo a C none)) d (exd d [("value", y)])) a (exo a C (some d))) a) d (.xd [("value", y)]) = upd H1 d (.xd [("value", y)]) := by
    funext b
    by_cases hd : b = d
    · subst hd; rw [upd_same, upd_same]
    · rw [upd_ne hd, upd_ne hd]
      by_cases hb : b = a
      · subst hb; rw [del_same]; exact hn.symm
      · rw [del_ne hb, upd_ne hb, upd_ne hd, upd_ne hb]
  exact ⟨rfl, mk_end (raises_own T.exC T.tyC) I1 hsz (fun b o q => kk b o q) Un1 hok2 rfl I1.bare upd_same (by rw [upd_ne dne]; exact upd_same) hnd1 (by rw [hdel]; exact q1 d hnd1)⟩
end
end L2
end

section
set_option Elab.async false
set_option linter.all false
set_option maxRecDepth 100000
/-! raise C(e) -/
namespace Mi
open PySem PySem.Spec PyProof.Rows L2
variable [LT] [Fr]
variable {K : PySem.W.Frag} {Φ : Fns} {E : XK} {B : Bs} {lk : List (Nat × V)} {F F' H H' : Hp} {σ : L2.St} {ρ : Env} {fps : List (List Addr)} {ts : List (V × Tm)} {Q : VK} {X : Cx} {lkN : List Nat} {D' : Ends} {all : List Addr}
theorem newF_nt {p : Addr} {u : HO} (hu : ¬ Hard u) : ∀ b w, Hard w → upd F p u b = some w → F b = some w := fun b w hw z => by
  by_cases q : b = p
  · subst q; rw [upd_same] at z; cases z; exact absurd hw hu
  · rw [upd_ne q] at z; exact z
/-- a thing that stays is made -/
theorem OwnOk.newF (o : OwnOk B F H all) {p : Addr} (hp : H p = none) (u : HO) (hu : ∀ ps, u ≠ .tbl ps) : OwnOk B (upd F p u) (upd H p u) all := by
  have e := Same.none o.sub hp
  have := o.grow (F' := upd F p u) (H' := upd H p u) (fp := []) (same_upd e) (same_upd hp) (fun b u z => by
    by_cases q : b = p
    · subst q; rw [upd_same] at z ⊢; exact z
    · rw [upd_ne q] at z ⊢; exact o.sub b u z) (fun _ h => nomatch h) .nil (fun b u z => by
    by_cases q : b = p
    · subst q; exact .inr hp
    · rw [upd_ne q] at z; exact .inl z) (fun _ h => nomatch h) (fun b ps z => by
    by_cases q : b = p
    · subst q; rw [upd_same] at z; cases z; exact absurd rfl (hu ps)
    · rw [upd_ne q] at z; exact z)
  simpa using this
theorem ts_raise {c : String} {e : IE} (h : tS K Φ E lkN (.raise c e) D' σ H) : tFire (He.ga K (PySem.Str.ofString c)) (tCons (tI K Φ E e) tNil) σ H fun cls d H' => E cls d H' := by
  obtain ⟨B, lk, F, ρ, fps, S, hl, o⟩ := h
  simp only [exS] at o
  rw [outS_of] at o
  refine ⟨B, lk, F, ρ, fps, [], S, o.impX (fun _ _ _ => XS.xc) fun d ρ1 q v fp F1 H1 fps1 S1 => ⟨v, rfl, fun dx hdx => ?_⟩⟩
  cases ho : d.own with
  | true => rw [ho] at q; exact q.elim
  | false =>
    rw [ho] at q
    have r : Rep K F1 H1 d v fp := S1.temps _ (List.mem_cons_self ..)
    have efp := Rep.noOwn d v fp ho r
    subst efp
    have hF := same_upd (Same.none S1.own.sub hdx) (o := HO.xd [("value", v)])
    have hH := same_upd hdx (o := HO.xd [("value", v)])
    have S2 := Sta.mono (all := []) S1.drop hF (fun a ha => live_keep S1.drop.own hH ha) (S1.drop.own.newF hdx _ (fun _ z => nomatch z)) (newF_nt (fun z => z))
    exact q σ _ _ _ _ fps1 S2 ⟨rfl, dx, v, rfl, upd_same, Rep.mono hF d v [] (fun a ha => nomatch ha) r⟩
end Mi
end

section
set_option Elab.async false
set_option linter.all false
set_option maxRecDepth 100000
/-! a, b = x, y; keyword calls; operands split. -/
namespace Mi
open PySem PySem.Spec PyProof.Rows L2
variable [LT] [fr : Fr]
variable {K : PySem.W.Frag} {Φ : Fns} {E : XK} {B : Bs} {lk : List (Nat × V)} {F F' H H' : Hp} {σ : L2.St} {ρ : Env} {fps : List (List Addr)} {ts : List (V × Tm)} {Q : VK} {X : Cx} {lkN : List Nat} {D' : Ends}

def setL : L2.St → List Nat → List V → L2.St
  | σ, i :: is, v :: vs => setL (σ.set i (some v)) is vs
  | σ, _, _ => σ
def tParN (is : List Nat) (ta : TA) : TS := fun D σ H => ta σ H fun vs H1 => vs.length = is.length ∧ vs.length ≤ sizeLine ∧ D.nx (setL σ is.reverse vs.reverse) H1
theorem par_go (hN : X.N.Nodup) {pins : List (Addr × Obj)} : ∀ (ns : List Str) (is : List Nat) (us : List Value) (vs : List V) (σ : L2.St) (s : Shared), Inv X pins σ H s → Vals vs us → is.length = ns.length → us.length = ns.length →
    (∀ (j : Nat) n, ns[j]? = some n → ∃ i, is[j]? = some i ∧ X.N[i]? = some n ∧ X.env.scope.names.lookup n = some .local) → ∀ (Q : Unit → Shared → Prop), (∀ s', Inv X pins (setL σ is vs) H s' → Q () s') →
    wpAny (model X.prog X.w) X.A (assignInOrder (ns.map fun n => bindName X.env n) us) Q X.xe s
  | [], is, us, vs, σ, s, I, r, hi, hu, hn, Q, hq => by
    obtain rfl : is = [] := List.eq_nil_of_length_eq_zero hi
    obtain rfl : us = [] := List.eq_nil_of_length_eq_zero hu
    cases r
    exact assignInOrder_nil (hq s (by simpa [setL] using I))
  | n :: ns, is, us, vs, σ, s, I, r, hi, hu, hn, Q, hq => by
    match is, us, r, hi, hu, hn, hq with
    | i :: is, u :: us, r, hi, hu, hn, hq =>
      cases r with
      | @cons v _ vs _ rv rr =>
      obtain ⟨i', e1, e2, e3⟩ := hn 0 n rfl
      have e1 : i = i' := by simpa using e1
      subst e1
      refine assignInOrder_cons (wpAny_bindName (store_ok I hN e2 (.inl e3) rv (fun s2 I2 => ?_) (.inr e3)))
      exact par_go hN ns is us vs _ s2 I2 rr (by simpa using hi) (by simpa using hu) (fun j n hj => by
        obtain ⟨i, h1, h2⟩ := hn (j + 1) n (by simpa using hj)
        exact ⟨i, by simpa using h1, h2⟩) Q fun s' I' => hq s' (by simpa [setL] using I')
theorem ps_parN {is : List Nat} {ns : List Str} {ts vs : List Expr} {ta : TA} {pt : Pos} {kt k2 : Nat} {pt2 pos : Pos} (hc : X.calm = true) (hN : X.N.Nodup) (hl : is.length = ns.length) (hl2 : vs.length = ns.length) (hnm : ∀ (j : Nat) n, ns[j]? = some n → ∃ i, is[j]? = some i ∧ X.N[i]? = some n ∧ X.env.scope.names.lookup n = some .local)
    (ha : PA X vs ta) (hw : swappedStores [.Tuple ts kt pt] (.Tuple vs k2 pt2) X.env = pure (some ns)) (hs : swapsWithSole [.Tuple ts kt pt] (.Tuple vs k2 pt2) pos.line X.env = pure false) :
    PS X (.Assign [.Tuple ts kt pt] (.Tuple vs k2 pt2) pos) (tParN is ta) := by
  refine ⟨fun pins s σ H D I h => ?_⟩
  rw [exec_Assign_arm]
  refine wpAny_bind (wpAny_standAt ?_)
  rw [hs]
  refine wpAny_bind (wpAny_pure ?_)
  rw [if_neg (by decide)]
  refine wpAny_bind (wpAny_Tuple_spliced (thn (ha.run _ pins s σ H _ I h) fun us s1 ⟨xs, H1, I1, r1, hn, hz, q1⟩ => ⟨by rw [← r1.length]; exact hz, ?_⟩))
  have I2 : Inv X pins σ H1 { s1 with heap := s1.heap.push { cls := .type "tuple", data := .seq us.toArray } } := I1.kept (t' := s1.toks) fun b o e => Heap.get?_push_of_some _ e
  rw [hw]
  refine wpAny_bind (wpAny_pure ?_)
  have hlen : us.length = ns.length := by rw [← r1.length, hn, hl]
  show wpAny (model X.prog X.w) X.A (do rule "assign.swapped-stores"; let items ← unpackItems (.ref s1.heap.objs.size) ns.length none; assignInOrder (ns.reverse.map fun n => bindName X.env n) items.reverse; pure Flow.next) _ _ _
  have en : ns.length = us.toArray.size := by simp [hlen]
  rw [en]
  refine wpAny_bind (wpAny_rule (wpAny_bind (unpackItems_tuple (items := us.toArray) (I.ok.hd hc) (IsTup.new s1.heap _) fun h' hx' => ?_)))
  have I3 := I2.kept (h' := h') (t' := s1.toks) fun b o e => hx' b o (Nat.ne_of_lt (Heap.lt_size e)) e
  refine wpAny_bind (par_go (H := H1) hN ns.reverse is.reverse us.reverse xs.reverse σ _ I3 r1.reverse (by simpa using hl) (by simpa using hlen) (fun j n hj => ?_) _ fun s' I' => wpAny_pure ⟨_, H1, I', q1⟩)
  have hj2 : j < ns.length := by
    have := (List.getElem?_eq_some_iff.mp hj).1
    simpa using this
  rw [List.getElem?_reverse hj2] at hj
  obtain ⟨i, h1, h2⟩ := hnm _ n hj
  refine ⟨i, ?_, h2⟩
  rw [List.getElem?_reverse (by omega), hl]
  exact h1
theorem parE_vals : ∀ {is : List Nat} {os : List OV} {ρ ρ2 : Env}, parE lkN is os ρ = some ρ2 → is.length = os.length ∧ ∀ o ∈ os, ∃ d, o = .val d
  | [], [], ρ, ρ2, h => ⟨rfl, fun _ h => nomatch h⟩
  | i :: is, .val d :: os, ρ, ρ2, h => by
    simp only [parE] at h
    split at h
    · cases h
    · split at h
      · obtain ⟨h1, h2⟩ := parE_vals h
        exact ⟨by simp [h1], fun o ho => by
          rcases List.mem_cons.mp ho with rfl | ho
          · exact ⟨d, rfl⟩
          · exact h2 o ho⟩
      · cases h
  | [], _ :: _, ρ, ρ2, h => by simp [parE] at h
  | _ :: _, [], ρ, ρ2, h => by simp [parE] at h
  | _ :: _, .ref _ :: _, ρ, ρ2, h => by simp [parE] at h
theorem vals_noRefs : ∀ {os : List OV} {tms : List (V × Tm)}, OvsIs os tms → (∀ o ∈ os, ∃ d, o = .val d) → NoRefs tms
  | [], [], _, _ => fun _ h => nomatch h
  | o :: os, t :: tms, hi, hv => fun u hu j => by
    rcases List.mem_cons.mp hu with rfl | hu
    · obtain ⟨d, rfl⟩ := hv o (List.mem_cons_self ..)
      obtain ⟨fp, e⟩ := hi.1
      rw [e]; intro z; cases z
    · exact vals_noRefs hi.2 (fun o ho => hv o (List.mem_cons_of_mem _ ho)) u hu j
  | [], _ :: _, h, _ => h.elim
  | _ :: _, [], h, _ => h.elim
theorem par_sta : ∀ {is : List Nat} {os : List OV} {tms : List (V × Tm)} {ρ ρ2 : Env} {σ : L2.St} {fps : List (List Addr)}, Lks lk lkN → OvsIs os tms → Sta K B lk F H σ ρ fps (tms ++ []) → parE lkN is os ρ = some ρ2 → ∃ fps', Sta K B lk F H (setL σ is (tms.map (·.1))) ρ2 fps' []
  | [], [], [], ρ, ρ2, σ, fps, hl, hi, S, h => by
    simp only [parE] at h
    cases h
    exact ⟨fps, by simpa [setL] using S⟩
  | i :: is, .val d :: os, t :: tms, ρ, ρ2, σ, fps, hl, hi, S, h => by
    have hv := (parE_vals h).2
    have nr := vals_noRefs hi.2 (fun o ho => hv o (List.mem_cons_of_mem _ ho))
    simp only [parE] at h
    split at h
    · cases h
    · rename_i hc
      split at h
      · rename_i hlt
        obtain ⟨fp, e⟩ := hi.1
        obtain ⟨v, tm⟩ := t
        cases e
        have S' : Sta K B lk F H σ ρ fps ((v, .own d fp) :: (tms ++ [])) := S
        have S1 := S'.store hlt (fun p hp z => hc (z ▸ hl p hp)) (fun t ht => by
          rw [List.append_nil] at ht
          exact nr t ht i)
        obtain ⟨fps', S2⟩ := par_sta hl hi.2 S1 h
        exact ⟨fps', by simpa [setL] using S2⟩
      · cases h
  | [], _ :: _, _, ρ, ρ2, σ, fps, hl, hi, S, h => by simp [parE] at h
  | _ :: _, [], _, ρ, ρ2, σ, fps, hl, hi, S, h => by simp [parE] at h
  | _ :: _, .ref _ :: _, _, ρ, ρ2, σ, fps, hl, hi, S, h => by simp [parE] at h
  | [], [], _ :: _, ρ, ρ2, σ, fps, hl, hi, S, h => hi.elim
  | _ :: _, .val _ :: _, [], ρ, ρ2, σ, fps, hl, hi, S, h => hi.elim
theorem OvsIs.reverse {os : List OV} {tms : List (V × Tm)} (h : OvsIs os tms) : OvsIs os.reverse tms.reverse := by
  induction os generalizing tms with
  | nil => cases tms with
    | nil => trivial
    | cons _ _ => exact h.elim
  | cons o os ih => cases tms with
    | nil => exact h.elim
    | cons t tms =>
      rw [List.reverse_cons, List.reverse_cons]
      exact OvsIs.app (ih h.2) ⟨h.1, trivial⟩
theorem ts_par {is : List Nat} {es : List IE} (h : tS K Φ E lkN (.par is es) D' σ H) : tParN is (tOs K Φ E es) D' σ H := by
  obtain ⟨B, lk, F, ρ, fps, S, hl, o⟩ := h
  simp only [exS] at o
  rw [outS_of] at o
  refine ⟨B, lk, F, ρ, fps, [], S, o.impX (fun _ _ _ => XS.xc) fun os ρ1 q tms F1 H1 fps1 hi S1 => ?_⟩
  split at q
  · rename_i hz
    cases e : parE lkN is.reverse os.reverse ρ1 with
    | none => rw [e] at q; exact q.elim
    | some ρ2 =>
      rw [e] at q
      have hlen := (parE_vals e).1
      have hl2 := hi.length
      rw [List.length_reverse, List.length_reverse] at hlen
      obtain ⟨fps', S2⟩ := par_sta hl hi.reverse S1 e
      refine ⟨by simp; omega, by simp only [List.length_map, ← SZ_eq]; omega, ?_⟩
      rw [← List.map_reverse]
      exact q F1 H1 _ fps' S2
  · exact q.elim
/-! ### an item of a list, by values -/
theorem pget_list : PGet X (rGetL X.K) := by
  intro pins s σ H o i ov iv Q I rx ry h
  obtain ⟨p, xs, i, z, rfl, rfl, hq, he, q⟩ := h
  cases rx
  obtain ⟨t, rfl⟩ := ry
  obtain ⟨its, r, pl, hz⟩ := I.list (SqL.of hq)
  obtain ⟨j, h1, h2, h3, h4, h5⟩ := atI_get he
  obtain ⟨w, ew, rw'⟩ := r.get h2
  have hl := r.length
  have hn := line63
  have fin : EP X pins σ Q w s := ⟨z, H, I, rw', q⟩
  by_cases h0 : 0 ≤ i
  · have hj : i.toNat = j := by
      rw [seqIndex_of h0 h5] at h1
      exact Option.some.inj h1
    exact wpAny_getItem_list pl.isList h0 (by omega) (by rw [hj]; simpa using ew) fin
  · have hj : (i + (its.toArray.size : Int)).toNat = j := by
      rw [seqIndex_neg (by omega) h4] at h1
      rw [List.size_toArray, ← hl]
      exact Option.some.inj h1
    exact wpAny_getItem_list_neg pl.isList (by omega) (by rw [List.size_toArray] <;> omega) (by omega) (by rw [hj]; simpa using ew) fin
/-! ### operands split -/
theorem evs_app (Φ : Fns) : ∀ (as bs : List IE) (ρ : Env), evs Φ (as ++ bs) ρ = (evs Φ as ρ).bind fun os ρ1 => (evs Φ bs ρ1).bind fun os2 ρ2 => .ok (os ++ os2) ρ2
  | [], bs, ρ => by
    simp only [List.nil_append, evs]
    show _ = (evs Φ bs ρ).bind _
    cases evs Φ bs ρ <;> rfl
  | a :: as, bs, ρ => by
    rw [List.cons_append, evs_cons, evs_cons a as]
    cases evs Φ [a] ρ with
    | ok o ρ1 =>
      simp only [R.bind]
      rw [evs_app Φ as bs ρ1]
      cases evs Φ as ρ1 with
      | ok os ρ2 =>
        simp only [R.bind]
        cases evs Φ bs ρ2 with
        | ok os2 ρ3 => simp only [R.bind, List.append_assoc]
        | exc _ _ _ => rfl
        | stk => rfl
      | exc _ _ _ => rfl
      | stk => rfl
    | exc _ _ _ => rfl
    | stk => rfl
theorem t_app {as bs : List IE} {Q : List V → Hp → Prop} (h : tOs K Φ E (as ++ bs) σ H Q) : tOs K Φ E as σ H fun vs H1 => tOs K Φ E bs σ H1 fun zs H2 => Q (vs ++ zs) H2 := by
  obtain ⟨B, lk, F, ρ, fps, ts, S, o⟩ := h
  rw [evs_app, out_bind] at o
  refine ⟨B, lk, F, ρ, fps, ts, S, o.imp fun os ρ1 q tms F1 H1 fps1 hi S1 => ?_⟩
  rw [out_bind] at q
  refine ⟨B, lk, F1, ρ1, fps1, tms.reverse ++ ts, S1, q.imp fun os2 ρ2 q2 tms2 F2 H2 fps2 hi2 S2 => ?_⟩
  have := q2 (tms ++ tms2) F2 H2 fps2 (hi.app hi2) (by simpa using S2)
  simpa using this
/-! ### keyword calls -/
theorem wrep_at : ∀ {ds : List D} {vs : List V} {i : Nat}, WRepL K F H ds vs → ownL ds = false → (hi : i < ds.length) → ∃ v, vs[i]? = some v ∧ Rep K F H (ds[i]'hi) v []
  | [], _, i, _, _, hi => by simp at hi
  | d :: ds, [], i, w, _, _ => w.elim
  | d :: ds, v :: vs, 0, w, ho, hi => by
    simp only [ownL, Bool.or_eq_false_iff] at ho
    obtain ⟨fp, r⟩ := w.1
    exact ⟨v, rfl, Rep.nil ho.1 r⟩
  | d :: ds, v :: vs, i + 1, w, ho, hi => by
    simp only [ownL, Bool.or_eq_false_iff] at ho
    obtain ⟨v', e, r⟩ := wrep_at w.2 ho.2 (i := i) (by simpa using hi)
    exact ⟨v', by simpa using e, by simpa using r⟩
theorem permL_rep : ∀ {perm : List Nat} {ds : List D} {vs : List V}, WRepL K F H ds vs → ownL ds = false → (∀ i ∈ perm, i < ds.length) → RepP K F H (permL perm ds) (permL perm vs) (List.replicate perm.length [])
  | [], ds, vs, _, _, _ => trivial
  | i :: perm, ds, vs, w, ho, hp => by
    have hi := hp i (List.mem_cons_self ..)
    have ih := permL_rep w ho fun j hj => hp j (List.mem_cons_of_mem _ hj)
    obtain ⟨v, e2, r⟩ := wrep_at w ho hi
    have e1 : ds[i]? = some (ds[i]'hi) := by simp [hi]
    simp only [permL, List.filterMap_cons, e1, e2]
    exact ⟨r, ih⟩
theorem flat_rep : ∀ n : Nat, (List.replicate n ([] : List Addr)).flatten = []
  | 0 => rfl
  | n + 1 => by simp [List.replicate_succ, flat_rep n]
section
local instance iFr0_Mi12_1 : Fr := Fr0
theorem o_callK {f : Nat} {perm : List Nat} {vs : List V} (hcl : fr = Fr0) (h : OpsAt K E (fun os ρ1 => match getAll ρ1 os with
    | some ds => if ownL ds then .stk else match permD perm ds with
      | some ds' => match Φ f ds' with
        | .ok d _ => .ok d ρ1
        | .exc c d _ => .exc c d ρ1
        | .stk => .stk
      | none => .stk
    | none => .stk) σ Q vs H) : spI K Φ f (permL perm vs) H Q E := by
  subst hcl
  obtain ⟨B, lk, F, ρ, fps, ts, os, tms, rfl, hi, S, o⟩ := h
  cases e : getAll ρ os with
  | none => simp only [e] at o; exact o.elim
  | some ds =>
    simp only [e] at o
    split at o
    · exact o.elim
    · rename_i ho
      have ho : ownL ds = false := by simpa using ho
      unfold permD at o
      split at o
      · rename_i ds' e2
        split at e2
        · rename_i hp
          cases e2
          have hp : ∀ i ∈ perm, i < ds.length := fun i hi => by simpa using List.all_eq_true.mp hp i hi
          have w := S.wrepsR hi e
          have rp := permL_rep w ho hp
          refine ⟨F, _, _, S.own.sub, rp, by rw [flat_rep]; exact .nil, fun a ha => (by rw [flat_rep] at ha; cases ha), ⟨S.own.tabs S.tb, S.own.nof, S.closed rfl⟩, ?_⟩
          have ow : OwnOk B F H ([] ++ (tfp ts ++ fps.flatten)) := S.drops.own
          cases eΦ : Φ f (permL perm ds) with
          | stk => rw [eΦ] at o; exact o.elim
          | exc c d as =>
            rw [eΦ] at o
            have o : XC K E B lk σ c d ρ := o
            intro cls dx F' H' fps' O cF rx rp'
            rw [flat_rep] at O
            obtain ⟨ow', keep, hF⟩ := ow.call O
            exact o cls dx F' H' fps (Sta.drops (us := ts) (by simpa using Sta.mono0 S.drops hF keep (ow'.less (SubP.right _ _)) fun f LF e pm ctv q => .inl (cF f LF e pm ctv q))) rx
          | ok d as =>
            rw [eΦ] at o
            intro v F' H' fp fps' O cF r rp'
            rw [flat_rep] at O
            obtain ⟨ow', keep, hF⟩ := ow.call O
            refine o v fp F' H' fps (Sta.pushOwn (Sta.mono0 S.drops hF keep (ow'.less (SubP.right _ _)) fun f LF e pm ctv q => .inl (cF f LF e pm ctv q)) (ow'.less ?_) r)
            exact SubP.app2 (SubP.left fp fps'.flatten) _
        · cases e2
      · exact o.elim
end
end Mi
end

section
set_option Elab.async false
set_option linter.all false
set_option maxRecDepth 100000
/-! What a def promises where no guard stands; calls; the law's end. -/
namespace Mi
open PySem PySem.Spec PyProof.Rows L2

theorem deeper_guards {A : Around} (env : PySem.Env) (h : A.guards = some []) : (A.deeper env).guards = some [] := h
structure FnG (P : Program) (w : World) (K : PySem.W.Frag) (mg : Str → Option Value) (base : Heap) (CX : CXT) (k : Nat) (f : Addr) (fd : FuncData) (ps : List Str) (sp : Sp) : Prop where
  len : ∀ vs H Q E, sp vs H Q E → vs.length = ps.length
  run : ∀ (A : Around) (outer : List PySem.Env) (s : Shared) (H : Hp) (args : Args) (us : List Value) (vs : List V) (Q : VK) (E : XK), Room k A → A.guards = some [] → Env0 P w K mg base A outer s H → BindsTo s fd args (ps.zip us) → Vals vs us → sp vs H Q E →
    codeAny (model P w) A (.call (.ref f) args) (CR CX outer P w H s Q E) s
theorem fn_ofG {CX : CXT} {P : Program} {w : World} {K : PySem.W.Frag} {mg : Str → Option Value} {base : Heap} {k : Nat} {f : Addr} {name qual : Str} {params : Arguments} {body : List Stmt} {scope : Scope} {dV kV doc pm cdv ct oc : Value} {an od : Option Addr}
    {osl : Array (Option Value)} {N ps : List Str} {sp : Sp} (lk : K.lookup f = some ⟨oc, od, .func (PySem.W.fnOf name qual params body scope dV kV doc pm an cdv ct), osl⟩) (hcd : PySem.W.codeIn K cdv qual = true) (S : FnScope N ps scope)
    (len : ∀ vs H Q E, sp vs H Q E → vs.length = ps.length)
    (hbody : ∀ (A : Around) (outer : List PySem.Env) (s : Shared) (H : Hp) (vs : List V) (Q : VK) (E : XK), Room k (A.deeper (envOfC qual scope s.heap.objs.size f cdv)) → A.guards = some [] → sp vs H Q E →
      ∃ t, PSs (cxOf CX P w K mg base N qual scope f cdv A outer s H E) body t ∧ t { nx := fun _ H' => Q .non H', rt := Q } (start N vs) H) :
    FnG P w K mg base CX (k + 1) f (PySem.W.fnOf name qual params body scope dV kV doc pm an cdv ct) ps sp where
  len := len
  run := fun A outer s H args us vs Q E hr hg e0 hb r hsp => by
    have inH : K.In s.heap := e0.mod.kin.keeps fun b o e => (e0.bs b o e).1
    have lim := e0.mod.nolimit.keeps fun b o e => (e0.bs b o e).1
    refine codeAny_call_function hr.depth (inH _ _ lk) rfl S.co S.gen rfl (PySem.W.codeRec_of inH hcd) (hb _ _ _ _ ?_)
    refine wpAny_newFunctionEnv_cells S.kind (fun y hy => (S.par y.1 (List.of_mem_zip hy).1).imp_right fun q => ⟨q, PySem.W.cellsFrom_some _ _ _ (.inl q)⟩) fun env he s1 x => ?_
    subst he
    obtain ⟨t, ht, hq⟩ := hbody A outer s H vs Q E (hr.deeper _) hg hsp
    refine ⟨lim.keeps x.toInCall.keep, codeAny_func (wpAny_mono (ht.run [] s1 (start N vs) H _ (inv_start S hr.hd e0 (len _ _ _ _ hsp) r x) hq) (fun fl s' hs => ?_) fun _ _ hs => hs)⟩
    match fl, hs with
    | .ret u, ⟨v, _, H', J, rv, q⟩ => exact ⟨v, H', J.os, J.bare, J.base, J.hok, rv, q⟩
    | .next, ⟨_, H', J, q⟩ => exact ⟨V.non, H', J.os, J.bare, J.base, J.hok, rfl, q⟩
    | .brk, ⟨_, _, _, q⟩ => exact q.elim
    | .cont, ⟨_, _, _, q⟩ => exact q.elim
section
variable {X : Cx} {CX : CXT} {k : Nat} {f : Addr} {fd : FuncData} {ps ks : List Str} {sp : Sp} {E : XK} {x : Str} {p pos : Pos} {e : Expr} {es : List Expr} {kws : List Keyword} {t tk : TA}
/-- the callee runs -/
theorem run_g {pins : List (Addr × Obj)} {σ : L2.St} {H : Hp} {s : Shared} {Q : VK} {args : Args} {us : List Value} {vs : List V} (G : FnG X.prog X.w X.K X.mg X.base CX k f fd ps sp) (hr : Room k X.A) (hg : X.A.guards = some []) (hx : Passes CX X E)
    (I : Inv X pins σ H s) (hb : BindsTo s fd args (ps.zip us)) (r : Vals vs us) (h : sp vs H Q E) : codeAny (model X.prog X.w) X.A (.call (.ref f) args) (fun r s' => match r with
      | .ok (.ret u) => EP X pins σ Q u s'
      | .ok _ => False
      | .error e => X.xe e s') s := by
  refine codeAny_mono (G.run X.A X.stack s H args us vs Q E hr hg I.env0 hb r h) fun r s' hq => ?_
  match r, hq with
  | .error e, hq => exact hx pins σ H s e s' I hq
  | .ok (.ret u), hq => exact I.after hq
theorem call_end' {pins : List (Addr × Obj)} {σ : L2.St} {s : Shared} {Q : VK} {us : List Value} {kw : List (Str × Value)} (h : codeAny (model X.prog X.w) X.A (.call (.ref f) ⟨us, kw⟩) (fun r s' => match r with
      | .ok (.ret u) => EP X pins σ Q u s'
      | .ok _ => False
      | .error e => X.xe e s') s) : wpAny (model X.prog X.w) X.A (call (.ref f) us kw) (EP X pins σ Q) X.xe s := by
  refine wpAny_call (codeAny_mono h fun r s' hq => ?_)
  match r, hq with
  | .error e, hq => exact hq
  | .ok (.ret u), hq => exact hq
/-- f(e, ..) -/
theorem pe_callG (G : FnG X.prog X.w X.K X.mg X.base CX k f fd ps sp) (hr : Room k X.A) (hgd : X.A.guards = some []) (hg : Gl X x) (hm : X.mg x = some (.ref f)) (hk : PySem.W.keepIn X.K (.ref f) = true) (hb : ∀ us : List Value, us.length = ps.length → bindArgs fd ⟨us, []⟩ = pure (ps.zip us)) (hx : Passes CX X E)
    (ha : PA X (e :: es) t) (hdb : (x == ("__debug__" : Str)) = false) (he : starEach (e :: es) X.env = (false, eval e X.env) :: starEach es X.env) (hpl : (backTo pos (starEach es X.env)).any (·.1) = false) :
    PE X (.Call (.Name x p) (e :: es) [] pos) (fun σ H Q => t σ H fun vs H1 => sp vs H1 Q E) := by
  refine ⟨fun pins s σ H Q I h => ?_⟩
  refine wpAny_Call_Name_kw (ld_glob I hg hm ?_ hdb)
  refine PySem.W.callWith_K (h₀ := X.base) I.ok.mod.kin hk (thn (ha.run pos pins s σ H _ I h) fun us s1 ⟨vs, H1, I1, r, q⟩ => ⟨I1.kIn, ?_⟩) he hpl
  refine call_end' (run_g G hr hgd hx I1 (.of_eq (hb us ?_)) r q)
  rw [← r.length]
  exact G.len _ _ _ _ q
/-- f(k = v, ..) -/
theorem pe_callKG (G : FnG X.prog X.w X.K X.mg X.base CX k f fd ps sp) (hr : Room k X.A) (hgd : X.A.guards = some []) (hg : Gl X x) (hm : X.mg x = some (.ref f)) (hk : PySem.W.keepIn X.K (.ref f) = true) {perm : List Nat} (hb : ∀ us : List Value, us.length = ks.length → bindArgs fd ⟨[], ks.zip us⟩ = pure (ps.zip (permL perm us))) (hx : Passes CX X E)
    (hkw : PK X kws tk) (hn : ∀ σ H (Q : List V → Hp → Prop), tk σ H Q → tk σ H fun vs H1 => vs.length = ks.length ∧ Q vs H1) (hall : (backToKw pos (keywordEach kws X.env)).all (·.1.isSome) = true) (hks : (backToKw pos (keywordEach kws X.env)).filterMap (·.1) = ks)
    (hdb : (x == ("__debug__" : Str)) = false) (hpl : ((backTo pos (starEach [] X.env)).any (·.1) || (backToKw pos (keywordEach kws X.env)).any (·.1.isNone)) = false) :
    PE X (.Call (.Name x p) [] kws pos) (fun σ H Q => tk σ H fun vs H1 => sp (permL perm vs) H1 Q E) := by
  refine ⟨fun pins s σ H Q I h => ?_⟩
  refine wpAny_Call_Name_kw (ld_glob I hg hm ?_ hdb)
  refine PySem.W.callWith_KW0 (h₀ := X.base) I.ok.mod.kin hk hall ?_ hpl
  refine thn (hkw.run pos pins s σ H _ I (hn σ H _ h)) fun us s1 ⟨vs, H1, I1, r, hl, q⟩ => ⟨I1.kIn, ?_⟩
  rw [hks]
  exact call_end' (run_g G hr hgd hx I1 (.of_eq (hb us (by rw [← r.length]; exact hl))) (vals_perm perm r) q)
where
  vals_perm : ∀ (perm : List Nat) {vs : List V} {us : List Value}, Vals vs us → Vals (permL perm vs) (permL perm us)
    | [], vs, us, r => .nil
    | i :: perm, vs, us, r => by
      have ih := vals_perm perm r
      simp only [permL, List.filterMap_cons]
      cases e : vs[i]? with
      | none =>
        have : us[i]? = none := by
          rw [List.getElem?_eq_none_iff] at e ⊢
          rw [← r.length]
          exact e
        rw [this]
        exact ih
      | some v =>
        obtain ⟨u, e2, rv⟩ := r.get e
        rw [e2]
        exact .cons rv ih
end
/-! ### the law's own call -/
section
variable {P : Program} {w : World} {K : PySem.W.Frag} {mg mb : Str → Option Value} {CX : CXT} {k : Nat} {fa a : Addr} {fd : FuncData} {x : Str} {sp : Sp} {s₁ : Shared} {vs : List Value} {ns : List Int}
/-- the abstract heap at the law's entry: the script alone, unless the module knows it -/
def scrH (K : PySem.W.Frag) (a : Addr) (vs : List Value) (ns : List Int) : Hp := fun b => if b = a ∧ K.lookup a = none then some (.frz { cls := .type "list", data := .seq vs.toArray } (.lst (ns.map V.int))) else none
theorem scrH_some {b : Addr} {o : HO} (h : scrH K a vs ns b = some o) : b = a ∧ K.lookup a = none ∧ o = .frz { cls := .type "list", data := .seq vs.toArray } (.lst (ns.map V.int)) := by
  unfold scrH at h
  split at h
  · rename_i c
    exact ⟨c.1, c.2, (Option.some.inj h).symm⟩
  · cases h
theorem scrH_only : Only (scrH K a vs ns) := fun b => by
  cases e : scrH K a vs ns b with
  | none => exact .inl rfl
  | some o => exact .inr ⟨_, _, by rw [(scrH_some e).2.2]⟩
theorem scrH_seq (KX : K.In s₁.heap) (ha : s₁.heap.get? a = some { cls := .type "list", data := .seq vs.toArray }) (hi : IntsAre vs ns) (hl : ns.length ≤ sizeLine) : SqL K (scrH K a vs ns) a (ns.map V.int) := by
  cases hk : K.lookup a with
  | none => exact .inl (.inr ⟨_, if_pos ⟨rfl, hk⟩⟩)
  | some o =>
    have e := KX a o hk
    rw [ha] at e
    cases e
    exact .inr ⟨_, vs.toArray, _, hk, rfl, rfl, rfl, by rw [List.size_toArray, hi.length]; exact hl, by simpa using vals_ints hi⟩
theorem scrH_ok (ha : s₁.heap.get? a = some { cls := .type "list", data := .seq vs.toArray }) (hi : IntsAre vs ns) (hl : ns.length ≤ sizeLine) : HOk P w (scrH K a vs ns) s₁.heap := fun b o e => by
  obtain ⟨rfl, _, rfl⟩ := scrH_some e
  exact ⟨ha, by rw [List.length_map]; exact hl, vs, _, vals_ints hi, ha⟩
/-- .. and the empty tables of the defs that make lambdas -/
def tabH (K : PySem.W.Frag) (a : Addr) (vs : List Value) (ns : List Int) (cs : List (Addr × Addr)) : Hp := fun b => if b ∈ cs.map (·.2) then some (.tbl #[]) else scrH K a vs ns b
theorem tabH_out {cs : List (Addr × Addr)} {b : Addr} (h : b ∉ cs.map (·.2)) : tabH K a vs ns cs b = scrH K a vs ns b := if_neg h
theorem tabH_in {cs : List (Addr × Addr)} {b : Addr} (h : b ∈ cs.map (·.2)) : tabH K a vs ns cs b = some (.tbl #[]) := if_pos h
abbrev tobj : Obj := { cls := .none, data := .fields #[] }
/-- where the tables are, at the law's entry -/
structure TabsIn (K : PySem.W.Frag) (mg : Str → Option Value) (cs : List (Addr × Addr)) (h : Heap) : Prop where
  emp : ∀ p ∈ cs, h.get? p.2 = some tobj
  non : ∀ p ∈ cs, K.lookup p.2 = none
  hd : ∀ p ∈ cs, PySem.W.CodeHd h p.1 p.2
  bm : ∃ m o, mg "__builtins__" = some (.ref m) ∧ m ≠ builtinsNs ∧ h.get? m = some o ∧ o.cls = .type "module" ∧ o.dict = some builtinsNs ∧ o.data = .plain
/-- the law's def, called on the script -/
theorem law_callT {cs : List (Addr × Addr)} (KX : K.In s₁.heap) (hns : s₁.heap.Ns mainGlobals mg) (hb : s₁.heap.Ns builtinsNs mb) (hbb : ∀ x : Str, x ≠ "__name__" → mb x = bootBuiltins x) (hlim : s₁.heap.NoLimit) (hg : s₁.gens = #[]) (tI : TabsIn K mg cs s₁.heap)
    (ha : s₁.heap.get? a = some { cls := .type "list", data := .seq vs.toArray }) (hi : IntsAre vs ns) (hl : ns.length ≤ sizeLine) (hr : Room k callerA)
    (F : ∀ base : Heap, K.In base → base.Ns mainGlobals mg → (∀ p ∈ cs, LamX.TabB base mg p.1 p.2) → FnG P w K mg base CX k fa fd [x] sp) (hbind : ∀ (s : Shared) (u : Value), BindsTo s fd ⟨[u], []⟩ [(x, u)])
    (hsp : ∀ H : Hp, (∀ p ∈ cs, H p.2 = some (.tbl #[])) → SqL K H a (ns.map V.int) → sp [.ref a] H (fun v _ => v = .bl true) fun _ _ _ => False)
    (hCX : ∀ H e s', CX [] H s₁ (fun _ _ _ => False) e s' → False) :
    codeAny (model P w) callerA (.call (.ref fa) ⟨[.ref a], []⟩) (fun r s' => r = .ok (.ret (.bool true)) ∧ OldK s₁.heap s'.heap ∧ s'.os = s₁.os ∧ AllBare s'.gens) s₁ := by
  generalize hT1 : tabH K a vs ns cs = T1
  have tE : ∀ b, b ∈ cs.map (·.2) → s₁.heap.get? b = some tobj := fun b hm => by
    obtain ⟨p, hp, rfl⟩ := List.mem_map.mp hm
    exact tI.emp p hp
  have aN : a ∉ cs.map (·.2) := fun hm => by
    have z := tE a hm
    rw [ha] at z
    cases z
  -- what is neither script nor table is not tracked
  have free : ∀ {b : Addr} {o : Obj}, s₁.heap.get? b = some o → b ∉ cs.map (·.2) → (b = a → o ≠ { cls := .type "list", data := .seq vs.toArray } ∨ ∃ u, K.lookup a = some u) → T1 b = none := fun {b o} e hm h => by
    rw [← hT1, tabH_out hm]
    cases q : scrH K a vs ns b with
    | none => rfl
    | some u =>
      obtain ⟨rfl, hn, _⟩ := scrH_some q
      rcases h rfl with h | ⟨u, h⟩
      · rw [ha] at e; exact absurd (Option.some.inj e).symm h
      · rw [hn] at h; cases h
  have freeD : ∀ {b : Addr} {o : Obj}, s₁.heap.get? b = some o → (∀ ws n, o.data ≠ .seq ws n) → o.data ≠ .fields #[] → T1 b = none := fun {b o} e h1 h2 => free e (fun hm => by
    rw [tE b hm] at e
    exact h2 (by rw [← Option.some.inj e])) fun _ => .inl fun z => h1 vs.toArray _ (congrArg Obj.data z)
  have nsK : ∀ {b : Addr} {m : Str → Option Value}, s₁.heap.Ns b m → (hidT s₁.heap T1).Ns b m := fun {b m} ⟨o, es, ep, e, d, r⟩ => ⟨o, es, ep, hidT_get e (freeD e (fun ws n z => by rw [d] at z; cases z) fun z => by rw [d] at z; cases z), d, r⟩
  have KB : K.In (hidT s₁.heap T1) := fun b o e => hidT_get (KX b o e) (free (KX b o e) (fun hm => by
    obtain ⟨p, hp, rfl⟩ := List.mem_map.mp hm
    rw [tI.non p hp] at e
    cases e) fun z => .inr ⟨o, z ▸ e⟩)
  have hok : HOk P w T1 s₁.heap := fun b o e => by
    by_cases hm : b ∈ cs.map (·.2)
    · rw [← hT1, tabH_in hm] at e
      cases e
      exact tE b hm
    · rw [← hT1, tabH_out hm] at e
      obtain ⟨rfl, _, rfl⟩ := scrH_some e
      exact ⟨ha, by rw [List.length_map]; exact hl, vs, _, vals_ints hi, ha⟩
  have tb : ∀ p ∈ cs, LamX.TabB (hidT s₁.heap T1) mg p.1 p.2 := fun p hp => by
    refine ⟨?_, ?_, fun z => ?_⟩
    · obtain ⟨o, us, y1, y2, y3, y4, y5, y6, y7, e1, r1, r2, r3, rest⟩ := tI.hd p hp
      exact ⟨o, us, y1, y2, y3, y4, y5, y6, y7, hidT_get e1 (freeD e1 (fun ws n z => by rw [r2] at z; cases z) fun z => by rw [r2] at z; cases z; simp at r3), r1, r2, r3, rest⟩
    · obtain ⟨m, o, b1, b2, b3, b4, b5, b6⟩ := tI.bm
      refine ⟨m, o, b1, b2, fun q => ?_, fun q => ?_, hidT_get b3 (freeD b3 (fun ws n z => by rw [b6] at z; cases z) fun z => by rw [b6] at z; cases z), b4, b5, b6⟩
      · obtain ⟨o', es, ep, e, hd, _⟩ := hns
        rw [← q, b3] at e
        cases e
        rw [b6] at hd
        cases hd
      · rw [q, tI.emp p hp] at b3
        cases b3
        cases b6
    · obtain ⟨o', es, ep, e, hd, _⟩ := hns
      rw [z, tI.emp p hp] at e
      cases e
      cases hd
  obtain ⟨mc, l1, l2⟩ := hlim
  have e0 : Env0 P w K mg (hidT s₁.heap T1) callerA [] s₁ T1 :=
    ⟨rfl, ⟨KB, nsK hns, ⟨mb, nsK hb, hbb⟩, mc, nsK l1, l2⟩, fun b o e => of_hidT e, Nat.le_of_eq (hidT_size _ _), trivial, fun b hb => (nomatch hb), hok, .of_eq hg⟩
  have sq : SqL K T1 a (ns.map V.int) := by
    rcases scrH_seq (vs := vs) KX ha hi hl with (z | ⟨o, z⟩) | z
    · exact .inl (.inl (by rw [← hT1, tabH_out aN]; exact z))
    · exact .inl (.inr ⟨o, by rw [← hT1, tabH_out aN]; exact z⟩)
    · exact .inr z
  refine codeAny_mono ((F _ KB (nsK hns) tb).run callerA [] s₁ T1 ⟨[.ref a], []⟩ [.ref a] [.ref a] _ _ hr rfl e0 (hbind s₁ (.ref a)) (.cons rfl .nil) (hsp T1 (fun p hp => by rw [← hT1]; exact tabH_in (List.mem_map.mpr ⟨p, hp, rfl⟩)) sq)) fun r s' h => ?_
  match r, h with
  | .error e, h => exact (hCX _ e s' h).elim
  | .ok (.ret u), ⟨v, H', os, bare, un, hok', r', q⟩ =>
    have q : v = .bl true := q
    subst q
    have r' : u = Value.bool true := r'
    subst r'
    have same : ∀ b o, b ∉ cs.map (·.2) → s₁.heap.get? b = some o → s'.heap.get? b = some o := fun b o hm e => by
      cases q : T1 b with
      | none => exact un.keep b o e q (fun z => nomatch z) (fun z => nomatch z)
      | some u =>
        have q0 := q
        rw [← hT1, tabH_out hm] at q0
        obtain ⟨_, _, rfl⟩ := scrH_some q0
        have e1 := (hok b _ q).1
        rw [e] at e1
        cases e1
        exact (hok' b _ (un.frzs b _ _ q)).1
    have more : ∀ b, b ∈ cs.map (·.2) → ∃ (c : Addr) (xs : Array Value), (c, b) ∈ cs ∧ s'.heap.get? b = some { cls := .none, data := .fields xs } := fun b hm => by
      obtain ⟨p, hp, rfl⟩ := List.mem_map.mp hm
      obtain ⟨xs, z⟩ := un.tbls p.2 #[] (by rw [← hT1]; exact tabH_in hm)
      exact ⟨p.1, _, hp, hok' p.2 _ z⟩
    refine ⟨rfl, ⟨fun b o e => ?_, fun b o e => ?_⟩, os, bare⟩
    · by_cases hm : b ∈ cs.map (·.2)
      · obtain ⟨c, xs, hc, z⟩ := more b hm
        rw [tE b hm] at e
        cases e
        exact .inr (.inl ⟨((tI.hd _ hc).tab (tE b hm)).isCodeTable, rfl, #[], xs, rfl, by rw [Array.empty_append]; exact z⟩)
      · exact .inl (same b o hm e)
    · by_cases hm : b ∈ cs.map (·.2)
      · obtain ⟨c, xs, hc, z⟩ := more b hm
        exact ⟨_, z⟩
      · exact ⟨o, same b o hm e⟩
end
/-- the text's defs, their tables empty -/
def TabAt (q : Program) (mg : Str → Option Value) (h : Heap) : Prop := ∀ d ∈ recsOf q, ∃ a o fd c P, mg d.name = some (.ref a) ∧ h.get? a = some o ∧ o.data = .func fd ∧ fd.code = .ref c ∧ PySem.W.CodeHd h c P ∧ (∃ oc vs, h.get? c = some oc ∧ oc.data = .fields vs ∧ vs[11]? = some (.ref P)) ∧ h.get? P = some tobj
/-- the law, from its def's promise -/
theorem walk_ofT {l : PySem.W.OpenLaw} {n k : Nat} {q : Program} {loose : List Str} {XP : (Str → Option Value) → Heap → Prop} {YP : World → Heap → Prop} {d : DefRec} {CX : World → CXT} {x : Str}
    (hn : l.most = some n) (hn2 : n ≤ sizeLine) (hdf : d.params.defaults = []) (hr : Room k callerA)
    (F : ∀ (w : World) (mg : Str → Option Value) (fa : Addr) (h : Heap), YP w h → h.Ns mainGlobals mg → mg d.name = some (.ref fa) → TabAt q mg h →
      (∃ m o, mg "__builtins__" = some (.ref m) ∧ m ≠ builtinsNs ∧ h.get? m = some o ∧ o.cls = .type "module" ∧ o.dict = some builtinsNs ∧ o.data = .plain) →
      ∃ (K : PySem.W.Frag) (fd : FuncData) (cs : List (Addr × Addr)) (sp : Sp), K.In h ∧ TabsIn K mg cs h ∧ (∀ (s : Shared) (u : Value), BindsTo s fd ⟨[u], []⟩ [(x, u)]) ∧
        (∀ (H : Hp) (a : Addr) (ns : List Int), ns.length ≤ n → (∀ p ∈ cs, H p.2 = some (.tbl #[])) → SqL K H a (ns.map V.int) → sp [.ref a] H (fun v _ => v = .bl true) fun _ _ _ => False) ∧
        ∀ base : Heap, K.In base → base.Ns mainGlobals mg → (∀ p ∈ cs, LamX.TabB base mg p.1 p.2) → FnG l.prog w K mg base (CX w) k fa fd [x] sp)
    (hCX : ∀ (w : World) (H : Hp) (s : Shared) (e : Value) (s' : Shared), CX w [] H s (fun _ _ _ => False) e s' → False) :
    PySem.W.WalkO q loose XP YP l.row.toRowW d [] (fun f vs => PySem.call f vs) :=
  Att.attach_call hn hdf fun w _ s₁ mg mb fa _ _ _ _ a vs ns G Y _ _ _ hmg hobj hints hlen hg => by
    have tA : TabAt q mg s₁.heap := fun d hd => by
      obtain ⟨a', o, fd, c, P, h1, h2, h3, h4, h5, h6⟩ := G.T.tab d hd
      have h6' := h6
      obtain ⟨⟨oc, vs', e1, _, e3, e4⟩, e5⟩ := h6'
      exact ⟨a', o, fd, c, P, h1, h2, h3, h4, .of h5 h6, ⟨oc, vs', e1, e3, e4⟩, e5⟩
    obtain ⟨K, fd, cs, sp, KX, tI, hb, hsp, hF⟩ := F w mg fa _ Y G.T.g hmg tA G.T.bmain
    exact law_callT KX G.T.g G.T.b G.T.builtins G.T.nolimit hg tI hobj hints (Nat.le_trans hlen hn2) hr hF hb (fun H hO hS => hsp H a ns hlen hO hS) fun H e s' => hCX w H s₁ e s'
end Mi
end

section
set_option Elab.async false
set_option linter.all false
set_option maxRecDepth 100000
set_option maxHeartbeats 2000000
/-! Cells that are hidden, and shown. -/
namespace Mi
open PySem PySem.Spec PyProof.Rows L2 LamX NdefX
def hidC (C : List Addr) (H : Hp) : Hp := fun b => if b ∈ C then none else H b
def shwC (C : List Addr) (H0 H : Hp) : Hp := fun b => if b ∈ C then H0 b else H b
theorem hid_in {C : List Addr} {H : Hp} {b : Addr} (h : b ∈ C) : hidC C H b = none := if_pos h
theorem hid_out {C : List Addr} {H : Hp} {b : Addr} (h : b ∉ C) : hidC C H b = H b := if_neg h
theorem shw_in {C : List Addr} {H0 H : Hp} {b : Addr} (h : b ∈ C) : shwC C H0 H b = H0 b := if_pos h
theorem shw_out {C : List Addr} {H0 H : Hp} {b : Addr} (h : b ∉ C) : shwC C H0 H b = H b := if_neg h
/-- the cells at C are known in H -/
def FrzAt (C : List Addr) (H : Hp) : Prop := ∀ c ∈ C, ∃ (o : Obj) (x : Option Value), H c = some (.frz o tru) ∧ o.data = .cell x
theorem FrzAt.ne {C : List Addr} {H : Hp} (f : FrzAt C H) {b : Addr} {u : HO} (e : H b = some u) (h : ∀ o, u ≠ .frz o tru) : b ∉ C := fun z => by
  obtain ⟨o, x, q, _⟩ := f b z
  rw [e] at q
  exact h o (Option.some.inj q)
theorem FrzAt.ne0 {C : List Addr} {H : Hp} (f : FrzAt C H) {b : Addr} (e : H b = none) : b ∉ C := fun z => by
  obtain ⟨o, x, q, _⟩ := f b z
  rw [e] at q
  cases q
section
variable {P : Program} {w : World} {C : List Addr} {H H0 H' H2 : Hp} {h h' B : Heap} {fs : List Addr}
theorem HOk.hid (x : HOk P w H h) (f : FrzAt C H) : HOk P w (hidC C H) h := fun b u e => by
  by_cases hb : b ∈ C
  · rw [hid_in hb] at e; cases e
  · rw [hid_out hb] at e
    exact (x b u e).stay (fun _ _ _ q => q) (fun c q => by rw [hid_out (f.ne q (fun _ z => nomatch z))]; exact q) fun c xs q => by rw [hid_out (f.ne q (fun _ z => nomatch z))]; exact q
theorem HOk.shw (x : HOk P w H' h') (n : ∀ c ∈ C, H' c = none) (f : ∀ c ∈ C, ∃ o, H0 c = some (.frz o tru) ∧ h'.get? c = some o) : HOk P w (shwC C H0 H') h' := fun b u e => by
  by_cases hb : b ∈ C
  · rw [shw_in hb] at e
    obtain ⟨o, e1, e2⟩ := f b hb
    rw [e1] at e
    cases e
    exact ⟨e2, True.intro, ⟨o, e2⟩, fun _ _ _ _ => True.intro⟩
  · rw [shw_out hb] at e
    have no : ∀ c u, H' c = some u → c ∉ C := fun c u q z => by rw [n c z] at q; cases q
    exact (x b u e).stay (fun _ _ _ q => q) (fun c q => by rw [shw_out (no _ _ q)]; exact q) fun c xs q => by rw [shw_out (no _ _ q)]; exact q
theorem frz_get (x : HOk P w H h) {c : Addr} {o : Obj} {u : HO} (e : H c = some (.frz o u)) : h.get? c = some o := (x c _ e).1
/-- a stretch over hidden cells -/
theorem Un.shw (un : Un fs [] (hidC C H) H' h h') (f : FrzAt C H) (x : HOk P w H h) (x' : HOk P w H' h') (nf : ∀ c ∈ C, c ∉ fs) : Un fs [] H (shwC C H H') h h' ∧ HOk P w (shwC C H H') h' ∧ ∀ c ∈ C, H' c = none := by
  have g : ∀ c ∈ C, ∃ o, H c = some (.frz o tru) ∧ h.get? c = some o := fun c hc => by
    obtain ⟨o, _, e, _⟩ := f c hc
    exact ⟨o, e, frz_get x e⟩
  have n : ∀ c ∈ C, H' c = none := fun c hc => by
    obtain ⟨o, _, e⟩ := g c hc
    exact un.free c o e (hid_in hc) (by simp)
  refine ⟨⟨fun b o e q hb hx => ?_, fun b o e q hb hx => ?_, fun b o e q hx => ?_, un.there, fun b xs q => ?_, fun b o u q => ?_, fun b ps q => ?_⟩, HOk.shw x' n fun c hc => ?_, n⟩
  · exact un.keep b o e (by rw [hid_out (f.ne0 q)]; exact q) hb hx
  · exact un.slot b o e (by rw [hid_out (f.ne0 q)]; exact q) hb hx
  · rw [shw_out (f.ne0 q)]
    exact un.free b o e (by rw [hid_out (f.ne0 q)]; exact q) hx
  · have nb := f.ne q (fun _ z => nomatch z)
    rw [shw_out nb]
    exact un.tups b xs (by rw [hid_out nb]; exact q)
  · by_cases hb : b ∈ C
    · rw [shw_in hb]; exact q
    · rw [shw_out hb]
      exact un.frzs b o u (by rw [hid_out hb]; exact q)
  · have nb := f.ne q (fun _ z => nomatch z)
    rw [shw_out nb]
    exact un.tbls b ps (by rw [hid_out nb]; exact q)
  · obtain ⟨o, e1, e2⟩ := g c hc
    exact ⟨o, e1, un.keep c o e2 (hid_in hc) (nf c hc) (by simp)⟩
theorem UB.shw (un : UB fs (hidC C H) H' h B h') (f : FrzAt C H) (x : HOk P w H h) (x' : HOk P w H' B) (nf : ∀ c ∈ C, c ∉ fs) : UB fs H (shwC C H H') h B h' ∧ HOk P w (shwC C H H') B ∧ (∀ c ∈ C, H' c = none) ∧ ∀ c ∈ C, ∃ o, B.get? c = some o := by
  have g : ∀ c ∈ C, ∃ o, H c = some (.frz o tru) ∧ h.get? c = some o := fun c hc => by
    obtain ⟨o, _, e, _⟩ := f c hc
    exact ⟨o, e, frz_get x e⟩
  have n : ∀ c ∈ C, H' c = none := fun c hc => by
    obtain ⟨o, _, e⟩ := g c hc
    exact un.free c o e (hid_in hc)
  have k : ∀ c ∈ C, ∃ o, H c = some (.frz o tru) ∧ B.get? c = some o := fun c hc => by
    obtain ⟨o, e1, e2⟩ := g c hc
    exact ⟨o, e1, un.keep c o e2 (hid_in hc) (nf c hc)⟩
  refine ⟨⟨fun b o e q hb => ?_, un.slot, fun b o e q => ?_, un.there, fun b xs q => ?_, fun b o u q => ?_, fun b ps q => ?_⟩, HOk.shw x' n k, n, fun c hc => ?_⟩
  · exact un.keep b o e (by rw [hid_out (f.ne0 q)]; exact q) hb
  · rw [shw_out (f.ne0 q)]
    exact un.free b o e (by rw [hid_out (f.ne0 q)]; exact q)
  · have nb := f.ne q (fun _ z => nomatch z)
    rw [shw_out nb]
    exact un.tups b xs (by rw [hid_out nb]; exact q)
  · by_cases hb : b ∈ C
    · rw [shw_in hb]; exact q
    · rw [shw_out hb]
      exact un.frzs b o u (by rw [hid_out hb]; exact q)
  · have nb := f.ne q (fun _ z => nomatch z)
    rw [shw_out nb]
    exact un.tbls b ps (by rw [hid_out nb]; exact q)
  · obtain ⟨o, _, e⟩ := k c hc
    exact ⟨o, e⟩
/-- H2 is H with the cells at C known -/
structure Shn (C : List Addr) (H H2 : Hp) (h : Heap) : Prop where
  out : ∀ b, b ∉ C → H2 b = H b
  non : ∀ c ∈ C, H c = none
  inn : FrzAt C H2
  get : ∀ c ∈ C, ∀ o u, H2 c = some (.frz o u) → h.get? c = some o
theorem Shn.ok (s : Shn C H H2 h) (x : HOk P w H h) : HOk P w H2 h := fun b u e => by
  by_cases hb : b ∈ C
  · obtain ⟨o, v, q, _⟩ := s.inn b hb
    have g := s.get b hb o _ q
    rw [q] at e
    cases e
    exact ⟨g, True.intro, ⟨o, g⟩, fun _ _ _ _ => True.intro⟩
  · rw [s.out b hb] at e
    have no : ∀ c u, H c = some u → c ∉ C := fun c u q z => by rw [s.non c z] at q; cases q
    exact (x b u e).stay (fun _ _ _ q => q) (fun c q => by rw [s.out c (no _ _ q)]; exact q) fun c xs q => by rw [s.out c (no _ _ q)]; exact q
/-- a stretch over shown cells -/
theorem Un.hid {ex : List Addr} (un : Un fs ex H2 H' h h') (s : Shn C H H2 h) (x' : HOk P w H' h') : Un fs ex H (hidC C H') h h' ∧ FrzAt C H' ∧ HOk P w (hidC C H') h' := by
  have f : FrzAt C H' := fun c hc => by
    obtain ⟨o, v, q, d⟩ := s.inn c hc
    exact ⟨o, v, un.frzs c o _ q, d⟩
  have g : ∀ c ∈ C, ∀ o, h.get? c = some o → h'.get? c = some o := fun c hc o e => by
    obtain ⟨o', v, q, d⟩ := s.inn c hc
    have e1 := s.get c hc o' _ q
    rw [e] at e1
    cases e1
    exact frz_get x' (un.frzs c o _ q)
  have no : ∀ c u, H c = some u → c ∉ C := fun c u q z => by rw [s.non c z] at q; cases q
  refine ⟨⟨fun b o e q hb hx => ?_, fun b o e q hb hx => ?_, fun b o e q hx => ?_, un.there, fun b xs q => ?_, fun b o u q => ?_, fun b ps q => ?_⟩, f, HOk.hid x' f⟩
  · by_cases hc : b ∈ C
    · exact g b hc o e
    · exact un.keep b o e (by rw [s.out b hc]; exact q) hb hx
  · by_cases hc : b ∈ C
    · exact ⟨o.slots, g b hc o e⟩
    · exact un.slot b o e (by rw [s.out b hc]; exact q) hb hx
  · by_cases hc : b ∈ C
    · exact hid_in hc
    · rw [hid_out hc]
      exact un.free b o e (by rw [s.out b hc]; exact q) hx
  · rw [hid_out (no _ _ q)]
    exact un.tups b xs (by rw [s.out b (no _ _ q)]; exact q)
  · rw [hid_out (no _ _ q)]
    exact un.frzs b o u (by rw [s.out b (no _ _ q)]; exact q)
  · rw [hid_out (no _ _ q)]
    exact un.tbls b ps (by rw [s.out b (no _ _ q)]; exact q)
end
end Mi
end

section
set_option Elab.async false
set_option linter.all false
set_option maxRecDepth 100000
set_option maxHeartbeats 2000000
/-! A lambda is made; a lambda is called far from where it was made. -/
namespace Mi
open PySem PySem.Spec PyProof.Rows L2 LamX NdefX
variable [LT]
/-- what the making of a lambda does to what is known -/
structure Grow (P c' : Addr) (q : Str) (H H1 : Hp) : Prop where
  at_ : ∀ b, b ≠ P → b ≠ c' → H1 b = H b
  old : ∃ ps, H P = some (.tbl ps)
  tbl : ∃ qs, H1 P = some (.tbl qs)
  cod : H1 c' = some (CodeO c' q)
  new : H c' = none ∨ H c' = some (CodeO c' q)
section
variable {X : Cx} {pins : List (Addr × Obj)} {σ : L2.St} {H : Hp} {s : Shared}
theorem laid_lam {h' : Heap} {tk : Nat} {F : NF} {e : Expr} {pm ctv : Value} (I : Inv X pins σ H { s with heap := h', toks := tk }) :
    Inv X pins σ (upd H h'.objs.size (LamO F e pm ctv)) { s with heap := h'.push (PySem.W.kla_obj "<lambda>" F.qual F.params e F.scope F.cl pm F.c ctv), toks := tk } := by
  have g := Heap.get?_push_size h' (o := PySem.W.kla_obj "<lambda>" F.qual F.params e F.scope F.cl pm F.c ctv) rfl
  exact I.laid (t' := tk) (a := h'.objs.size) (fun b u z => Heap.get?_push_of_some _ z) (Nat.le_refl _) ⟨g, True.intro, ⟨_, g⟩, fun _ _ _ _ => True.intro⟩
theorem pe_lam {c P : Addr} {params : Arguments} {body : Expr} {scope : Scope} {pos : Pos} (TB : TabB X.base X.mg c P) (hcode : X.env.code = .ref c) (hm : (P, X.env.qual ++ "<lambda>") ∈ LT.T) (hu : ∀ p ∈ LT.T, p.1 = P → p.2 = X.env.qual ++ "<lambda>")
    (L : LamS X.env.scope scope) (hdef : defaultsOf params X.env = ([], [])) : PE X (.Lambda params body scope pos) (fun σ H Q => Tabs LT.T H ∧ ∀ f c' pm ctv H1, Grow P c' (X.env.qual ++ "<lambda>") H H1 → Tabs LT.T H1 → H1 f = none → InjCl (cloFrom X.env.cells scope.names []) →
      Q (.ref f) (upd H1 f (LamO ⟨"<lambda>", X.env.qual ++ "<lambda>", params, [], scope, cloFrom X.env.cells scope.names [], c'⟩ body pm ctv))) := by
  refine ⟨fun pins s σ H Q I h => ?_⟩
  obtain ⟨hT, h⟩ := h
  have hfree := L.has I.ok
  have inj : InjCl (cloFrom X.env.cells scope.names []) := ⟨fun y z c e1 e2 => I.ok.inj y z c (clo_cm hfree e1) (clo_cm hfree e2)⟩
  obtain ⟨ps, hP, ht, ha⟩ := hT _ hm
  refine PySem.W.kla_eval hdef ?_
  have bP : s.heap.BuiltinsAt X.mg P := TB.bm.keeps I.bk
  have hP' : s.heap.get? P = some { cls := .none, data := .fields ps } := I.hok P _ hP
  cases hc : codeAmong pos ps.toList with
  | some cv =>
    obtain ⟨c', rfl, hco⟩ := ha pos cv hc
    refine PySem.W.kla_makeFunctionHit (mg := X.mg) (c := c) (P := P) (ps := ps) (closure_ok hfree) I.ok.glob (I.mod.glob.keeps I.bk) hcode (TB.code.keeps I.bk) hP' ht hc bP fun ctv h' tk hx hsz => ?_
    have I1 : Inv X pins σ H { s with heap := h', toks := tk } := I.kept hx
    exact ⟨V.ref h'.objs.size, _, laid_lam (F := ⟨"<lambda>", X.env.qual ++ "<lambda>", params, [], scope, cloFrom X.env.cells scope.names [], c'⟩) I1, rfl, h _ c' _ ctv H ⟨fun _ _ _ => rfl, ⟨ps, hP⟩, ⟨ps, hP⟩, hco, .inr hco⟩ hT (I1.hok.fresh (Nat.le_refl _)) inj⟩
  | none =>
    refine PySem.W.kla_makeFunction (mg := X.mg) (c := c) (P := P) (ps := ps) (closure_ok hfree) I.ok.glob (I.mod.glob.keeps I.bk) hcode (TB.code.keeps I.bk) hP' ht hc TB.gP bP fun c' ctv h' tk hx hge hlt hrec htb => ?_
    obtain ⟨c2, oc, vs, t, e2, hoc, hd, hv⟩ := hrec
    cases e2
    have nC : H c' = none := I.hok.fresh hge
    have nPc : P ≠ c' := ne_of_none hP nC
    have I1 := inv_table (t' := tk) (more := #[rawInt pos.line, rawInt pos.col, .ref c']) (h' := h') I hP (fun b o hb e => hx b o hb e) htb hge ⟨oc, vs, t, hoc, hd, hv⟩
    have at_ : ∀ b, b ≠ P → b ≠ c' → upd (upd H P (.tbl (ps ++ #[rawInt pos.line, rawInt pos.col, .ref c']))) c' (CodeO c' (X.env.qual ++ "<lambda>")) b = H b := fun b h1 h2 => by rw [upd_ne h2, upd_ne h1]
    have keepC : ∀ {b q}, H b = some (CodeO b q) → upd (upd H P (.tbl (ps ++ #[rawInt pos.line, rawInt pos.col, .ref c']))) c' (CodeO c' (X.env.qual ++ "<lambda>")) b = some (CodeO b q) := fun {b q} e => by
      rw [at_ b (fun z => by rw [z, hP] at e; exact codeO_ne ps (Option.some.inj e).symm) (ne_of_none e nC)]
      exact e
    refine ⟨V.ref h'.objs.size, _, laid_lam (F := ⟨"<lambda>", X.env.qual ++ "<lambda>", params, [], scope, cloFrom X.env.cells scope.names [], c'⟩) I1, rfl, h _ c' _ ctv _ ⟨at_, ⟨ps, hP⟩, ⟨_, by rw [upd_ne nPc, upd_same]⟩, upd_same, .inl nC⟩ (fun p hp => ?_) (I1.hok.fresh (Nat.le_refl _)) inj⟩
    by_cases hb : p.1 = P
    · rw [hu p hp hb, hb]
      have eL : (ps ++ #[rawInt pos.line, rawInt pos.col, .ref c']).toList = ps.toList ++ [rawInt pos.line, rawInt pos.col, .ref c'] := by simp
      refine ⟨_, by rw [upd_ne nPc, upd_same], by rw [eL]; exact PySem.TriplesOk_snoc _ _ _ _ ht, fun p' cv hcv => ?_⟩
      rw [eL] at hcv
      rcases among_app _ ht hcv with z | z
      · obtain ⟨c0, e1, e2⟩ := ha p' cv z
        exact ⟨c0, e1, keepC e2⟩
      · exact ⟨c', z, upd_same⟩
    · obtain ⟨ps', a1, a2, a3⟩ := hT p hp
      refine ⟨ps', by rw [at_ _ hb (ne_of_none a1 nC)]; exact a1, a2, fun p' cv hcv => ?_⟩
      obtain ⟨c0, e1, e2⟩ := a3 p' cv hcv
      exact ⟨c0, e1, keepC e2⟩
end
/-! ### a lambda's body -/
def cellsOf (cl : List (Str × Addr)) : List Addr := (cl.map (·.1)).filterMap fun y => cl.lookup y
theorem mem_cellsOf {cl : List (Str × Addr)} {c : Addr} : c ∈ cellsOf cl ↔ ∃ y, cl.lookup y = some c := by
  unfold cellsOf
  rw [List.mem_filterMap]
  constructor
  · rintro ⟨y, _, e⟩
    exact ⟨y, e⟩
  · rintro ⟨y, e⟩
    exact ⟨y, List.mem_map.mpr ⟨(y, c), PySem.mem_of_lookup e, rfl⟩, e⟩
/-- what a call of the j-th lambda promises -/
def LamP (P : Program) (w : World) (K : PySem.W.Frag) (mg : Str → Option Value) (base : Heap) (k j : Nat) (sp : Sp) : Prop :=
  ∀ (A : Around) (outer : List PySem.Env) (s : Shared) (H : Hp) (f : Addr) (LF : NF) (e : Expr) (pm ctv : Value) (vs : List V) (Q : VK) (E : XK), Room k A → A.guards = some [] → Env0 P w K mg base A outer s H →
    s.heap.get? f = some (PySem.W.kla_obj "<lambda>" LF.qual LF.params e LF.scope LF.cl pm LF.c ctv) → s.heap.CodeRec (.ref LF.c) LF.qual → LT.ok j LF.params e LF.scope LF.qual → CellsAt LF.cl (LT.caps j) (vs.map some) s.heap H → sp vs H Q E →
    codeAny (model P w) A (.call (.ref f) ⟨[], []⟩) (CR (CX P w) outer P w H s Q E) s
section
variable {P : Program} {w : World} {K : PySem.W.Frag} {mg : Str → Option Value} {base : Heap} {k j : Nat} {sp : Sp}
theorem lamP_of (hS : ∀ params e scope q, LT.ok j params e scope q → NScope (LT.caps j) [] (LT.caps j) scope ∧ ∀ cl pm cv ctv, bindArgs (PySem.W.kla_fn "<lambda>" q params e scope cl pm cv ctv) ⟨[], []⟩ = pure [])
    (hbody : ∀ (A : Around) (outer : List PySem.Env) (s : Shared) (H : Hp) (f : Addr) (LF : NF) (e : Expr) (vs : List V) (Q : VK) (E : XK), Room k (A.deeper (envF LF f s.heap.objs.size)) → A.guards = some [] → LT.ok j LF.params e LF.scope LF.qual → vs.length = (LT.caps j).length → sp vs H Q E →
      ∃ t, PE (ncx (CX P w) P w K mg base (LT.caps j) LF f A outer s H E) e t ∧ t (vs.map some) H Q) : LamP P w K mg base (k + 1) j sp := by
  intro A outer s H f LF e pm ctv vs Q E hr hg e0 hf hcd hok C hsp
  obtain ⟨S, hb⟩ := hS _ _ _ _ hok
  have lim : s.heap.NoLimit := e0.mod.nolimit.keeps fun b o e => (e0.bs b o e).1
  refine PySem.W.kla_callFunE hr.depth hf rfl S.co S.gen rfl hcd ?_
  rw [hb]
  refine wpAny_pure (wpAny_newFunctionEnv S.nocell (fun y hy => nomatch hy) (fun h₁ hns hsb => ⟨lim.fresh _ hsb, ?_⟩) S.kind)
  have kp : ∀ b o, s.heap.get? b = some o → h₁.get? b = some o := fun b o e => hsb.extBut b o (Nat.ne_of_lt (Heap.lt_size e)) (Heap.get?_push_of_some _ e)
  have hl : vs.length = (LT.caps j).length := by
    have := C.len
    simpa using this
  obtain ⟨t, ht, hq⟩ := hbody A outer s H f LF e vs Q E (hr.deeper _) hg hok hl hsp
  have I := inv_startN (CX := CX P w) (f := f) (E := E) (us := []) (vs := []) (ps := []) (N := LT.caps j) (tk := s.toks + ([] : List (Str × Value)).length) S hr.hd e0 rfl .nil C hns kp
  have eσ : startF (LT.caps j) [] (vs.map some) = vs.map some := by
    unfold startF
    simp [hl]
  rw [eσ] at I
  refine PySem.W.kla_codeExpr (wpAny_mono (ht.run [] _ _ H _ I hq) (fun u s' hs => ?_) fun _ _ hs => hs)
  obtain ⟨v, H', J, rv, q⟩ := hs
  exact ⟨v, H', J.os, J.bare, J.base, J.hok, rv, q⟩
end
/-! ### x(), x a lambda that came from elsewhere -/
/-- f is the j-th lambda; its captured names' values are vs -/
structure Clo (H : Hp) (f : Addr) (j : Nat) (LF : NF) (e : Expr) (pm ctv : Value) (vs : List V) : Prop where
  obj : H f = some (LamO LF e pm ctv)
  cod : H LF.c = some (CodeO LF.c LF.qual)
  ok : LT.ok j LF.params e LF.scope LF.qual
  inj : InjCl LF.cl
  frz : FrzAt (cellsOf LF.cl) H
  len : vs.length = (LT.caps j).length
  has : ∀ (i : Nat) y w, (LT.caps j)[i]? = some y → vs[i]? = some w → ∃ c o u, LF.cl.lookup y = some c ∧ H c = some (.frz o tru) ∧ o.data = .cell (some u) ∧ RelV w u
def tAct (i : Nat) (sp : Nat → Sp) (E : L2.St → XK) : TE := fun σ H Q => ∃ f j LF e pm ctv vs, σ[i]? = some (some (.ref f)) ∧ Clo H f j LF e pm ctv vs ∧
  sp j vs (hidC (cellsOf LF.cl) H) (fun v H' => (∀ c ∈ cellsOf LF.cl, H' c = none) → Q v (shwC (cellsOf LF.cl) H H')) fun cls d H' => (∀ c ∈ cellsOf LF.cl, H' c = none) → E σ cls d (shwC (cellsOf LF.cl) H H')
section
variable {X : Cx} {k i : Nat} {sp : Nat → Sp} {E : L2.St → XK} {W : WX} {a : Str} {p1 p2 : Pos}
theorem pe_actC (hL : ∀ j params e scope q, LT.ok j params e scope q → LamP X.prog X.w X.K X.mg X.base k j (sp j)) (hr : Room k X.A) (hg : X.A.guards = some []) (tk : Takes X W) (hW : ∀ σ cls d H, E σ cls d H → W cls d σ H) (hN : X.N[i]? = some a) (hv : Vis X.env.scope a) (hd : (a == ("__debug__" : Str)) = false) (hcd : (a == ("__classdict__" : Str)) = false) :
    PE X (.Call (.Name a p1) [] [] p2) (tAct i sp E) := by
  refine ⟨fun pins s σ H Q I h => ?_⟩
  obtain ⟨f, j, LF, e, pm, ctv, vs, hs, C, hq⟩ := h
  refine wpAny_Call_Name_kw (thn ((pe_var (pos := p1) (i := i) hN hv hd hcd).run pins s σ H (fun v H1 => v = .ref f ∧ H1 = H) I ⟨.ref f, hs, rfl, rfl⟩) fun u s1 ⟨v, H1, I1, r1, q1⟩ => ?_)
  obtain ⟨rfl, rfl⟩ := q1
  obtain rfl : u = Value.ref f := r1
  have of1 := frz_get I1.hok C.obj
  refine PySem.W.callWith_F0 ⟨_, _, _, _, of1⟩ ?_
  have nf : ∀ c ∈ cellsOf LF.cl, c ∉ frs X.stack := fun c hc hm => by
    obtain ⟨o, x, q, _⟩ := C.frz c hc
    rw [I1.stkFree c hm] at q
    cases q
  have e0 := I1.env0
  have e1 : Env0 X.prog X.w X.K X.mg X.base X.A X.stack s1 (hidC (cellsOf LF.cl) H1) := ⟨e0.frames, e0.mod, fun b o q => ⟨(e0.bs b o q).1, by
    have n := (e0.bs b o q).2
    rw [hid_out (C.frz.ne0 n)]
    exact n⟩, e0.bsz, e0.funs, fun b hb => by
      have n := e0.frf b hb
      rw [hid_out (C.frz.ne0 n)]
      exact n, HOk.hid e0.hok C.frz, e0.bare⟩
  have cA : CellsAt LF.cl (LT.caps j) (vs.map some) s1.heap (hidC (cellsOf LF.cl) H1) := by
    refine ⟨by simp [C.len], fun y c q => ⟨hid_in (mem_cellsOf.mpr ⟨y, q⟩), ?_⟩, C.inj.inj, fun i y q => ?_⟩
    · obtain ⟨o, x, z, d⟩ := C.frz c (mem_cellsOf.mpr ⟨y, q⟩)
      exact ⟨x, o, frz_get I1.hok z, d⟩
    · have hi : i < vs.length := by rw [C.len]; exact (List.getElem?_eq_some_iff.mp q).1
      obtain ⟨c, o, u, q1, q2, q3, q4⟩ := C.has i y _ q (List.getElem?_eq_getElem hi)
      refine ⟨c, q1, fun v ev => ⟨u, ?_, o, frz_get I1.hok q2, q3⟩⟩
      rw [List.getElem?_map, List.getElem?_eq_getElem hi] at ev
      cases ev
      exact q4
  refine wpAny_call (codeAny_mono (hL j _ _ _ _ C.ok X.A X.stack s1 _ f LF e pm ctv vs _ _ hr hg e1 of1 (codeO_at I1.hok C.cod) C.ok cA hq) fun r s' hr' => ?_)
  cases r with
  | error e =>
    obtain ⟨a', B, H', cls, d, rfl, fl, hok, ub, na, os, ag, q⟩ := hr'
    obtain ⟨ub2, hok2, n, hB⟩ := UB.shw ub C.frz I1.hok hok nf
    refine tk _ _ (XE.of_call I1 (E := E σ) (fun cls d H' h => hW σ cls d H' h) ⟨a', B, _, cls, d, rfl, fl, hok2, ub2, ?_, os, ag, q n⟩)
    by_cases ha : a' ∈ cellsOf LF.cl
    · obtain ⟨o, z⟩ := hB a' ha
      rw [fl.2.1] at z
      cases z
    · rw [shw_out ha]
      exact na
  | ok fl =>
    cases fl with
    | ret u =>
      obtain ⟨v, H', os, bare, un, hok, rv, q⟩ := hr'
      obtain ⟨un2, hok2, n⟩ := Un.shw un C.frz I1.hok hok nf
      exact I1.after ⟨v, _, os, bare, un2, hok2, rv, q n⟩
    | next => exact False.elim hr'
    | brk => exact False.elim hr'
    | cont => exact False.elim hr'
end
end Mi
end

section
set_option Elab.async false
set_option linter.all false
set_option maxRecDepth 100000
set_option maxHeartbeats 2000000
/-! try .. except C as e, where the caught exception is known from then on. -/
namespace Mi
open PySem PySem.Spec PyProof.Rows L2
section
variable {X : Cx} {pins : List (Addr × Obj)} {σ : L2.St} {H : Hp} {s : Shared} {a : Addr} {oe : Obj} {o : HO}
/-- an object made since the entry is known from now on -/
theorem track (I : Inv X pins σ H s) (n : H a = none) (old : X.s_0.heap.get? a = none) (nl : a ≠ X.env.locals) (nc : ∀ y c, X.env.cells.lookup y = some c → c ≠ a) (np : ∀ p ∈ X.pn ++ pins, p.1 ≠ a) (ho : ObjOk X.prog X.w (upd H a o) s.heap a o) : Inv X pins σ (upd H a o) s := by
  have sm : ∀ b u, H b = some u → upd H a o b = some u := fun b u e => by rw [upd_ne (ne_of_none e n)]; exact e
  have un := I.base
  refine ⟨I.ok, I.os, I.bare, ⟨un.keep, un.slot, fun b u e q hx => ?_, un.there, fun b xs q => sm _ _ (un.tups b xs q), fun b u v q => sm _ _ (un.frzs b u v q), fun b ps q => ?_⟩, I.loc, I.cell, ?_, fun y c e => ?_, fun p hp => ?_, fun b u e => ?_, I.len⟩
  · have : b ≠ a := fun z => by rw [z, old] at e; cases e
    rw [upd_ne this]
    exact un.free b u e q hx
  · obtain ⟨m, e⟩ := un.tbls b ps q
    exact ⟨m, sm _ _ e⟩
  · rw [upd_ne (Ne.symm nl)]; exact I.free
  · rw [upd_ne (nc y c e)]; exact I.freeC y c e
  · obtain ⟨h1, h2, h3⟩ := I.pin p hp
    exact ⟨h1, by rw [upd_ne (np p hp)]; exact h2, h3⟩
  · by_cases hb : b = a
    · subst hb
      rw [upd_same] at e
      cases e
      exact ho
    · rw [upd_ne hb] at e
      exact (I.hok b u e).stay (fun _ _ _ q => q) (fun c q => sm _ _ q) fun c xs q => sm _ _ q
end
theorem exV_ok {P : Program} {w : World} {H : Hp} {h : Heap} {a : Addr} {oe : Obj} {cls : Value} {d : Option Addr} (e : h.get? a = some oe) (z : Zc cls d oe) (f : ∃ vs, oe.data = .fields vs) : ObjOk P w H h a (ExV cls d a) :=
  ⟨⟨oe, e, z, f⟩, ⟨oe, e⟩, fun _ _ ⟨o, q, r⟩ k => ⟨o, k o q, r⟩⟩
/-- where the suite's ends lead -/
def endsK (D : Ends) (i : Nat) (a : Addr) (cls : Value) (d : Option Addr) : Ends where
  nx := fun σ' H' => H' a = none → D.nx (σ'.set i none) (upd H' a (ExV cls d a))
  rt := fun v H' => H' a = none → D.rt v (upd H' a (ExV cls d a))
  bk := fun _ _ => False
  ct := fun _ _ => False
def wKeep (K : PySem.W.Frag) (c : Value) (i : Nat) (ts : Addr → Value → Option Addr → TS) (Wout : WX) (D : Ends) : WX := fun cls d σ H =>
  ∃ b, PySem.W.exmOne K cls c = some b ∧ (b = true → ∀ a, H a = none → ts a cls d (endsK D i a cls d) (σ.set i (some (.ref a))) H) ∧ (b = false → Wout cls d σ H)
section
variable {X : Cx} {x n : Str} {c : Value} {i : Nat} {body suite : List Stmt} {b₀ : Stmt} {np pos pos' : Pos} {tb : WX → TS} {ts : Addr → Value → Option Addr → TS} {Wout : WX}
theorem ps_try_keep (hs : X.stack = X.env :: X.outer) (hf : X.env.frame = some X.env.locals) (hx : X.ex = []) (hN : X.N.Nodup) (hi : X.N[i]? = some n) (hln : X.env.kindOf n = some .local) (hc : Names X x c) (tk : Takes X Wout)
    (hb : ∀ (W : WX) (pn : List (Addr × Obj)) (xe : Value → Shared → Prop), Takes (X.tr pn xe) W → PSs (X.tr pn xe) body (tb W))
    (hsu : ∀ (a : Addr) (oe : Obj) (cls : Value) (d : Option Addr) (pn : List (Addr × Obj)), Zc cls d oe → (∃ vs, oe.data = .fields vs) → PSs (X.suite a ((a, oe) :: pn)) (b₀ :: suite) (ts a cls d)) :
    PS X (.Try body [.ExceptHandler (some (.Name x np)) (some n) (b₀ :: suite) pos'] [] [] pos) (fun D σ H => tb (wKeep X.K c i ts Wout D) D σ H) := by
  refine ⟨fun pins s σ H D I h => wpAny_Try_except ?_⟩
  have OK := I.ok
  have frm : X.A.frames = some (X.env :: X.outer) := by rw [← hs]; exact OK.frames
  have catch_ : Takes (X.tr (X.pn ++ pins) fun e s₁ => wpAny (model X.prog X.w) X.A (noteFrame e X.env) (fun _ s₂ => wpAny (model X.prog X.w) X.A (setFlight e none) (fun _ s₃ =>
      wpAny (model X.prog X.w) X.A (handleBy e X.env [.ExceptHandler (some (.Name x np)) (some n) (b₀ :: suite) pos']) (SP X pins D) X.xe s₃) X.xe s₂) X.xe s₁) (wKeep X.K c i ts Wout D) := by
    rintro u s' ⟨a, B, sI, pins', τ, K1, cls, d, rfl, Jt, nb, up, sky, na, os, ag, b, hm, yes, no⟩
    have J : Inv X pins τ K1 sI := Jt.ofTry OK
    have sky1 : Sky B (X.env :: X.outer) a (Zc cls d) X.env.locals s'.heap := hs ▸ sky
    refine Sky.land Zc.steady frm hf sky1 fun g1 fl1 up1 => ?_
    have J1 : Inv X pins τ K1 { s' with heap := g1 } := J.landed nb fl1.1 (up.trans up1) os ag
    obtain ⟨o1, v1, e1, z1, d1⟩ := fl1.there
    have out : a ∉ frs (X.env :: X.outer) := fun hm => by
      obtain ⟨_, o', e', hnf⟩ := fl1.2.2.1.mem hm
      rw [e1] at e'
      cases e'
      exact hnf _ d1
    have aL : a ≠ X.env.locals := fun z => out (List.mem_filterMap.mpr ⟨X.env, .head _, by rw [hf, z]⟩)
    have aF : a ∉ X.fs := fun hm => by
      obtain ⟨e, he, q⟩ := List.mem_filterMap.mp hm
      exact out (List.mem_filterMap.mpr ⟨e, .tail _ he, q⟩)
    have young : sI.heap.get? a = none := by
      cases q : sI.heap.get? a with
      | none => rfl
      | some o =>
        have z := nb a o q (by rw [hs]; exact out)
        rw [fl1.2.1] at z
        cases z
    have old : X.s_0.heap.get? a = none := by
      cases q : X.s_0.heap.get? a with
      | none => rfl
      | some o =>
        obtain ⟨o', z⟩ := J.base.there a o q (by rw [hx]; simp)
        rw [young] at z
        cases z
    have aC : ∀ y c, X.env.cells.lookup y = some c → c ≠ a := fun y c e z => by
      obtain ⟨v, o, q, _⟩ := J.cell y c e
      rw [z, young] at q
      cases q
    have aP : ∀ p ∈ X.pn ++ pins, p.1 ≠ a := fun p hp z => by
      have q := (J.pin p hp).1
      rw [z, young] at q
      cases q
    have S1 := J1.suite e1 d1 na aL aF
    refine wpAny_handleBy_cons (codeAny_handlers_test ?_) (fun q => nomatch q)
    have LT' : PySem.W.Looks (model X.prog X.w) g1 (typeOf (.ref a)) cls := fun A Q E s k q => wpAny_typeOf_ref (k _ _ e1) (by rw [z1.1]; exact q)
    have LM := PySem.W.exm_one (M := model X.prog X.w) (J1.kIn) LT' hm
    have named : ∀ {Q E : Value → Shared → Prop}, Q c { s' with heap := g1 } → wpAny (model X.prog X.w) (X.A.mark (some (.ref a))) (eval (.Name x np) X.env) Q E { s' with heap := g1 } := fun {Q E} q => by
      obtain ⟨hg, hdbg, hm | ⟨hm, hv, hnn⟩⟩ := hc
      · exact ld_glob (X := X.suite a ((a, o1) :: (X.pn ++ pins))) S1 hg hm q hdbg
      · exact ld_blt (X := X.suite a ((a, o1) :: (X.pn ++ pins))) S1 hg hm hv q hnn hdbg
    refine named (LM.here ?_)
    cases b with
    | false =>
      refine wpAny_handleBy_nil ?_
      obtain ⟨_, _, _, o2, w2, T, oT, ts', e2, z2, d2, f1, hr⟩ := id fl1
      unfold PySem.passOn
      refine wpAny_bind (wpAny_field e2 d2 f1 ?_)
      rw [if_neg (show ¬ ((Value.ref T == Value.none) = true) from by simp)]
      have on : wpAny (model X.prog X.w) X.A (setFlight (.ref a) X.env.frame) (fun _ s4 => wpAny (model X.prog X.w) X.A (throw (.ref a) : Sem Flow) (SP X pins D) X.xe s4) X.xe { s' with heap := g1 } := by
        rw [hf]
        exact HandSPX.setFlight_upZ fl1 fun g2 hh2 up2 => wpAny_throw (tk _ _ ⟨a, B, sI, pins, τ, K1, cls, d, rfl, J, nb, (up.trans up1).trans up2, .inr (.inr (by rw [hs]; exact hh2)), na, os, ag, no rfl⟩)
      first
        | exact wpAny_bind (wpAny_pure (wpAny_bind on))
        | exact wpAny_bind on
    | true =>
      refine codeAny_handlers_suite_as (HandSPX.lands_againZ fl1 fun g2 fl2 up2 => ?_)
      have J2 : Inv X pins τ K1 { s' with heap := g2 } := J.landed nb fl2.1 ((up.trans up1).trans up2) os ag
      obtain ⟨o2, v2, e2, z2, d2⟩ := fl2.there
      refine store_ok (X := X.suite a ((a, o2) :: (X.pn ++ pins))) (v := .ref a) (J2.suite e2 d2 na aL aF) hN hi (.inl hln) rfl (fun s5 S5 => ?_) (.inr hln)
      refine wpAny_mono ((hsu a o2 cls d (X.pn ++ pins) z2 ⟨_, d2⟩).run [] s5 _ K1 _ S5 (yes rfl a na)) (fun f s6 hsp => ?_) (fun _ _ z => False.elim z)
      have fin : ∀ {τ6 : L2.St} {K6 : Hp} {Q : Shared → Prop}, Inv (X.suite a ((a, o2) :: (X.pn ++ pins))) [] τ6 K6 s6 → (K6 a = none → ∀ s7, Inv X pins (τ6.set i none) (upd K6 a (ExV cls d a)) s7 → Q s7) →
          wpAny (model X.prog X.w) X.A (do bindName X.env n .none; unbindBehindTheSuite X.env n pos') (fun _ s7 => Q s7) X.xe s6 := fun {τ6 K6 Q} S6 hq => by
        obtain ⟨q1, q2, _⟩ := S6.pin (a, o2) (List.mem_append_left _ (.head _))
        exact gone_ok (track (S6.unsuite OK) q2 old aL aC aP (exV_ok q1 z2 ⟨_, d2⟩)) hN hi hln fun s7 J7 => hq q2 s7 J7
      match f, hsp with
      | .next, ⟨τ6, K6, S6, q6⟩ => exact fin S6 fun q s7 J7 => ⟨_, _, J7, q6 q⟩
      | .brk, ⟨τ6, K6, S6, q6⟩ => exact q6.elim
      | .cont, ⟨τ6, K6, S6, q6⟩ => exact q6.elim
      | .ret u, ⟨v6, τ6, K6, S6, r6, q6⟩ => exact fin S6 fun q s7 J7 => ⟨_, _, _, J7, r6, q6 q⟩
  refine wpAny_mono ((hb (wKeep X.K c i ts Wout D) _ _ catch_).run [] s σ H D (I.toTry _) h) (fun f s1 hsp => ?_) (fun e s1 he => he)
  match f, hsp with
  | .next, ⟨τ, K1, J, q⟩ => exact wpAny_execs_nil ⟨τ, K1, J.ofTry OK, q⟩
  | .brk, ⟨τ, K1, J, q⟩ => exact ⟨τ, K1, J.ofTry OK, q⟩
  | .cont, ⟨τ, K1, J, q⟩ => exact ⟨τ, K1, J.ofTry OK, q⟩
  | .ret u, ⟨v, τ, K1, J, r, q⟩ => exact ⟨v, τ, K1, J.ofTry OK, r, q⟩
end
end Mi
end

section
set_option Elab.async false
set_option linter.all false
set_option maxRecDepth 100000
set_option maxHeartbeats 2000000
/-! What is asked of a caught exception. -/
namespace Mi
open PySem PySem.Spec PyProof.Rows L2
/-- what the class C must say -/
structure ExK (K : PySem.W.Frag) (C : Addr) : Prop where
  cl : (PySem.W.clsIn K C).isSome = true
  ga : PySem.W.findIn K (.ref C) "__getattribute__" = some (some (.builtin "BaseException.__getattribute__"))
  gg : PySem.W.findIn K (.ref C) "__getattr__" = some none
  hs : PySem.W.subIn K (.ref C) (.type "BaseException") = some true
  hd : PySem.W.hasDictIn K C = true
  ha : PySem.W.findIn K (.ref C) "__class__" = some (some (.builtin "object.__class__"))
  hn : PySem.W.specialIn K (.builtin "object.__class__") "__get__" = some (some (.builtin "getset_descriptor.__get__"))
  ht : PySem.W.takesIn K (.builtin "object.__class__") = some true
  hm : PySem.W.mroIn K C (.type "object") = some true
  hv : PySem.W.findIn K (.ref C) "value" = some none
theorem exV_at {P : Program} {w : World} {H : Hp} {h : Heap} {a C dd : Addr} {v : V} (x : HOk P w H h) (e : H a = some (ExV (.ref C) (some dd) a)) (e2 : H dd = some (.xd [("value", v)])) : ∃ (oe od : Obj) (u : Value), PySem.W.InstAt h a oe C (some od) ∧ PySem.W.lookIn "value" od = some (some u) ∧ RelV v u := by
  obtain ⟨⟨oe, h1, ⟨h2, h3⟩, vs, h4⟩, _⟩ := x a _ e
  obtain ⟨mA, hns, hr⟩ := x dd _ e2
  obtain ⟨od, ho, hl⟩ := lookIn_ns hns
  obtain ⟨u, hu, ru⟩ := RelO.some_of (v := v) (o := mA "value") (by
    have z := hr "value"
    have e3 : ([(("value" : Str), v)] : List (Str × V)).lookup ("value" : Str) = some v := by simp [List.lookup]
    rw [e3] at z
    exact z)
  refine ⟨oe, od, u, ⟨h1, h2, by unfold PySem.W.notCls; rw [h4], by rw [h3]; exact ho⟩, by rw [hl, hu], ru⟩
/-- e.value -/
def tFld (K : PySem.W.Frag) (te : TE) : TE := fun σ H Q => te σ H fun x H1 => ∃ a C dd v, x = .ref a ∧ H1 a = some (ExV (.ref C) (some dd) a) ∧ H1 dd = some (.xd [("value", v)]) ∧ ExK K C ∧ Q v H1
theorem pe_fld {X : Cx} {e : Expr} {te : TE} {pos : Pos} (he : PE X e te) (hb : attributeBase e "value" X.env (eval e X.env) = eval e X.env) : PE X (.Attribute e "value" pos) (tFld X.K te) := by
  refine ⟨fun pins s σ H Q I h => attr_of hb (thn (he.run pins s σ H _ I h) fun u s1 hh => ?_)⟩
  obtain ⟨x, H1, I1, rx, a, C, dd, v, rfl, ea, ed, T, q⟩ := hh
  obtain rfl : u = Value.ref a := rx
  obtain ⟨oe, od, u, J, l, ru⟩ := exV_at I1.hok ea ed
  exact HandSPX.exc_get I1.kIn J T.ga T.gg T.hs (PySem.W.findObj_own T.hd T.hv rfl l) (handed_of ru) ⟨v, H1, I1.tok _, ru, q⟩
/-- isinstance(e, C) -/
def rIsX (K : PySem.W.Frag) : List V → Hp → VK → Prop := fun xs H Q => ∃ (a C C' dd : Addr) (v : V) (b : Bool), xs = [.ref a, .ref C'] ∧ H a = some (ExV (.ref C) (some dd) a) ∧ H dd = some (.xd [("value", v)]) ∧ ExK K C ∧ PySem.W.kitOne K (.ref C) (.ref C') = some b ∧ Q (.bl b) H
theorem call_isX {X : Cx} : CallR X (.builtin "isinstance") (rIsX X.K) := by
  intro pins s σ H xs us Q I r h
  obtain ⟨a, C, C', dd, v, b, rfl, ea, ed, T, e, q⟩ := h
  cases r with
  | cons rx rr =>
    cases rr with
    | cons rt rr =>
      cases rr
      cases rx
      cases rt
      obtain ⟨oe, od, u, J, l, ru⟩ := exV_at I.hok ea ed
      exact PySem.W.kia_one (PySem.W.kitx_exc T.cl T.ga T.gg T.hs T.ha T.hn T.ht T.hm) I.kIn J e (fun z => nomatch z) fun tk => ⟨.bl b, H, I.kept (t' := tk) fun _ _ z => z, rfl, q⟩
end Mi
end

section
set_option Elab.async false
set_option linter.all false
set_option maxRecDepth 100000
set_option maxHeartbeats 2000000
/-! [e for t in it] in a frame whose cells the block may know. -/
namespace Mi
open PySem PySem.Spec PyProof.Rows L2
variable [LT]
/-- the cells of the running frame, known in H2, as the slots say -/
structure Shown (X : Cx) (σ : L2.St) (H H2 : Hp) : Prop where
  out : ∀ b, b ∉ cellsOf X.env.cells → H2 b = H b
  non : ∀ c ∈ cellsOf X.env.cells, H c = none
  inn : FrzAt (cellsOf X.env.cells) H2
  val : ∀ (i : Nat) y v, X.N[i]? = some y → X.env.scope.names.lookup y = some .cell → σ[i]? = some (some v) → ∃ c o u, X.env.cells.lookup y = some c ∧ H2 c = some (.frz o tru) ∧ o.data = .cell (some u) ∧ RelV v u
section
variable {X : Cx} {pins : List (Addr × Obj)} {σ : L2.St} {H : Hp} {s : Shared}
theorem shown_of (I : Inv X pins σ H s) : ∃ H2, Shn (cellsOf X.env.cells) H H2 s.heap ∧ Shown X σ H H2 := by
  have non : ∀ c ∈ cellsOf X.env.cells, H c = none := fun c hc => by
    obtain ⟨y, e⟩ := mem_cellsOf.mp hc
    exact I.freeC y c e
  have cel : ∀ c ∈ cellsOf X.env.cells, ∃ o x, s.heap.get? c = some o ∧ o.data = .cell x := fun c hc => by
    obtain ⟨y, e⟩ := mem_cellsOf.mp hc
    obtain ⟨x, o, z, d⟩ := I.cell y c e
    exact ⟨o, x, z, d⟩
  let H2 : Hp := fun b => if b ∈ cellsOf X.env.cells then (s.heap.get? b).map (fun o => .frz o tru) else H b
  have out : ∀ b, b ∉ cellsOf X.env.cells → H2 b = H b := fun b hb => if_neg hb
  have at_ : ∀ c ∈ cellsOf X.env.cells, ∀ o, s.heap.get? c = some o → H2 c = some (.frz o tru) := fun c hc o e => by
    show (if c ∈ cellsOf X.env.cells then (s.heap.get? c).map (fun o => HO.frz o tru) else H c) = _
    rw [if_pos hc, e]
    rfl
  have inn : FrzAt (cellsOf X.env.cells) H2 := fun c hc => by
    obtain ⟨o, x, e, d⟩ := cel c hc
    exact ⟨o, x, at_ c hc o e, d⟩
  refine ⟨H2, ⟨out, non, inn, fun c hc o u q => ?_⟩, ⟨out, non, inn, fun i y v h1 h2 h3 => ?_⟩⟩
  · obtain ⟨o', x, e, d⟩ := cel c hc
    rw [at_ c hc o' e] at q
    cases q
    exact e
  · obtain ⟨m, hn, hl⟩ := I.loc
    obtain ⟨u, r, l⟩ := hl i y v h1 h3 (.inr (.inl h2))
    rcases l with ⟨z, _⟩ | ⟨_, c, hc, o, e, d⟩
    · have z : X.env.scope.names.lookup y = some .local := z
      rw [h2] at z
      cases z
    · exact ⟨c, o, u, hc, at_ c (mem_cellsOf.mpr ⟨y, hc⟩) o e, d, r⟩
theorem cells_young (I : Inv X pins σ H s) (hfn : ∀ y, X.fn y = true) {c : Addr} (hc : c ∈ cellsOf X.env.cells) : X.s_0.heap.objs.size ≤ c ∧ c < s.heap.objs.size ∧ c ≠ X.env.locals ∧ c ∉ frs X.stack ∧ X.base.get? c = none := by
  obtain ⟨y, e⟩ := mem_cellsOf.mp hc
  have h1 := I.ok.cab y c (hfn y) e
  obtain ⟨x, z⟩ := I.cell y c e
  refine ⟨h1, z.lt, I.cne y c e, fun hm => ?_, ?_⟩
  · rcases List.mem_cons.mp (I.stkSub c hm) with q | q
    · exact I.cne y c e q
    · obtain ⟨_, o, ho, _⟩ := I.ok.funs.mem q
      exact absurd (Nat.lt_of_lt_of_le (Heap.lt_size ho) h1) (Nat.lt_irrefl _)
  · cases q : X.base.get? c with
    | none => rfl
    | some o => exact absurd (Nat.lt_of_lt_of_le (Heap.lt_size q) (Nat.le_trans I.ok.bsz h1)) (Nat.lt_irrefl _)
/-- a block's start, where the frame's cells are known -/
theorem blk_show {scope : Scope} {ce : PySem.Env} {fp : List Addr} {τ : L2.St} {H2 : Hp} {s3 s4 : Shared} (I3 : Inv X pins σ H s3) (hfn : ∀ y, X.fn y = true) (J : Inv (X.blk s3 H scope ce fp) [] τ H s4) (sh : Shn (cellsOf X.env.cells) H H2 s3.heap) (kp : ∀ b o, s3.heap.get? b = some o → s4.heap.get? b = some o)
    (nb : ∀ y c, ce.cells.lookup y = some c → c ∉ cellsOf X.env.cells) (nl : ce.locals ∉ cellsOf X.env.cells) : Inv (X.blk s3 H2 scope ce fp) [] τ H2 s4 := by
  have ok := J.ok
  refine ⟨⟨ok.mod, ok.kind, ok.glob, ok.blt, ok.above, ok.inj, ok.has, ok.cab, ok.hd, ok.frames, ok.stk, ok.exf, fun b o e => ⟨(ok.bs b o e).1, ?_⟩, ok.bsz, ok.noex, ok.exfs, ok.funs, fun b hb => ?_⟩, J.os, J.bare, Un.kept kp, J.loc, J.cell, ?_, fun y c e => ?_, fun p hp => absurd (show p ∈ ([] : List (Addr × Obj)) ++ [] from hp) (by simp), sh.ok I3.hok |>.kept kp, J.len⟩
  · show H2 b = none
    rw [sh.out b fun hb => by have := (cells_young I3 hfn hb).2.2.2.2; rw [show X.base.get? b = some o from e] at this; cases this]
    exact (ok.bs b o e).2
  · show H2 b = none
    rw [sh.out b fun hc => (cells_young I3 hfn hc).2.2.2.1 hb]
    exact ok.frf b hb
  · show H2 ce.locals = none
    rw [sh.out _ nl]
    exact J.free
  · show H2 c = none
    rw [sh.out c (nb y c e)]
    exact J.freeC y c e
def tLcS (X : Cx) (wi : TI) (g : TG) (te : TE) (vs : List Nat) : TE := fun σ H Q => wi σ H fun J H1 => ∀ D, H1 D = none → ∀ H2, Shown X σ (upd H1 D (.lst [])) H2 → ∃ W : Nat → Nat → Hp → Prop, (∃ m, W 0 m H2) ∧ ∀ i m H, W i m H →
  (J.stop i H ∧ (FrzAt (cellsOf X.env.cells) H → Q (.ref D) (hidC (cellsOf X.env.cells) H))) ∨ (J.go i H ∧ ∃ Nx : Hp → Prop, (∀ H', Nx H' → ∃ m', m' < m ∧ W (i + 1) m' H') ∧ ∀ x H', J.yld i H x H' → g x (L2.wipe σ vs) H' fun σ2 H3 => L2.wipe σ2 vs = L2.wipe σ vs ∧
    te σ2 H3 fun y H4 => ∃ acc, H4 D = some (.lst acc) ∧ acc.length < sizeLine ∧ Nx (upd H4 D (.lst (acc ++ [y]))))
theorem pe_lcS {elt tg iter : Expr} {scope : Scope} {own : List (Str × Nat)} {pos : Pos} {wi : TI} {g : TG} {te : TE} (hc : X.calm = true) (hN : X.N.Nodup) (hfn : ∀ y, X.fn y = true) (hi : PI X tg iter wi) (ok : BlkOk X.N X.env.scope scope own) (nofr : ∀ y ∈ scope.names, y.2 ≠ .free)
    (hg : ∀ (s : Shared) (H : Hp) (C : Addr) (cl : List (Str × Addr)) (fp : List Addr), PG (X.blk s H scope (compEnvC scope cl C X.env) fp) tg g) (he : ∀ (s : Shared) (H : Hp) (C : Addr) (cl : List (Str × Addr)) (fp : List Addr), PE (X.blk s H scope (compEnvC scope cl C X.env) fp) elt te)
    (hs : ∀ x, foldedSetIterable iter X.env x = pure x) : PE X (.ListComp elt [⟨tg, iter, [], 0⟩] scope pos) (tLcS X wi g te (own.map (·.2))) := by
  refine ⟨fun pins s σ H Q I h => ?_⟩
  rw [eval_ListComp]
  have hfree : ∀ y ∈ scope.names, y.2 = .free → ∃ c, X.env.cells.lookup y.1 = some c := fun y hy e => absurd e (nofr y hy)
  refine wpAny_comprehension_free (use := none) rfl hs (closure_ok hfree) ok.kind (fun y hy e => by rw [ok.uniq y hy, e]) (thn (hi.run pins s σ H _ I h) fun xv s1 hx => thn hx fun itv s2 h2 => ?_)
  obtain ⟨it, fp, tn, J, H1, rfl, I2, T, t0, f0, q⟩ := h2
  refine wpAny_newObj_type (newEnv_comp ?_) (show 0 ≤ sizeLine from Nat.zero_le _)
  generalize hD : s2.heap.objs.size = D
  have nD : H1 D = none := I2.hok.fresh (Nat.le_of_eq hD)
  obtain ⟨s3, rfl⟩ : ∃ s3 : Shared, s3 = { s2 with heap := s2.heap.push { cls := .type "list", data := .seq ([] : List Value).toArray } } := ⟨_, rfl⟩
  have I3 : Inv X pins σ (upd H1 D (.lst [])) { s2 with heap := s2.heap.push { cls := .type "list", data := .seq ([] : List Value).toArray } } :=
    I2.laid (t' := s2.toks) (fun b o e => Heap.get?_push_of_some _ e) (Nat.le_of_eq hD) ⟨Nat.zero_le _, [], 0, .nil, by rw [← hD]; exact Heap.get?_push_size _ rfl⟩
  generalize hs3 : ({ s2 with heap := s2.heap.push { cls := .type "list", data := .seq ([] : List Value).toArray } } : Shared) = s3 at I3
  have k23 : ∀ b o, s2.heap.get? b = some o → s3.heap.get? b = some o := fun b o e => by rw [← hs3]; exact Heap.get?_push_of_some _ e
  have f3 : ∀ b ∈ fp, FpOk X pins (upd H1 D (.lst [])) b ∧ b < s3.heap.objs.size := fun b hb => by
    obtain ⟨o, e, _⟩ := T.obj _ _ t0 b hb
    obtain ⟨z1, z2⟩ := f0 b hb
    exact ⟨⟨by rw [upd_ne (Nat.ne_of_lt (by rw [← hD]; exact Heap.lt_size e))]; exact z1, z2⟩, Heap.lt_size (k23 b o e)⟩
  have t3 : tn 0 s3.heap := T.keep _ _ _ t0 fun b _ o e => k23 b o e
  have I4 := block_start I3 ok hN f3
  obtain ⟨H2, sh, shd⟩ := shown_of I3
  obtain ⟨W, ⟨m0, w0⟩, turn⟩ := q D nD H2 shd
  have ecl : cloFrom X.env.cells scope.names [] = [] := by
    cases e : cloFrom X.env.cells scope.names [] with
    | nil => rfl
    | cons p r =>
      rcases cloFrom_mem (n := p.1) (c := p.2) (by rw [e]; exact List.mem_cons_self) with z | ⟨z, _⟩
      · cases z
      · exact absurd rfl (nofr _ z)
  have pg := hg s3 H2 s3.heap.objs.size (cellsFrom (s3.heap.objs.size + 1) scope.names (cloFrom X.env.cells scope.names [])) fp
  have pe := he s3 H2 s3.heap.objs.size (cellsFrom (s3.heap.objs.size + 1) scope.names (cloFrom X.env.cells scope.names [])) fp
  show codeAny _ _ (.compStart (.ListComp elt [⟨tg, iter, [], 0⟩] scope pos) 0 (.ref it) (.ref D) (compEnvC scope (cellsFrom (s3.heap.objs.size + 1) scope.names (cloFrom X.env.cells scope.names [])) s3.heap.objs.size X.env)) (compPost (model X.prog X.w) X.A X.xe none (EP X pins σ Q) (.ref D) s3.heap.objs.size) { s3 with heap := pushCells (s3.heap.push { cls := .type "dict", data := .dict #[] }) scope.names }
  have k34 : ∀ b o, s3.heap.get? b = some o → (pushCells (s3.heap.push { cls := .type "dict", data := .dict #[] }) scope.names).get? b = some o := fun b o e => pushCells_keeps _ _ _ _ (Heap.get?_push_of_some _ e)
  have J4 := blk_show I3 hfn I4 sh k34 (fun y c e hcc => by
      have e : (cellsFrom (s3.heap.objs.size + 1) scope.names (cloFrom X.env.cells scope.names [])).lookup y = some c := e
      rw [ecl, ← Heap.size_push s3.heap { cls := .type "dict", data := .dict #[] }] at e
      rcases cells_mem (PySem.mem_of_lookup e) with z | ⟨_, z, _⟩
      · cases z
      · have y1 := (cells_young I3 hfn hcc).2.1
        rw [Heap.size_push] at z
        exact absurd (Nat.lt_of_lt_of_le y1 (Nat.le_of_succ_le z)) (Nat.lt_irrefl _)) (fun hcc => Nat.lt_irrefl _ (cells_young I3 hfn hcc).2.1)
  generalize hce : compEnvC scope (cellsFrom (s3.heap.objs.size + 1) scope.names (cloFrom X.env.cells scope.names [])) s3.heap.objs.size X.env = ce at J4 pg pe ⊢
  have cL : ce.locals = s3.heap.objs.size := by rw [← hce]; rfl
  clear I4
  generalize hs4 : ({ s3 with heap := pushCells (s3.heap.push { cls := .type "dict", data := .dict #[] }) scope.names } : Shared) = s4 at J4 ⊢
  have t4 : tn 0 s4.heap := T.keep _ _ _ t3 fun b _ o e => by rw [← hs4]; exact k34 b o e
  have nfp : ∀ b ∈ fp, H2 b = none := fun b hb => by
    rw [sh.out b fun hcc => by obtain ⟨y, e⟩ := mem_cellsOf.mp hcc; exact (f3 b hb).1.2.2.2.2.1 y b e rfl]
    exact (f3 b hb).1.1
  have fpo : ∀ {τ : L2.St} {K1 : Hp} {s' : Shared}, Inv (X.blk s3 H2 scope ce fp) [] τ K1 s' → (∀ b ∈ fp, K1 b = none) → ∀ b ∈ fp, FpOk (X.blk s3 H2 scope ce fp) [] K1 b := fun {τ K1 s'} JJ hn b hb =>
    ⟨hn b hb, (JJ.ok.exf b hb).1, JJ.ok.exfs b hb, .inl hb, fun x c e => (JJ.ok.exf b hb).2 x c e, fun p hp => absurd (show p ∈ ([] : List (Addr × Obj)) ++ [] from hp) (by simp)⟩
  have loop : codeAny (model X.prog X.w) X.A (.compLoop (.ListComp elt [⟨tg, iter, [], 0⟩] scope pos) 0 (.ref it) (.ref D) ce) (compPost (model X.prog X.w) X.A X.xe none (EP X pins σ Q) (.ref D) s3.heap.objs.size) s4 := by
    refine compLoop_any (fun n s' => ∃ i K1, Inv (X.blk s3 H2 scope ce fp) [] (L2.wipe σ (own.map (·.2))) K1 s' ∧ tn i s'.heap ∧ (∀ b ∈ fp, K1 b = none) ∧ W i n K1) ?_ m0 ⟨0, H2, J4, t4, nfp, w0⟩
    rintro n s5 ⟨i, K5, J5, t5, n5, w5⟩
    rcases turn i n K5 w5 with ⟨stop, fin⟩ | ⟨go, Nx, hNx, step⟩
    · refine thnF (T.done (X.blk s3 H2 scope ce fp) rfl rfl rfl hc i [] s5 _ K5 (fun _ _ => False) J5 (fpo J5 n5) t5 stop) fun r s6 ⟨hr, J6⟩ => ?_
      subst hr
      obtain ⟨un, frz, hok⟩ := Un.hid (J6.base : Un (frs X.stack) fp H2 K5 s3.heap s6.heap) sh J6.hok
      have I7 : Inv X pins σ (hidC (cellsOf X.env.cells) K5) s6 := I3.call' (ch := fp) J6.os un hok J6.bare fun b hb => ⟨(f3 b hb).1.2.2.2.1, (f3 b hb).1.2.1, (f3 b hb).1.2.2.2.2.1, (f3 b hb).1.2.2.2.2.2⟩
      have nC : K5 s3.heap.objs.size = none := by rw [← cL]; exact J6.free
      obtain ⟨m, hn, _⟩ := J6.loc
      have hn : s6.heap.Ns ce.locals m := hn
      rw [cL] at hn
      obtain ⟨g0, g1, g2, g3, g4, g5⟩ := I3.fpOk (H' := hidC (cellsOf X.env.cells) K5) (Nat.le_refl _) (by
        by_cases hb : s3.heap.objs.size ∈ cellsOf X.env.cells
        · exact hid_in hb
        · rw [hid_out hb]; exact nC)
      exact ⟨m, hn, fun h'' sb => ⟨.ref D, _, I7.turned (t' := s6.toks) (fun b o hb e => (sb.2 b hb).trans e) g0 g1 g3 g4 g5, rfl, fin frz⟩⟩
    · refine thnF (T.item (X.blk s3 H2 scope ce fp) rfl rfl rfl hc i [] s5 _ K5 (fun _ _ => False) J5 (fpo J5 n5) t5 go) fun r s6 ⟨u, hr, h6⟩ => ?_
      subst hr
      refine thnF h6 fun _ s7 ⟨x, K7, J7, r7, y7, t7, n7⟩ => ?_
      have P7 := J7.pinned (fpo J7 n7) (T.obj _ _ t7)
      refine thnF (pg.run _ s7 _ K7 x u _ P7 r7 (step x K7 y7)) fun _ s8 ⟨τ8, K8, J8, hw, q8⟩ => ?_
      refine wpAny_tests_nil ?_
      simp only [if_true]
      refine thnF (pe.run _ s8 τ8 K8 _ J8 q8) fun z s9 ⟨y, K9, J9, r9, acc, d9, z9, nx⟩ => ?_
      refine app_ok (X := X.blk s3 H2 scope ce fp) J9 d9 z9 r9 fun s10 J10 => ?_
      obtain ⟨m', hm, w'⟩ := hNx _ nx
      have stay : ∀ b ∈ fp, ∀ o, s7.heap.get? b = some o → s10.heap.get? b = some o ∧ upd K9 D (.lst (acc ++ [y])) b = none := fun b hb o e => by
        have z := J10.pin (b, o) (List.mem_append_right _ (List.mem_append_right _ (mem_pinsAt hb e)))
        exact ⟨z.1, z.2.1⟩
      refine ⟨m', hm, i + 1, _, (J10.unpinned (pins := [])).weak (by rw [← hw, wipe_length]) (fun j v e => ?_), T.keep _ _ _ t7 fun b hb o e => (stay b hb o e).1, fun b hb => ?_, w'⟩
      · rw [← hw] at e
        exact (wipe_some e).1
      · obtain ⟨o, e, _⟩ := T.obj _ _ t7 b hb
        exact (stay b hb o e).2
  exact codeAny_compStart_list loop (T.self X.A 0 _ _ _ t4 loop)
end
end Mi
end

section
set_option Elab.async false
set_option linter.all false
set_option maxRecDepth 100000
/-! What stays of a stretch that ran over another view of the heap. -/
namespace Mi
open PySem PySem.Spec PyProof.Rows L2 LamX NdefX
variable [LT]
open Classical in
/-- F, and what is new in F' that any frame may know -/
noncomputable def merge (F F' : Hp) : Hp := fun b => match F b with
  | some u => some u
  | none => match F' b with
    | some u => if Soft u then some u else none
    | none => none
open Classical in
/-- without lambdas and cells -/
noncomputable def dropL (F : Hp) : Hp := fun b => match F b with
  | some u => if Soft u then some u else none
  | none => none
section
variable {F F' Fm H Hm H' H3 : Hp} {A R Z : List Addr} {B : Bs} {K : PySem.W.Frag}
theorem merge_old {b : Addr} {u : HO} (e : F b = some u) : merge F F' b = some u := by unfold merge; rw [e]
theorem merge_new {b : Addr} {u : HO} (e : F b = none) (e2 : F' b = some u) (h : Soft u) : merge F F' b = some u := by
  unfold merge
  rw [e]
  simp only [e2]
  exact if_pos h
theorem merge_of {b : Addr} {u : HO} (h : merge F F' b = some u) : F b = some u ∨ (F b = none ∧ F' b = some u ∧ Soft u) := by
  unfold merge at h
  split at h
  · rename_i u' e
    cases h
    exact .inl e
  · rename_i e
    split at h
    · rename_i u' e2
      split at h
      · rename_i hs
        cases h
        exact .inr ⟨e, e2, hs⟩
      · cases h
    · cases h
theorem dropL_of {b : Addr} {u : HO} (h : dropL F b = some u) : F b = some u ∧ Soft u := by
  unfold dropL at h
  split at h
  · rename_i u' e2
    split at h
    · rename_i hs
      cases h
      exact ⟨e2, hs⟩
    · cases h
  · cases h
theorem dropL_at {b : Addr} {u : HO} (e : F b = some u) (h : Soft u) : dropL F b = some u := by
  unfold dropL
  rw [e]
  exact if_pos h
theorem not_soft_lam {LF : NF} {e : Expr} {pm ctv : Value} : ¬ Soft (LamO LF e pm ctv) := fun h => h _ _ rfl
theorem not_soft_cell {o : Obj} : ¬ Soft (.frz o tru) := fun h => h _ _ rfl
theorem dropL_closed : Closed (dropL F) := fun f LF e pm ctv q => (not_soft_lam (dropL_of q).2).elim
theorem dropL_same : Same (dropL F) F := fun b u e => (dropL_of e).1
structure Mg (F H : Hp) (A : List Addr) (Fm Hm F' H' H3 : Hp) : Prop where
  m1 : ∀ b u, Fm b = some u → Soft u → F b = some u
  s2 : ∀ b u, F' b = some u → Soft u → H3 b = some u
  s3 : ∀ b u, H b = some u → (∀ ps, u ≠ .tbl ps) → b ∉ A → H3 b = some u
  s4 : ∀ b ps, H b = some (.tbl ps) → ∃ qs, H3 b = some (.tbl qs)
  s5 : Tabs LT.T H → Tabs LT.T H3
  s6 : ∀ b, Hm b = none → (∃ u, H' b = some u) → H b = none
  s7 : ∀ b φ, Hm b = some (.ext φ) → H b = some (.ext φ)
  s8 : ∀ b xs, H' b = some (.lst xs) → H3 b = some (.lst xs)
theorem merge_own (o : OwnOk B F H (A ++ R)) (i : OwnOk ⟨Fm, Hm, A⟩ F' H' Z) (m : Mg F H A Fm Hm F' H' H3) : OwnOk B (merge F F') H3 (Z ++ R) ∧ (∀ r ∈ R, H3 r = H r) ∧ Same F (merge F F') := by
  have hR : ∀ r ∈ R, r ∉ A := fun r hr ha => apart o.nodup ha hr
  have keep : ∀ r ∈ R, H3 r = H r := fun r hr => by
    obtain ⟨xs, e⟩ := o.live r (List.mem_append_right _ hr)
    rw [e, m.s3 r _ e (fun _ z => nomatch z) (hR r hr)]
  have hF : Same F (merge F F') := fun b u e => merge_old e
  have fresh : ∀ b, H b = none → b ∈ B.fp0 ∨ B.H0 b = none := fun b h => by
    by_cases hb : b ∈ B.fp0
    · exact .inl hb
    · exact .inr (o.fresh0 h hb)
  have zA : ∀ a ∈ Z, a ∉ A → H a = none := fun a ha hn => by
    rcases i.ownB a ha with z | z
    · exact (hn z).elim
    · obtain ⟨xs, e⟩ := i.live a ha
      exact m.s6 a z ⟨_, e⟩
  -- what is new in F'
  have new : ∀ b u, F' b = some u → Soft u → F b = none → b ∈ A ∨ H b = none ∨ ∃ φ, u = .ext φ ∧ H b = some (.ext φ) := fun b u e hs hn => by
    rcases i.frzB b u e with z | z | z | ⟨z, φ, rfl⟩
    · rw [m.m1 b u z hs] at hn; cases hn
    · exact .inl z
    · exact .inr (.inl (m.s6 b z ⟨_, i.sub _ _ e⟩))
    · exact .inr (.inr ⟨φ, rfl, m.s7 b φ z⟩)
  refine ⟨⟨fun b u e => ?_, Same.trans o.base hF, fun b u e t n => ?_, fun b ps e => ?_, fun b ps e => ?_, fun h => m.s5 (o.tabs h), fun a ha => ?_, fun b u e => ?_, ?_, fun a ha => ?_, fun a ha => ?_⟩, keep, hF⟩
  · rcases merge_of e with e | ⟨_, e, hs⟩
    · exact m.s3 b u (o.sub _ _ e) (fun ps z => o.nof b ps (by rw [e, z])) fun ha => by
        rw [o.disj b (List.mem_append_left _ ha)] at e; cases e
    · exact m.s2 b u e hs
  · refine m.s3 b u (o.frame b u e t n) t fun ha => ?_
    rcases o.ownB b (List.mem_append_left _ ha) with h | h
    · exact n h
    · rw [h] at e; cases e
  · obtain ⟨qs, e1⟩ := o.tbl b ps e
    exact m.s4 b qs e1
  · rcases merge_of e with e | ⟨_, e, hs⟩
    · exact o.nof b ps e
    · exact i.nof b ps e
  · rcases List.mem_append.mp ha with h | h
    · by_cases hA : a ∈ A
      · exact o.ownB a (List.mem_append_left _ hA)
      · exact fresh a (zA a h hA)
    · exact o.ownB a (List.mem_append_right _ h)
  · rcases merge_of e with e | ⟨hn, e, hs⟩
    · exact o.frzB b u e
    · rcases new b u e hs hn with h | h | ⟨φ, rfl, h⟩
      · rcases o.ownB b (List.mem_append_left _ h) with z | z
        · exact .inr (.inl z)
        · exact .inr (.inr (.inl z))
      · rcases fresh b h with z | z
        · exact .inr (.inl z)
        · exact .inr (.inr (.inl z))
      · by_cases hb : b ∈ B.fp0
        · exact .inr (.inl hb)
        · cases q : B.H0 b with
          | none => exact .inr (.inr (.inl rfl))
          | some u' =>
            right; right; right
            by_cases ht : ∃ ps, u' = .tbl ps
            · obtain ⟨ps, rfl⟩ := ht
              obtain ⟨qs, e1⟩ := o.tbl b ps q
              rw [h] at e1; cases e1
            · have e1 := o.frame b u' q (fun ps z => ht ⟨ps, z⟩) hb
              rw [h] at e1
              exact ⟨e1.symm, φ, rfl⟩
  · refine nodup_app i.nodup (SubP.right A R |>.nodup o.nodup) fun a h1 h2 => ?_
    have e := zA a h1 (hR a h2)
    obtain ⟨xs, z⟩ := o.live a (List.mem_append_right _ h2)
    rw [e] at z; cases z
  · cases q : merge F F' a with
    | none => rfl
    | some u =>
      rcases merge_of q with e | ⟨hn, e, hs⟩
      · rcases List.mem_append.mp ha with h | h
        · by_cases hA : a ∈ A
          · rw [o.disj a (List.mem_append_left _ hA)] at e; cases e
          · have z := o.sub _ _ e
            rw [zA a h hA] at z; cases z
        · rw [o.disj a (List.mem_append_right _ h)] at e; cases e
      · rcases List.mem_append.mp ha with h | h
        · rw [i.disj a h] at e; cases e
        · obtain ⟨xs, z⟩ := o.live a (List.mem_append_right _ h)
          rcases new a u e hs hn with y | y | ⟨φ, _, y⟩
          · exact (hR a h y).elim
          · rw [y] at z; cases z
          · rw [y] at z; cases z
  · rcases List.mem_append.mp ha with h | h
    · obtain ⟨xs, e⟩ := i.live a h
      exact ⟨xs, m.s8 a xs e⟩
    · obtain ⟨xs, e⟩ := o.live a (List.mem_append_right _ h)
      exact ⟨xs, by rw [keep a h]; exact e⟩
/-- a plain value, behind -/
theorem merge_soft (o : OwnOk B (merge F F') H3 (Z ++ R)) (m : Mg F H A Fm Hm F' H' H3) : ∀ b u, F' b = some u → Soft u → merge F F' b = some u := fun b u e hs => by
  cases q : F b with
  | none => exact merge_new q e hs
  | some u' =>
    have e1 := o.sub b u' (merge_old q)
    rw [m.s2 b u e hs] at e1
    cases e1
    exact merge_old q
theorem merge_rep {fr1 fr2 : Fr} {d : D} {v : V} {fp : List Addr} (o : OwnOk B (merge F F') H3 (Z ++ R)) (i : OwnOk ⟨Fm, Hm, A⟩ F' H' Z) (m : Mg F H A Fm Hm F' H' H3) (hp : d.plain = true) (hz : ∀ a ∈ fp, a ∈ Z) (r : @Rep _ fr1 K F' H' d v fp) : @Rep _ fr2 K (merge F F') H3 d v fp :=
  Rep.thin (merge_soft o m) d v fp hp (fun a ha => by
    obtain ⟨xs, e⟩ := i.live a (hz a ha)
    rw [e, m.s8 a xs e]) r
theorem merge_repP {fr1 fr2 : Fr} (o : OwnOk B (merge F F') H3 (Z ++ R)) (i : OwnOk ⟨Fm, Hm, A⟩ F' H' Z) (m : Mg F H A Fm Hm F' H' H3) : ∀ {ds : List D} {vs : List V} {fps : List (List Addr)}, plainL ds = true → (∀ a ∈ fps.flatten, a ∈ Z) → @RepP _ fr1 K F' H' ds vs fps → @RepP _ fr2 K (merge F F') H3 ds vs fps
  | [], [], [], _, _, _ => trivial
  | d :: ds, v :: vs, f :: fps, hp, hz, h => by
    simp only [plainL, Bool.and_eq_true] at hp
    exact ⟨merge_rep o i m hp.1 (fun a ha => hz a (by simp [ha])) h.1, merge_repP o i m hp.2 (fun a ha => hz a (by rw [List.flatten_cons]; exact List.mem_append_right _ ha)) h.2⟩
  | [], _ :: _, _, _, _, h => h.elim
  | [], [], _ :: _, _, _, h => h.elim
  | _ :: _, [], _, _, _, h => h.elim
  | _ :: _, _ :: _, [], _, _, h => h.elim
theorem thin_repP {fr1 fr2 : Fr} (hF : ∀ b u, F b = some u → Soft u → F' b = some u) : ∀ {ds : List D} {vs : List V} {fps : List (List Addr)}, plainL ds = true → @RepP _ fr1 K F H ds vs fps → @RepP _ fr2 K F' H ds vs fps
  | [], [], [], _, _ => trivial
  | d :: ds, v :: vs, f :: fps, hp, h => by
    simp only [plainL, Bool.and_eq_true] at hp
    exact ⟨Rep.thin hF d v f hp.1 (fun _ _ => rfl) h.1, thin_repP hF hp.2 h.2⟩
  | [], _ :: _, _, _, h => h.elim
  | [], [], _ :: _, _, h => h.elim
  | _ :: _, [], _, _, h => h.elim
  | _ :: _, _ :: _, [], _, h => h.elim
theorem merge_repX {fr1 fr2 : Fr} {c : String} {d : D} {cls : Value} {dx : Option Addr} (o : OwnOk B (merge F F') H3 (Z ++ R)) (i : OwnOk ⟨Fm, Hm, A⟩ F' H' Z) (m : Mg F H A Fm Hm F' H' H3) (hp : d.plain = true) (r : @RepX _ fr1 K F' H' c d cls dx) : @RepX _ fr2 K (merge F F') H3 c d cls dx := by
  obtain ⟨e1, a, v, e2, e3, e4⟩ := r
  exact ⟨e1, a, v, e2, merge_soft o m a _ e3 (fun _ _ z => nomatch z), merge_rep o i m hp (fun a ha => nomatch ha) e4⟩
/-- a call from a frame with lambdas -/
theorem Mg.call (i : OwnOk ⟨dropL F, H, A⟩ F' H' Z) : Mg F H A (dropL F) H F' H' H' where
  m1 := fun b u e _ => (dropL_of e).1
  s2 := fun b u e _ => i.sub b u e
  s3 := fun b u e t n => i.frame b u e t n
  s4 := fun b ps e => i.tbl b ps e
  s5 := i.tabs
  s6 := fun b e _ => e
  s7 := fun b φ e => e
  s8 := fun b xs e => e
theorem tabs_out {C : List Addr} {H H' : Hp} (f : FrzAt C H) (h : ∀ b, b ∉ C → H' b = H b) (t : Tabs LT.T H) : Tabs LT.T H' := fun p hp => by
  obtain ⟨ps, a1, a2, a3⟩ := t p hp
  refine ⟨ps, by rw [h _ (f.ne a1 fun _ z => nomatch z)]; exact a1, a2, fun pos cv hc => ?_⟩
  obtain ⟨c, e1, e2⟩ := a3 pos cv hc
  exact ⟨c, e1, by rw [h _ (f.ne e2 fun _ z => by unfold CodeO at z; cases z)]; exact e2⟩
theorem tabs_in {C : List Addr} {H H' : Hp} (n : ∀ c ∈ C, H c = none) (h : ∀ b, b ∉ C → H' b = H b) (t : Tabs LT.T H) : Tabs LT.T H' := fun p hp => by
  have no : ∀ {b u}, H b = some u → b ∉ C := fun {b u} e z => by rw [n b z] at e; cases e
  obtain ⟨ps, a1, a2, a3⟩ := t p hp
  refine ⟨ps, by rw [h _ (no a1)]; exact a1, a2, fun pos cv hc => ?_⟩
  obtain ⟨c, e1, e2⟩ := a3 pos cv hc
  exact ⟨c, e1, by rw [h _ (no e2)]; exact e2⟩
/-- a lambda's body, whose cells nobody else knows meanwhile -/
theorem Mg.hid {C : List Addr} (f : FrzAt C H) (n : ∀ c ∈ C, H' c = none) (i : OwnOk ⟨dropL F, hidC C H, A⟩ F' H' Z) (hA : ∀ a ∈ A, a ∉ C) : Mg F H A (dropL F) (hidC C H) F' H' (shwC C H H') where
  m1 := fun b u e _ => (dropL_of e).1
  s2 := fun b u e _ => by
    have e1 := i.sub b u e
    rw [shw_out fun z => by rw [n b z] at e1; cases e1]
    exact e1
  s3 := fun b u e t nA => by
    by_cases hb : b ∈ C
    · rw [shw_in hb]; exact e
    · rw [shw_out hb]; exact i.frame b u ((hid_out hb).trans e) t nA
  s4 := fun b ps e => by
    have hb := f.ne e (fun _ z => nomatch z)
    rw [shw_out hb]
    exact i.tbl b ps ((hid_out hb).trans e)
  s5 := fun t => tabs_in n (fun b hb => shw_out hb) (i.tabs (tabs_out f (fun b hb => hid_out hb) t))
  s6 := fun b e ⟨u, e2⟩ => by
    have hb : b ∉ C := fun z => by rw [n b z] at e2; cases e2
    rw [hid_out hb] at e
    exact e
  s7 := fun b φ e => by
    by_cases hb : b ∈ C
    · rw [hid_in hb] at e; cases e
    · rw [hid_out hb] at e; exact e
  s8 := fun b xs e => by
    rw [shw_out fun z => by rw [n b z] at e; cases e]
    exact e
/-- a block to which the frame's cells are shown -/
theorem Mg.shw {C : List Addr} {H2 F2 : Hp} (out : ∀ b, b ∉ C → H2 b = H b) (non : ∀ c ∈ C, H c = none) (inn : FrzAt C H2) (f' : FrzAt C H') (hF2 : ∀ b u, F2 b = some u → Soft u → F b = some u) (i : OwnOk ⟨F2, H2, A⟩ F' H' Z) : Mg F H A F2 H2 F' H' (hidC C H') where
  m1 := hF2
  s2 := fun b u e hs => by
    have e1 := i.sub b u e
    rw [hid_out (f'.ne e1 fun o z => by rw [z] at hs; exact not_soft_cell hs)]
    exact e1
  s3 := fun b u e t nA => by
    have hb : b ∉ C := fun z => by rw [non b z] at e; cases e
    have e1 := i.frame b u ((out b hb).trans e) t nA
    rw [hid_out hb]
    exact e1
  s4 := fun b ps e => by
    have hb : b ∉ C := fun z => by rw [non b z] at e; cases e
    rw [hid_out hb]
    exact i.tbl b ps ((out b hb).trans e)
  s5 := fun t => tabs_out f' (fun b hb => hid_out hb) (i.tabs (tabs_in non out t))
  s6 := fun b e _ => by
    by_cases hb : b ∈ C
    · exact non b hb
    · rw [← out b hb]; exact e
  s7 := fun b φ e => by
    rw [← out b (inn.ne e fun _ z => nomatch z)]
    exact e
  s8 := fun b xs e => by
    rw [hid_out (f'.ne e fun _ z => nomatch z)]
    exact e
end
/-- the lambdas, as the frame may know them -/
def Opn [Fr] (F : Hp) : Prop := ∀ f LF e pm ctv, F f = some (LamO LF e pm ctv) → CellsF F LF.cl ∨ ∀ y c, LF.cl.lookup y = some c → Fr.cells.lookup y = some c
theorem Opn.merge [Fr] {F F' : Hp} (h : Opn F) : Opn (merge F F') := fun f LF e pm ctv q => by
  rcases merge_of q with q | ⟨_, _, hs⟩
  · exact (h f LF e pm ctv q).imp_left (CellsF.mono fun b u e => merge_old e)
  · exact (not_soft_lam hs).elim
end Mi
end

section
set_option Elab.async false
set_option linter.all false
set_option maxRecDepth 100000
/-! In a def that makes lambdas: a lambda, a call. -/
namespace Mi
open PySem PySem.Spec PyProof.Rows L2 LamX NdefX
variable [LT] [fr : Fr]
variable {K : PySem.W.Frag} {Φ : Fns} {E : XK} {B : Bs} {lk : List (Nat × V)} {F F' H H' : Hp} {σ : L2.St} {ρ : Env} {fps : List (List Addr)} {ts : List (V × Tm)} {Q : VK}
theorem codeO_nf {a : Addr} {q : Str} : Soft (CodeO a q) := fun _ _ z => by unfold CodeO at z; cases z
/-- what is known behind the making of a lambda -/
theorem ownOk_lam {all : List Addr} {P c' f : Addr} {q : Str} {H1 : Hp} {LF : NF} {e : Expr} {pm ctv : Value} (o : OwnOk B F H all) (g : Grow P c' q H H1) (t1 : Tabs LT.T H1) (n : H1 f = none) :
    OwnOk B (upd (upd F c' (CodeO c' q)) f (LamO LF e pm ctv)) (upd H1 f (LamO LF e pm ctv)) all ∧ Same F (upd (upd F c' (CodeO c' q)) f (LamO LF e pm ctv)) ∧ (∀ a ∈ all, upd H1 f (LamO LF e pm ctv) a = H a) ∧ (upd (upd F c' (CodeO c' q)) f (LamO LF e pm ctv)) c' = some (CodeO c' q) := by
  obtain ⟨ps, hP⟩ := g.old
  obtain ⟨qs, hP1⟩ := g.tbl
  have nPf : P ≠ f := fun z => by rw [z, n] at hP1; cases hP1
  have ncf : c' ≠ f := fun z => by have := g.cod; rw [z, n] at this; cases this
  have nPc : P ≠ c' := fun z => by
    have := g.cod
    rw [← z, hP1] at this
    have := Option.some.inj this
    unfold CodeO at this
    cases this
  have nf : H f = none := by rw [← g.at_ f (Ne.symm nPf) (Ne.symm ncf)]; exact n
  have nFf : F f = none := Same.none o.sub nf
  -- what was known and is no table
  have keep : ∀ b u, H b = some u → (∀ xs, u ≠ .tbl xs) → H1 b = some u ∧ b ≠ f := fun b u e t => by
    have h1 : b ≠ P := fun z => by rw [z, hP] at e; cases e; exact t _ rfl
    have h3 : b ≠ f := fun z => by rw [z, nf] at e; cases e
    refine ⟨?_, h3⟩
    by_cases h2 : b = c'
    · subst h2
      rcases g.new with z | z
      · rw [z] at e; cases e
      · rw [z] at e; cases e; exact g.cod
    · rw [g.at_ b h1 h2]; exact e
  have sF : Same F (upd (upd F c' (CodeO c' q)) f (LamO LF e pm ctv)) := fun b u e => by
    have e1 := o.sub b u e
    have h3 : b ≠ f := fun z => by rw [z, nf] at e1; cases e1
    rw [upd_ne h3]
    by_cases h2 : b = c'
    · subst h2
      rcases g.new with z | z
      · rw [z] at e1; cases e1
      · rw [z] at e1; cases e1; exact upd_same
    · rw [upd_ne h2]; exact e
  have lst : ∀ a ∈ all, ∃ xs, H a = some (.lst xs) ∧ a ≠ f ∧ a ≠ c' ∧ upd H1 f (LamO LF e pm ctv) a = H a := fun a ha => by
    obtain ⟨xs, e⟩ := o.live a ha
    obtain ⟨k1, k2⟩ := keep a _ e (fun _ z => nomatch z)
    refine ⟨xs, e, k2, fun z => ?_, by rw [upd_ne k2, k1, e]⟩
    subst z
    rw [g.cod] at k1
    have := Option.some.inj k1
    unfold CodeO at this
    cases this
  refine ⟨⟨fun b u e => ?_, Same.trans o.base sF, fun b u e t m => ?_, fun b ps' e => ?_, fun b ps' e => ?_, fun _ => ?_, o.ownB, fun b u e => ?_, o.nodup, fun a ha => ?_, fun a ha => ?_⟩, sF, fun a ha => by
    obtain ⟨_, _, _, _, z⟩ := lst a ha
    exact z, by rw [upd_ne ncf, upd_same]⟩
  · by_cases h3 : b = f
    · subst h3; rw [upd_same] at e ⊢; exact e
    · rw [upd_ne h3] at e ⊢
      by_cases h2 : b = c'
      · subst h2; rw [upd_same] at e; cases e; exact g.cod
      · rw [upd_ne h2] at e
        exact (keep b u (o.sub b u e) fun xs z => o.nof b xs (by rw [e, z])).1
  · obtain ⟨k1, k2⟩ := keep b u (o.frame b u e t m) t
    rw [upd_ne k2]; exact k1
  · obtain ⟨rs, e1⟩ := o.tbl b ps' e
    have h3 : b ≠ f := fun z => by rw [z, nf] at e1; cases e1
    by_cases h1 : b = P
    · subst h1; exact ⟨qs, by rw [upd_ne h3]; exact hP1⟩
    · have h2 : b ≠ c' := fun z => by
        subst z
        rcases g.new with z | z
        · rw [z] at e1; cases e1
        · rw [z] at e1
          have := Option.some.inj e1
          unfold CodeO at this
          cases this
      exact ⟨rs, by rw [upd_ne h3, g.at_ b h1 h2]; exact e1⟩
  · by_cases h3 : b = f
    · subst h3; rw [upd_same] at e; cases e
    · rw [upd_ne h3] at e
      by_cases h2 : b = c'
      · subst h2; rw [upd_same] at e
        have := Option.some.inj e
        unfold CodeO at this
        cases this
      · rw [upd_ne h2] at e; exact o.nof b ps' e
  · exact t1.ext (same_upd n)
  · by_cases h3 : b = f
    · by_cases hb : b ∈ B.fp0
      · exact .inr (.inl hb)
      · exact .inr (.inr (.inl (o.fresh0 (by rw [h3]; exact nf) hb)))
    · rw [upd_ne h3] at e
      by_cases h2 : b = c'
      · subst h2
        rw [upd_same] at e
        cases e
        by_cases hb : b ∈ B.fp0
        · exact .inr (.inl hb)
        · rcases g.new with z | z
          · exact .inr (.inr (.inl (o.fresh0 z hb)))
          · cases q' : B.H0 b with
            | none => exact .inr (.inr (.inl rfl))
            | some u' =>
              right; right; right
              by_cases ht : ∃ ps, u' = .tbl ps
              · obtain ⟨ps, rfl⟩ := ht
                obtain ⟨qs, e1⟩ := o.tbl b ps q'
                rw [z] at e1
                have := Option.some.inj e1
                unfold CodeO at this
                cases this
              · have e1 := o.frame b u' q' (fun ps z => ht ⟨ps, z⟩) hb
                rw [z] at e1
                exact ⟨e1.symm, _, rfl⟩
      · rw [upd_ne h2] at e; exact o.frzB b u e
  · obtain ⟨xs, e1, h1, h2, _⟩ := lst a ha
    rw [upd_ne h1, upd_ne h2]; exact o.disj a ha
  · obtain ⟨xs, e1, h1, h2, e2⟩ := lst a ha
    exact ⟨xs, by rw [e2]; exact e1⟩
theorem t_lam {k : Nat} {P : Addr} {q nm : Str} {params : Arguments} {body : Expr} {scope : Scope} {cl : List (Str × Addr)} (hok : LT.ok k params body scope q) (hcl : InjCl cl → ∀ y c, cl.lookup y = some c → Fr.cells.lookup y = some c) (hcap : ∀ y ∈ LT.caps k, ∃ c, cl.lookup y = some c) (h : tI K Φ E (.lam k) σ H Q) :
    Tabs LT.T H ∧ ∀ f c' pm ctv H1, Grow P c' q H H1 → Tabs LT.T H1 → H1 f = none → InjCl cl → Q (.ref f) (upd H1 f (LamO ⟨nm, q, params, [], scope, cl, c'⟩ body pm ctv)) := by
  obtain ⟨B, lk, F, ρ, fps, ts, S, o⟩ := h
  refine ⟨S.own.tabs S.tb, fun f c' pm ctv H1 g t1 n inj => ?_⟩
  obtain ⟨o2, sF, kp, ec⟩ := ownOk_lam (LF := ⟨nm, q, params, [], scope, cl, c'⟩) (e := body) (pm := pm) (ctv := ctv) S.own g t1 n
  have o : ∀ v fp F' H' fps', Sta K B lk F' H' σ ρ fps' ((v, .own (.clo k []) fp) :: ts) → Q v H' := o
  refine o (.ref f) [] _ _ fps (Sta.pushOwn (Sta.mono0 S sF kp o2 fun f' LF e' pm' ctv' z => ?_) o2 ?_)
  · by_cases hf : f' = f
    · subst hf
      rw [upd_same] at z
      have := LamO.inj (Option.some.inj z)
      right
      rw [← this]
      exact hcl inj
    · rw [upd_ne hf] at z
      by_cases h2 : f' = c'
      · subst h2
        rw [upd_same] at z
        have := Option.some.inj z
        unfold CodeO LamO at this
        cases this
      · rw [upd_ne h2] at z
        exact (S.opn f' LF e' pm' ctv' z).imp_left (CellsF.mono sF)
  · simp only [Rep]
    exact ⟨f, _, body, pm, ctv, [], rfl, upd_same, ec, hok, inj, by simp [RepL], fun _ => ⟨hcl inj, hcap⟩, fun z => absurd rfl z, trivial⟩
theorem o_callM {f : Nat} {vs : List V} (h : OpsAt K E (fun os ρ1 => match nodupN (OV.refs os), getAll ρ1 os with
    | true, some ds => if plainL ds then match Φ f ds with
      | .ok d as => if as.length = ds.length ∧ d.plain = true ∧ plainL as = true then .ok d (putBack os as ρ1) else .stk
      | .exc c d as => if d.plain = true ∧ plainL as = true then .exc c d (putBack os as ρ1) else .stk
      | .stk => .stk else .stk
    | _, _ => .stk) σ Q vs H) : spI K Φ f vs H Q E := by
  obtain ⟨B, lk, F, ρ, fps, ts, os, tms, rfl, hi, S, o⟩ := h
  cases hn : nodupN (OV.refs os) with
  | false => simp only [hn] at o; exact o.elim
  | true =>
    cases e : getAll ρ os with
    | none => simp only [hn, e] at o; exact o.elim
    | some ds =>
      simp only [hn, e] at o
      cases hp : plainL ds with
      | false => rw [hp] at o; exact o.elim
      | true =>
      rw [hp] at o
      simp only [if_true] at o
      have ht : ∀ t ∈ tms, TmOk K F H σ t := fun t h => S.temps t (by simp [h])
      have rp := lent_rep (fps := fps) hi e ht S.slots
      have ow := lent_own hi S hn e
      refine ⟨dropL F, ds, tms.map (opFp fps), Same.trans dropL_same S.own.sub, thin_repP (fun b u => dropL_at) hp rp, (SubP.left _ _).nodup ow.nodup, fun a ha => ?_, ⟨S.own.tabs S.tb, fun b ps z => S.own.nof b ps (dropL_of z).1, dropL_closed⟩, ?_⟩
      · cases z : dropL F a with
        | none => rfl
        | some u =>
          have z1 := (dropL_of z).1
          rw [ow.disj a (List.mem_append_left _ ha)] at z1; cases z1
      cases eΦ : Φ f ds with
      | stk => rw [eΦ] at o; exact o.elim
      | exc c d as =>
        rw [eΦ] at o
        simp only at o
        split at o
        · rename_i hpl
          have o : XC K E B lk σ c d (putBack os as ρ) := o
          intro cls dx F' H' fps' O cF rx rp'
          have m := Mg.call O
          obtain ⟨ow', keep, hF⟩ := merge_own ow O m
          obtain ⟨fps2, S5⟩ := call_end2 (fp := []) (d := .non) (v := .non) hi S hn e (by simpa using ow') keep hF (by simp [Rep]) (merge_repP ow' O m hpl.2 (fun a ha => ha) rp') (Opn.merge S.opn)
          have S6 : Sta K B lk (merge F F') H' σ (putBack os as ρ) fps2 ([] : List (V × Tm)) := Sta.drops (us := ts) (by simpa using S5.drop)
          exact o cls dx _ H' fps2 S6 (merge_repX ow' O m hpl.1 rx)
        · exact o.elim
      | ok d as =>
        rw [eΦ] at o
        simp only at o ⊢
        split at o
        · rename_i hpl
          intro v F' H' fp fps' O cF r rp'
          have m := Mg.call O
          obtain ⟨ow', keep, hF⟩ := merge_own ow O m
          obtain ⟨fps2, S5⟩ := call_end2 hi S hn e ow' keep hF (merge_rep ow' O m hpl.2.1 (fun a ha => List.mem_append_left _ ha) r) (merge_repP ow' O m hpl.2.2 (fun a ha => List.mem_append_right _ ha) rp') (Opn.merge S.opn)
          exact o v fp _ H' fps2 S5
        · exact o.elim
end Mi
end

section
set_option Elab.async false
set_option linter.all false
set_option maxRecDepth 100000
/-! [e for t in list] in a def that makes lambdas: the block takes the lambdas with what they captured. -/
namespace Mi
open PySem PySem.Spec PyProof.Rows L2 LamX NdefX
variable [LT]
def shF (C : List Addr) (H2 F : Hp) : Hp := fun b => if b ∈ C then H2 b else F b
section
variable {K : PySem.W.Frag} {Φ : Fns} {E : XK} {B : Bs} {lk : List (Nat × V)} {F F' H H' : Hp} {σ : L2.St} {ρ : Env} {fps : List (List Addr)} {ts : List (V × Tm)} {Q : VK} {X : Cx}
theorem lcLoop_ok {step : D → Env → R (Option D)} {d : D} {ds acc es : List D} {ρ ρ' : Env} (h : lcLoop step (d :: ds) acc ρ = .ok es ρ') : (∃ e ρ1, step d ρ = .ok (some e) ρ1 ∧ lcLoop step ds (e :: acc) ρ1 = .ok es ρ') ∨ ∃ ρ1, step d ρ = .ok none ρ1 ∧ lcLoop step ds acc ρ1 = .ok es ρ' := by
  simp only [lcLoop] at h
  cases e : step d ρ with
  | ok o ρ1 =>
    rw [e] at h
    cases o with
    | some x => exact .inl ⟨x, ρ1, rfl, h⟩
    | none => exact .inr ⟨ρ1, rfl, h⟩
  | exc _ _ _ => rw [e] at h; cases h
  | stk => rw [e] at h; cases h
theorem flat_nil : ∀ n : Nat, (List.replicate n ([] : List Addr)).flatten = []
  | 0 => rfl
  | n + 1 => by rw [List.replicate_succ, List.flatten_cons, flat_nil n]; rfl
theorem getE_none {n i : Nat} {d : D} (h : getE (List.replicate n none) i = some d) : False := by
  unfold getE at h
  split at h
  · rename_i o e
    rw [List.getElem?_replicate] at e
    split at e
    · cases e; cases h
    · cases e
  · cases h
section
local instance iFr0_Ln3_1 : Fr := Fr0
/-- the block's start -/
theorem blk_sta {C : List Addr} {H2 F1 : Hp} {n : Nat} {D : Addr} {vs : List Nat} {σ : L2.St} (hσ : σ.length = n) (s1 : Same F1 H) (nf : ∀ b ps, F1 b ≠ some (.tbl ps)) (tb : Tabs LT.T H) (hD : H D = none) (out : ∀ b, b ∉ C → H2 b = upd H D (.lst []) b) (non : ∀ c ∈ C, upd H D (.lst []) c = none) (inn : FrzAt C H2)
    (op : Closed (shF C H2 F1)) : @Sta _ Fr0 K ⟨shF C H2 F1, H2, [D]⟩ [] (shF C H2 F1) H2 (L2.wipe σ vs) (wipeE vs (List.replicate n none)) (List.replicate n []) [(.ref D, .own (.lst true []) [D])] := by
  have nD : D ∉ C := fun z => by have := non D z; rw [upd_same] at this; cases this
  have eD : H2 D = some (.lst []) := by rw [out D nD, upd_same]
  have flt : tfp [((.ref D : V), Tm.own (.lst true []) [D])] ++ (List.replicate n ([] : List Addr)).flatten = [D] := by simp [tfp, Tm.fp, flat_nil]
  have OW : OwnOk ⟨shF C H2 F1, H2, [D]⟩ (shF C H2 F1) H2 [D] := by
    refine ⟨fun b u e => ?_, Same.refl _, fun b o e _ _ => e, fun b ps e => ⟨ps, e⟩, fun b ps e => ?_, id, fun a ha => .inl ha, fun b o e => .inl e, by simp, fun a ha => ?_, fun a ha => ?_⟩
    · unfold shF at e
      split at e
      · exact e
      · rename_i hb
        have e1 := s1 b u e
        rw [out b hb, upd_ne (ne_of_none e1 hD)]
        exact e1
    · unfold shF at e
      split at e
      · rename_i hb
        obtain ⟨o, x, q, _⟩ := inn b hb
        rw [q] at e; cases e
      · exact nf b ps e
    · obtain rfl : a = D := by simpa using ha
      unfold shF
      rw [if_neg nD]
      exact Same.none s1 hD
    · obtain rfl : a = D := by simpa using ha
      exact ⟨[], eD⟩
  refine ⟨by rw [flt]; exact OW, ?_, ?_, fun j d e => ?_, fun t ht => ?_, fun p hp => absurd hp (by simp), tabs_in non out (tb.ext (same_upd hD)), fun f LF e pm ctv q => .inl (op f LF e pm ctv q)⟩
  · rw [wipe_length, wipeE_length, hσ, List.length_replicate]
  · rw [wipeE_length, List.length_replicate, List.length_replicate]
  · exact (getE_none (wipeE_some e).1).elim
  · obtain rfl : t = (.ref D, .own (.lst true []) [D]) := by simpa using ht
    show Rep K _ _ (.lst true []) (.ref D) [D]
    simp only [Rep]
    exact ⟨D, [], [], rfl, eD, by simp [RepL], rfl⟩
end
section
local instance iFr0_Ln3_2 : Fr := Fr0
/-- the block's turns -/
theorem blk_loop {F2 H2 : Hp} {J : L2.It} {ds es : List D} {fp0 : List Addr} {n : Nat} {Da : Addr} {vs : List Nat} {tg : Tg} {elt : IE} {step : D → Env → R (Option D)} {ρ0 ρ' : Env} {fps0 : List (List Addr)} {fpD0 : List Addr} {P : Hp → Prop} (hσ : σ.length = n) (hn : ρ0.length = n) (hv : ∀ j ∈ slotsT tg, j ∈ vs) (hlen : ds.length ≤ SZ)
    (hst : (fun (d : D) (ρ2 : Env) => match bindT [] tg d (wipeE vs ρ2) with
            | some ρ3 => (ev Φ elt ρ3).bind fun e ρ4 => R.ok (some e) ρ4
            | none => R.stk) = step) (hJ : ItOk K F2 J ds) (ST : Sta K ⟨F2, H2, fp0⟩ [] F2 H2 (L2.wipe σ vs) (wipeE vs ρ0) fps0 [(.ref Da, .own (.lst true []) fpD0)]) (hl : lcLoop step ds [] ρ0 = .ok es ρ')
    (fin : ∀ F' H fpD, OwnOk ⟨F2, H2, fp0⟩ F' H fpD → Rep K F' H (.lst true es) (.ref Da) fpD → P H) :
    ∃ W : Nat → Nat → Hp → Prop, (∃ m, W 0 m H2) ∧ ∀ i m H, W i m H → (J.stop i H ∧ P H) ∨ (J.go i H ∧ ∃ Nx : Hp → Prop, (∀ H', Nx H' → ∃ m', m' < m ∧ W (i + 1) m' H') ∧ ∀ x H', J.yld i H x H' → tG K [] tg x (L2.wipe σ vs) H' fun σ2 H3 => L2.wipe σ2 vs = L2.wipe σ vs ∧
      tI K Φ noX elt σ2 H3 fun y H4 => ∃ acc, H4 Da = some (.lst acc) ∧ acc.length < sizeLine ∧ Nx (upd H4 Da (.lst (acc ++ [y])))) := by
  let B2 : Bs := ⟨F2, H2, fp0⟩
  have eσ : ∀ (σ' : L2.St) (js : List Nat), Agree (L2.wipe σ vs) σ' js → σ'.length = n := fun σ' js ag => by rw [ag.1, wipe_length, hσ]
  refine ⟨fun i m H => m = ds.length - i ∧ i ≤ ds.length ∧ ∃ F' acc ρ2 fps' fpD, Same F2 F' ∧ acc.length ≤ i ∧ ρ2.length = n ∧
    Sta K B2 [] F' H (L2.wipe σ vs) (wipeE vs ρ2) fps' [(.ref Da, .own (.lst true acc.reverse) fpD)] ∧ lcLoop step (ds.drop i) acc ρ2 = .ok es ρ', ⟨ds.length, by omega, by omega, _, [], _, _, _, Same.refl _, Nat.le_refl _, hn, ST, by simpa using hl⟩, ?_⟩
  rintro i m H3 ⟨rfl, hi, F5, acc, ρ2, fps2, fpD, sF3, hacc, hl2, S2, w⟩
  by_cases hlt : i < ds.length
  · refine .inr ⟨hJ.go i F5 H3 sF3 S2.own.sub hlt, fun H' => i + 1 ≤ ds.length ∧ ∃ F' acc ρ2 fps' fpD, Same F2 F' ∧ acc.length ≤ i + 1 ∧ ρ2.length = n ∧
      Sta K B2 [] F' H' (L2.wipe σ vs) (wipeE vs ρ2) fps' [(.ref Da, .own (.lst true acc.reverse) fpD)] ∧ lcLoop step (ds.drop (i + 1)) acc ρ2 = .ok es ρ', fun H' nx => ⟨ds.length - (i + 1), by omega, rfl, nx⟩, fun x H4 hy => ?_⟩
    obtain ⟨F3, pr⟩ := hJ.yld i F5 H3 x H4 (ds[i]'hlt) sF3 S2.own.sub hy (by simp [hlt])
    have S3 := S2.push pr
    have ed : ds.drop i = ds[i]'hlt :: ds.drop (i + 1) := by rw [← List.drop_eq_getElem_cons hlt]
    rw [ed] at w
    have nr : NoRefs [((.ref Da : V), Tm.own (.lst true acc.reverse) fpD)] := fun t ht i => by
      obtain rfl := List.mem_singleton.mp ht
      intro z; cases z
    have key : ∃ ρ3 e ρ4, bindT [] tg (ds[i]'hlt) (wipeE vs ρ2) = some ρ3 ∧ ev Φ elt ρ3 = .ok e ρ4 ∧ lcLoop step (ds.drop (i + 1)) (e :: acc) ρ4 = .ok es ρ' := by
      rcases lcLoop_ok w with ⟨e, ρ1, w1, w2⟩ | ⟨ρ1, w1, _⟩
      · rw [← hst] at w1
        simp only at w1
        split at w1
        · rename_i ρ3 e3
          cases e4 : ev Φ elt ρ3 with
          | ok e' ρ4 =>
            rw [e4] at w1
            cases w1
            exact ⟨ρ3, e, ρ1, e3, e4, w2⟩
          | exc _ _ _ => rw [e4] at w1; cases w1
          | stk => rw [e4] at w1; cases w1
        · cases w1
      · rw [← hst] at w1
        simp only at w1
        split at w1
        · rename_i ρ3 e3
          cases e4 : ev Φ elt ρ3 <;> rw [e4] at w1 <;> cases w1
        · cases w1
    obtain ⟨ρ3, e, ρ4, k1, k2, k3⟩ := key
    refine ⟨B2, [], F3, _, _, _, _, _, S3, fun p hp => (nomatch hp), nr, ρ3, k1, fun σ' fps' S4 ag => ⟨wipe_agree ag hv, ?_⟩⟩
    have hw := wipe_agree ag hv
    refine ⟨B2, [], F3, ρ3, fps', _, S4, ?_⟩
    rw [k2]
    intro y fp F5 H5 fps5 S6
    have hl5 : ρ4.length = n := by rw [← S6.len, eσ _ _ ag]
    obtain ⟨accV, f', hD5, hlV, S7⟩ := S6.writeT
    rw [List.length_reverse] at hlV
    refine ⟨accV, hD5, ?_, hlt, F5, e :: acc, ρ4, wipeF vs fps5, f', S6.own.base, by simp; omega, hl5, ?_, k3⟩
    · rw [hlV, ← SZ_eq]; omega
    · have := S7.wipe (fun t ht i => by
        obtain rfl := List.mem_singleton.mp ht
        intro z; cases z) vs
      rw [hw] at this
      rw [List.reverse_cons]
      exact this
  · have hie : i = ds.length := by omega
    subst hie
    refine .inl ⟨hJ.stop _ F5 H3 sF3 S2.own.sub rfl, ?_⟩
    rw [List.drop_length] at w
    simp only [lcLoop] at w
    cases w
    refine fin F5 H3 fpD (S2.own.less ?_) (S2.temps _ (List.mem_cons_self ..))
    simp only [tfp, Tm.fp, List.append_nil]
    exact SubP.left _ _
end
end
variable [fr : Fr]
variable {K : PySem.W.Frag} {Φ : Fns} {E : XK} {B : Bs} {lk : List (Nat × V)} {F F' H H' : Hp} {σ : L2.St} {ρ : Env} {fps : List (List Addr)} {ts : List (V × Tm)} {Q : VK} {X : Cx}
/-- which slots hold what the lambdas captured -/
def CapOk (X : Cx) (ks : List (Nat × List Nat)) : Prop := ∀ k is, ks.lookup k = some is → is.length = (LT.caps k).length ∧ ∀ (n : Nat) y, (LT.caps k)[n]? = some y → ∃ j, is[n]? = some j ∧ X.N[j]? = some y ∧ X.env.scope.names.lookup y = some .cell
section
variable {C : List Addr} {H2 H1 F2 : Hp} {ks : List (Nat × List Nat)}
theorem getPl_cons {i : Nat} {r : List Nat} {ds : List D} (h : getPl ρ (i :: r) = some ds) : ∃ d ds', ds = d :: ds' ∧ getE ρ i = some d ∧ d.plain = true ∧ d.own = false ∧ getPl ρ r = some ds' := by
  simp only [getPl] at h
  cases e : getE ρ i with
  | none => rw [e] at h; cases h
  | some d =>
    cases e2 : getPl ρ r with
    | none => rw [e, e2] at h; cases h
    | some ds' =>
      rw [e, e2] at h
      simp only at h
      split at h
      · rename_i hp
        cases h
        simp only [Bool.and_eq_true, Bool.not_eq_true'] at hp
        exact ⟨d, ds', rfl, rfl, hp.1, hp.2, rfl⟩
      · cases h
/-- what the slots tell, elsewhere -/
theorem caps_rep (hs : ∀ i d, getE ρ i = some d → ∃ v, σ[i]? = some (some v) ∧ Rep K F H d v (fps.getD i [])) (sF : Same F F2) : ∀ {is : List Nat} {ds : List D}, getPl ρ is = some ds → ∃ ws, @RepL _ Fr0 K F2 H2 ds ws [] ∧ ws.length = is.length ∧ ∀ (n : Nat) j w, is[n]? = some j → ws[n]? = some w → σ[j]? = some (some w)
  | [], ds, h => by
    simp only [getPl] at h
    cases h
    exact ⟨[], by simp [RepL], rfl, fun n j w e => by simp at e⟩
  | i :: r, ds, h => by
    obtain ⟨d, ds', rfl, e, hp, ho, h2⟩ := getPl_cons h
    obtain ⟨ws, r1, r2, r3⟩ := caps_rep hs sF h2
    obtain ⟨v, e1, rv⟩ := hs i d e
    refine ⟨v :: ws, ?_, by simp [r2], fun n j w q1 q2 => ?_⟩
    · simp only [RepL]
      exact ⟨v, ws, [], [], rfl, Rep.thin (fun b u e _ => sF b u e) d v [] hp (fun _ h => nomatch h) (Rep.nil ho rv), r1, rfl⟩
    · cases n with
      | zero =>
        simp at q1 q2
        subst q1 q2
        exact e1
      | succ n => exact r3 n j w (by simpa using q1) (by simpa using q2)
mutual
theorem close_rep (hcel : Fr.cells = X.env.cells) (hcap : CapOk X ks) (hs : ∀ i d, getE ρ i = some d → ∃ v, σ[i]? = some (some v) ∧ Rep K F H d v (fps.getD i [])) (sF : Same F F2) (inn : FrzAt (cellsOf X.env.cells) H2) (hF2 : ∀ c ∈ cellsOf X.env.cells, F2 c = H2 c)
    (val : ∀ (i : Nat) y v, X.N[i]? = some y → X.env.scope.names.lookup y = some .cell → σ[i]? = some (some v) → ∃ c o u, X.env.cells.lookup y = some c ∧ H2 c = some (.frz o tru) ∧ o.data = .cell (some u) ∧ RelV v u) : ∀ (d e : D) (v : V), closeD ks ρ d = some e → Rep K F H d v [] → @Rep _ Fr0 K F2 H2 e v []
  | .clo k [], e, v, h, r => by
    simp only [closeD] at h
    cases el : ks.lookup k with
    | none => rw [el] at h; cases h
    | some is =>
      rw [el] at h
      simp only at h
      cases eg : getPl ρ is with
      | none => rw [eg] at h; cases h
      | some ds =>
        rw [eg] at h
        cases h
        obtain ⟨c1, c2⟩ := hcap k is el
        obtain ⟨ws, r1, r2, r3⟩ := caps_rep (H2 := H2) hs sF eg
        simp only [Rep] at r
        obtain ⟨f, LF, e, pm, ctv, vs, e1, h1, h2, h3, h4, h5, h7, h6, _⟩ := r
        obtain ⟨o1, o2⟩ := h7 trivial
        simp only [Rep]
        refine ⟨f, LF, e, pm, ctv, .non :: ws, e1, sF _ _ h1, sF _ _ h2, h3, h4, ?_, fun z => absurd z (by simp), fun _ => ⟨fun y c q => ?_, by simp [r2, c1], fun i y w q1 q2 => ?_⟩, trivial⟩
        · simp only [RepL]
          exact ⟨.non, ws, [], [], rfl, by simp [Rep], r1, rfl⟩
        · have q2 : X.env.cells.lookup y = some c := hcel ▸ o1 y c q
          have hc : c ∈ cellsOf X.env.cells := mem_cellsOf.mpr ⟨y, q2⟩
          obtain ⟨o, x, z1, z2⟩ := inn c hc
          exact ⟨o, x, (hF2 c hc).trans z1, z2⟩
        · obtain ⟨j, j1, j2, j3⟩ := c2 i y q1
          obtain ⟨c, o, u, z1, z2, z3, z4⟩ := val j y w j2 j3 (r3 i j w j1 (by simpa using q2))
          obtain ⟨c', y1⟩ := o2 y (List.mem_of_getElem? q1)
          have y2 : X.env.cells.lookup y = some c' := hcel ▸ o1 y c' y1
          rw [z1] at y2
          cases y2
          exact ⟨c, o, u, y1, (hF2 c (mem_cellsOf.mpr ⟨y, z1⟩)).trans z2, z3, z4⟩
  | .clo _ (_ :: _), e, v, h, r => by simp [closeD] at h
  | .tup ds, e, v, h, r => by
    simp only [closeD] at h
    cases eg : closeL ks ρ ds with
    | none => rw [eg] at h; cases h
    | some es =>
      rw [eg] at h
      cases h
      simp only [Rep] at r ⊢
      obtain ⟨a, vs, e1, hs', hl⟩ := r
      exact ⟨a, vs, e1, Same.seqT sF hs', close_repL hcel hcap hs sF inn hF2 val ds es vs eg hl⟩
  | .lst false ds, e, v, h, r => by
    simp only [closeD] at h
    cases eg : closeL ks ρ ds with
    | none => rw [eg] at h; cases h
    | some es =>
      rw [eg] at h
      cases h
      simp only [Rep] at r ⊢
      obtain ⟨a, vs, e1, hs', hl, _⟩ := r
      exact ⟨a, vs, e1, sF _ _ hs', close_repL hcel hcap hs sF inn hF2 val ds es vs eg hl, trivial⟩
  | .lst true _, e, v, h, r => by simp [closeD] at h
  | .non, e, v, h, r => by simp only [closeD] at h; cases h; simpa only [Rep] using r
  | .bl _, e, v, h, r => by simp only [closeD] at h; cases h; simpa only [Rep] using r
  | .int _, e, v, h, r => by simp only [closeD] at h; cases h; simpa only [Rep] using r
  | .str _, e, v, h, r => by simp only [closeD] at h; cases h; simpa only [Rep] using r
  | .typ _, e, v, h, r => by simp only [closeD] at h; cases h; simpa only [Rep] using r
  | .exc c d, e, v, h, r => by
    simp only [closeD] at h
    split at h
    · rename_i hp
      cases h
      simp only [Bool.and_eq_true, Bool.not_eq_true'] at hp
      exact Rep.thin (fun b u e _ => sF b u e) _ _ _ (by simpa only [D.plain] using hp.1) (fun _ h => nomatch h) r
    · cases h
  | .dct _ _ _, e, v, h, r => by simp [closeD] at h
  | .scr _, e, v, h, r => by simp [closeD] at h
  | .cls _, e, v, h, r => by simp [closeD] at h
theorem close_repL (hcel : Fr.cells = X.env.cells) (hcap : CapOk X ks) (hs : ∀ i d, getE ρ i = some d → ∃ v, σ[i]? = some (some v) ∧ Rep K F H d v (fps.getD i [])) (sF : Same F F2) (inn : FrzAt (cellsOf X.env.cells) H2) (hF2 : ∀ c ∈ cellsOf X.env.cells, F2 c = H2 c)
    (val : ∀ (i : Nat) y v, X.N[i]? = some y → X.env.scope.names.lookup y = some .cell → σ[i]? = some (some v) → ∃ c o u, X.env.cells.lookup y = some c ∧ H2 c = some (.frz o tru) ∧ o.data = .cell (some u) ∧ RelV v u) : ∀ (ds es : List D) (vs : List V), closeL ks ρ ds = some es → RepL K F H ds vs [] → @RepL _ Fr0 K F2 H2 es vs []
  | [], es, vs, h, r => by simp only [closeL] at h; cases h; simpa only [RepL] using r
  | d :: ds, es, vs, h, r => by
    simp only [closeL] at h
    cases e1 : closeD ks ρ d with
    | none => rw [e1] at h; cases h
    | some d' =>
      cases e2 : closeL ks ρ ds with
      | none => rw [e1, e2] at h; cases h
      | some ds' =>
        rw [e1, e2] at h
        cases h
        simp only [RepL] at r ⊢
        obtain ⟨v, vs', f1, f2, rfl, r1, r2, e⟩ := r
        obtain ⟨rfl, rfl⟩ : f1 = [] ∧ f2 = [] := List.append_eq_nil_iff.mp e.symm
        exact ⟨v, vs', [], [], rfl, close_rep hcel hcap hs sF inn hF2 val d d' v e1 r1, close_repL hcel hcap hs sF inn hF2 val ds ds' vs' e2 r2, rfl⟩
end
end
theorem t_lcM {ks : List (Nat × List Nat)} {vs : List Nat} {tg : Tg} {i : Nat} {elt : IE} (hcel : Fr.cells = X.env.cells) (hcap : CapOk X ks) (hv : ∀ j ∈ slotsT tg, j ∈ vs) (h : tI K Φ E (.lcM ks vs tg i elt) σ H Q) :
    tLcS X (iSeq K (tVar i)) (@tG _ Fr0 K [] tg) (@tI _ Fr0 K Φ noX elt) vs σ H Q := by
  obtain ⟨B, lk, F, ρ, fps, ts, S, o⟩ := h
  simp only [ev] at o
  cases hd : getE ρ i with
  | none => rw [hd] at o; exact o.elim
  | some d0 =>
  rw [hd] at o
  simp only at o
  obtain ⟨v, F1, hσ, sF, r0, S1⟩ := S.freeze hd
  generalize hz : d0.frz = dz at o r0 S1
  cases dz with
  | lst ow xs =>
    simp only at o
    have how : ow = false := by
      have := D.frz_own d0
      rw [hz] at this
      simp only [D.own, Bool.or_eq_false_iff] at this
      exact this.1
    subst how
    cases hc : closeL ks (ρ.set i (some (.lst false xs))) xs with
    | none => rw [hc] at o; exact o.elim
    | some ds =>
    rw [hc] at o
    simp only at o
    split at o
    · rename_i hlen
      generalize hst : (fun (d : D) (ρ2 : Env) => match bindT [] tg d (wipeE vs ρ2) with
            | some ρ3 => (ev Φ elt ρ3).bind fun e ρ4 => R.ok (some e) ρ4
            | none => R.stk) = step at o
      cases hl : lcLoop step ds [] (List.replicate ρ.length none) with
      | exc _ _ _ => rw [hl] at o; exact o.elim
      | stk => rw [hl] at o; exact o.elim
      | ok es ρ' =>
      rw [hl] at o
      simp only at o
      split at o
      · rename_i hpl
        simp only [Bool.and_eq_true, Bool.not_eq_true'] at hpl
        have o : ∀ v fp F' H' fps', Sta K B lk F' H' σ (ρ.set i (some (.lst false xs))) fps' ((v, .own (.lst true es) fp) :: ts) → Q v H' := o
        simp only [Rep] at r0
        obtain ⟨a, vs0, rfl, ha, rl, _⟩ := r0
        refine ⟨.ref a, hσ, a, vs0, rfl, .inl ⟨SqL.of (S1.own.sub _ _ ha), ?_⟩⟩
        intro Da hD H2 sh
        have nsf : ∀ c ∈ cellsOf X.env.cells, F1 c = none := fun c hcc => by
          have z := sh.non c hcc
          cases q : F1 c with
          | none => rfl
          | some u =>
            have e1 := S1.own.sub c u q
            rw [upd_ne (ne_of_none e1 hD), e1] at z
            cases z
        have sF2 : Same F1 (shF (cellsOf X.env.cells) H2 F1) := fun b u e => by
          unfold shF
          rw [if_neg fun z => by rw [nsf b z] at e; cases e]
          exact e
        have atC : ∀ c ∈ cellsOf X.env.cells, shF (cellsOf X.env.cells) H2 F1 c = H2 c := fun c hcc => if_pos hcc
        have op : Closed (shF (cellsOf X.env.cells) H2 F1) := fun f LF e pm ctv q => by
          unfold shF at q
          split at q
          · rename_i hf
            obtain ⟨ob, x, z1, z2⟩ := sh.inn f hf
            rw [q] at z1
            have := (HO.frz.inj (Option.some.inj z1)).1
            rw [← this] at z2
            cases z2
          · rcases S1.opn f LF e pm ctv q with z | z
            · exact z.mono sF2
            · intro y c hy
              have hy2 : X.env.cells.lookup y = some c := hcel ▸ z y c hy
              have hcc := mem_cellsOf.mpr ⟨y, hy2⟩
              obtain ⟨ob, x, z1, z2⟩ := sh.inn c hcc
              exact ⟨ob, x, (atC c hcc).trans z1, z2⟩
        have rds : @RepL _ Fr0 K (shF (cellsOf X.env.cells) H2 F1) H2 ds vs0 [] := close_repL hcel hcap S1.slots sF2 sh.inn atC sh.val xs ds vs0 hc rl
        have hJ : @ItOk _ Fr0 K (shF (cellsOf X.env.cells) H2 F1) (Itl K a) ds := by
          letI : Fr := Fr0
          exact itOk_list (SqL.of (sF2 _ _ ha)) rds
        have ST := blk_sta (K := K) (C := cellsOf X.env.cells) (F1 := F1) (vs := vs) S.len S1.own.sub S1.own.nof (S1.own.tabs S1.tb) hD sh.out sh.non sh.inn op
        exact blk_loop S.len List.length_replicate hv hlen hst hJ ST hl fun F2 H3 fpD i2 rD fz => by
          have m := Mg.shw (F := F1) (H := upd H Da (.lst [])) (F2 := shF (cellsOf X.env.cells) H2 F1) sh.out sh.non sh.inn fz (fun b u e hs => by
            unfold shF at e
            split at e
            · rename_i hb
              obtain ⟨ob, x, z1, _⟩ := sh.inn b hb
              rw [z1] at e
              cases e
              exact (not_soft_cell hs).elim
            · exact e) i2
          have o1 : OwnOk B F1 (upd H Da (.lst [])) ([Da] ++ (tfp ts ++ (fps.set i []).flatten)) := S1.own.list hD []
          obtain ⟨ow', keep, hF⟩ := merge_own o1 i2 m
          have nr1 : ∀ r ∈ tfp ts ++ (fps.set i []).flatten, r ≠ Da := fun r hr z => by
            obtain ⟨xs', e⟩ := S1.own.live r hr
            rw [z, hD] at e; cases e
          have SE := Sta.mono0 S1 hF (fun a ha => (keep a ha).trans (upd_ne (nr1 a ha))) (ow'.less (SubP.right _ _)) (Opn.merge S1.opn)
          exact o _ _ _ _ _ (Sta.pushOwn SE ow' (merge_rep ow' i2 m (by simpa only [D.plain] using hpl.1) (fun a ha => ha) rD))
      · exact o.elim
    · exact o.elim
  | _ => exact o.elim
end Mi
end

section
set_option Elab.async false
set_option linter.all false
set_option maxRecDepth 100000
/-! try: x() except C as e. -/
namespace Mi
open PySem PySem.Spec PyProof.Rows L2 LamX NdefX
variable [LT] [fr : Fr]
variable {K : PySem.W.Frag} {Φ : Fns} {E : XK} {B : Bs} {lk : List (Nat × V)} {F F' H H' : Hp} {σ : L2.St} {ρ : Env} {fps : List (List Addr)} {ts : List (V × Tm)} {Q : VK} {X : Cx} {lkN : List Nat} {D' : Ends}
theorem thin_repL {fr1 fr2 : Fr} (hF : ∀ b u, F b = some u → Soft u → F' b = some u) : ∀ {ds : List D} {vs : List V}, plainL ds = true → @RepL _ fr1 K F H ds vs [] → @RepP _ fr2 K F' H' ds vs (List.replicate ds.length [])
  | [], vs, _, h => by
    simp only [RepL] at h
    rw [h.1]
    trivial
  | d :: ds, vs, hp, h => by
    simp only [plainL, Bool.and_eq_true] at hp
    simp only [RepL] at h
    obtain ⟨v, vs', f1, f2, rfl, r1, r2, e⟩ := h
    obtain ⟨rfl, rfl⟩ : f1 = [] ∧ f2 = [] := List.append_eq_nil_iff.mp e.symm
    exact ⟨Rep.thin hF d v [] hp.1 (fun _ z => nomatch z) r1, thin_repL hF hp.2 r2⟩
/-- a lambda from elsewhere is called: what its function tells -/
theorem act_of {k fc : Nat} {cs : List D} {E' : L2.St → XK} (S : Sta K B lk F H σ ρ fps []) (e : getE ρ k = some (.clo fc (.non :: cs))) (hp : plainL cs = true) (hm : match Φ fc cs with
   | .ok d _ => d.plain = true ∧ d.own = false ∧ ∀ v F3 H3, Sta K B lk F3 H3 σ ρ fps [] → Rep K F3 H3 d v [] → Q v H3
   | .exc c d _ => d.plain = true ∧ ∀ cls dx F3 H3, Sta K B lk F3 H3 σ ρ fps [] → RepX K F3 H3 c d cls dx → E' σ cls dx H3
   | .stk => False) : tAct k (spI K Φ) E' σ H Q := by
  obtain ⟨v, e1, r⟩ := S.slots k _ e
  simp only [Rep] at r
  obtain ⟨f, LF, ex, pm, ctv, vs, rfl, h1, h2, h3, h4, h5, h7, h6, _⟩ := r
  simp only [RepL] at h5
  obtain ⟨v0, vs1, f1, f2, rfl, _, h5, ef⟩ := h5
  obtain ⟨rfl, rfl⟩ : f1 = [] ∧ f2 = [] := List.append_eq_nil_iff.mp ef.symm
  obtain ⟨a1, a2, a3⟩ := h6 (by simp)
  have fz : FrzAt (cellsOf LF.cl) H := fun c hc => by
    obtain ⟨y, z⟩ := mem_cellsOf.mp hc
    obtain ⟨o, x, z1, z2⟩ := a1 y c z
    exact ⟨o, x, S.own.sub _ _ z1, z2⟩
  have clo : Clo H f fc LF ex pm ctv vs1 := ⟨S.own.sub _ _ h1, S.own.sub _ _ h2, h3, h4, fz, by simpa using a2, fun i y w q1 q2 => by
    obtain ⟨c, o, u, z1, z2, z3, z4⟩ := a3 i y w q1 (by simpa using q2)
    exact ⟨c, o, u, z1, S.own.sub _ _ z2, z3, z4⟩⟩
  have o1 : OwnOk B F H ([] ++ (tfp [] ++ fps.flatten)) := S.own
  refine ⟨f, fc, LF, ex, pm, ctv, vs1, e1, clo, dropL F, cs, List.replicate cs.length [], fun b u z => ?_, thin_repL (fun b u => dropL_at) hp h5, by rw [flat_nil]; exact .nil, fun a ha => (by rw [flat_nil] at ha; cases ha), ⟨tabs_out fz (fun b hb => hid_out hb) (S.own.tabs S.tb), fun b ps z => S.own.nof b ps (dropL_of z).1, dropL_closed⟩, ?_⟩
  · obtain ⟨z1, z2⟩ := dropL_of z
    have z3 := S.own.sub _ _ z1
    rw [hid_out (fz.ne z3 fun o z => by rw [z] at z2; exact not_soft_cell z2)]
    exact z3
  · cases eΦ : Φ fc cs with
    | stk => rw [eΦ] at hm; exact hm.elim
    | ok d as =>
      rw [eΦ] at hm
      obtain ⟨hpl, hown, hq⟩ := hm
      intro v F2 H2 fp fps' O cF r rp' n
      rw [flat_nil] at O
      have m := Mg.hid fz n O (fun a ha => nomatch ha)
      obtain ⟨ow', keep, hF⟩ := merge_own o1 O m
      exact hq v _ _ (Sta.mono0 S hF keep (ow'.less (SubP.right _ _)) (Opn.merge S.opn)) (Rep.nil hown (merge_rep ow' O m hpl (fun a ha => List.mem_append_left _ ha) r))
    | exc c d as =>
      rw [eΦ] at hm
      obtain ⟨hpl, hq⟩ := hm
      intro cls dx F2 H2 fps' O cF rx rp' n
      rw [flat_nil] at O
      have m := Mg.hid fz n O (fun a ha => nomatch ha)
      obtain ⟨ow', keep, hF⟩ := merge_own o1 O m
      exact hq cls dx _ _ (Sta.mono0 S hF keep (ow'.less (SubP.right _ _)) (Opn.merge S.opn)) (merge_repX ow' O m hpl rx)
/-- a slot that tells nothing may hold anything -/
theorem Sta.unset {i : Nat} {x : Option V} (S : Sta K B lk F H σ ρ fps ts) (h : getE ρ i = none) (hk : ∀ p ∈ lk, p.1 ≠ i) (ht : ∀ t ∈ ts, t.2 ≠ .ref i) : Sta K B lk F H (σ.set i x) ρ fps ts := by
  refine ⟨S.own, by simp [S.len], S.lenF, fun j d e => ?_, fun t hm => ?_, fun p hp => ?_, S.tb, S.opn⟩
  · have hj : i ≠ j := fun z => by subst z; rw [h] at e; cases e
    rw [List.getElem?_set_ne hj]
    exact S.slots j d e
  · have q := S.temps t hm
    have ne := ht t hm
    unfold TmOk at q ⊢
    cases e : t.2 with
    | own d fp => rw [e] at q; exact q
    | ref j =>
      rw [e] at q ne
      show (σ.set i x)[j]? = some (some t.1)
      rw [List.getElem?_set_ne (fun z => ne (by rw [z]))]
      exact q
  · rw [List.getElem?_set_ne (fun z => hk p hp z.symm)]
    exact S.locks p hp
/-- the caught exception is known from now on -/
theorem Sta.caught {a : Addr} {c : String} {d : D} {cls : Value} {dx : Option Addr} (S : Sta K B lk F H σ ρ fps ts) (n : H a = none) (rx : RepX K F H c d cls dx) :
    ∃ F4, Rep K F4 (upd H a (ExV cls dx a)) (.exc c d) (.ref a) [] ∧ Sta K B lk F4 (upd H a (ExV cls dx a)) σ ρ fps ts := by
  obtain ⟨rfl, dxa, v, rfl, e3, r⟩ := rx
  have hF := same_upd (Same.none S.own.sub n) (o := ExV (.ref (He.ga K (PySem.Str.ofString c))) (some dxa) a)
  have hH := same_upd n (o := ExV (.ref (He.ga K (PySem.Str.ofString c))) (some dxa) a)
  refine ⟨upd F a (ExV (.ref (He.ga K (PySem.Str.ofString c))) (some dxa) a), ?_, Sta.mono0 S hF (fun b hb => live_keep S.own hH hb) (S.own.newF n _ fun _ z => by unfold ExV at z; cases z) fun f LF e pm ctv q => ?_⟩
  · simp only [Rep]
    exact ⟨a, dxa, v, rfl, upd_same, hF _ _ e3, Rep.mono hF d v [] (fun _ h => nomatch h) r, trivial⟩
  · by_cases hf : f = a
    · subst hf
      rw [upd_same] at q
      have := Option.some.inj q
      unfold ExV LamO at this
      cases this
    · rw [upd_ne hf] at q
      exact (S.opn f LF e pm ctv q).imp_left (CellsF.mono hF)
def tbA (k b : Nat) (sp : Nat → Sp) : WX → TS := fun W => tAsg (tAct k sp fun σ cls d H => W cls d σ H) (gName b)
def tsA (i j : Nat) : Addr → Value → Option Addr → TS := fun _ _ _ => tAsg (tVar i) (gName j)
def tbR (k : Nat) (sp : Nat → Sp) : WX → TS := fun W => tDrop (tAct k sp fun σ cls d H => W cls d σ H)
def tsR (i : Nat) : Addr → Value → Option Addr → TS := fun _ _ _ => tRet (tVar i)
theorem lk_ne {lk : List (Nat × V)} {i : Nat} (hl : Lks lk lkN) (h : lkN.contains i = false) : ∀ p ∈ lk, p.1 ≠ i := fun p hp z => by
  have := hl p hp
  rw [z, h] at this
  cases this
theorem set3 {σ : L2.St} {i j : Nat} {x y : Option V} : ((σ.set i x).set j y).set i none = (σ.set j y).set i none := by
  by_cases h : i = j
  · subst h; simp
  · rw [List.set_comm _ _ h, List.set_set]
theorem ts_tryA {ex : List String} {k b i j : Nat} {c0 : Value} {Wout : WX} (hc : ∀ c ∈ ex, PySem.W.exmOne K (.ref (He.ga K (PySem.Str.ofString c))) c0 = some true) (h : tS K Φ E lkN (.tryA ex k b i j) D' σ H) :
    tbA k b (spI K Φ) (wKeep K c0 i (tsA i j) Wout D') D' σ H := by
  obtain ⟨B, lk, F, ρ, fps, S, hl, o⟩ := h
  simp only [exS] at o
  split at o
  · rename_i fc cs eg
    split at o
    · rename_i hcond
      simp only [Bool.and_eq_true, Bool.not_eq_true', decide_eq_true_eq] at hcond
      obtain ⟨⟨⟨⟨⟨⟨⟨hp, ho⟩, hb⟩, hi⟩, hj⟩, kb⟩, ki⟩, kj⟩ := hcond
      refine act_of (Φ := Φ) (Q := fun v H1 => gName b v σ H1 D'.nx) (E' := fun σ cls d H => wKeep K c0 i (tsA i j) Wout D' cls d σ H) S eg hp ?_
      cases eΦ : Φ fc cs with
      | stk => rw [eΦ] at o; exact o.elim
      | ok d as =>
        rw [eΦ] at o
        simp only at o ⊢
        split at o
        · rename_i hd
          simp only [Bool.and_eq_true, Bool.not_eq_true'] at hd
          refine ⟨hd.1, hd.2, fun v F3 H3 S3 r => ?_⟩
          have S4 := S3.pushS r
          exact o F3 H3 _ _ (S4.store hb (lk_ne hl kb) fun t ht => nomatch ht)
        · exact o.elim
      | exc c d as =>
        rw [eΦ] at o
        simp only at o ⊢
        split at o
        · rename_i hd
          simp only [Bool.and_eq_true, Bool.not_eq_true'] at hd
          refine ⟨hd.1.1, fun cls dx F3 H3 S3 rx => ⟨true, ?_, fun _ a na => ?_, fun z => nomatch z⟩⟩
          · rw [rx.1]
            exact hc c (by simpa using hd.2)
          · refine ⟨.ref a, List.getElem?_set_self (by rw [S.len]; exact hi), fun na2 => ?_⟩
            obtain ⟨F4, r4, S4⟩ := S3.caught na rx
            have S5 := (S4.pushS r4).store hj (lk_ne hl kj) fun t ht => nomatch ht
            have S6 := S5.clear (i := i) (by simpa using hi)
            have S7 := S6.unset (i := i) (x := none) (getE_set_same (by simpa using hi)) (lk_ne hl ki) fun t ht => nomatch ht
            rw [set3]
            exact o F4 _ _ _ S7
        · exact o.elim
    · exact o.elim
  · exact o.elim
theorem ts_tryR {ex : List String} {k i : Nat} {c0 : Value} {Wout : WX} (hc : ∀ c ∈ ex, PySem.W.exmOne K (.ref (He.ga K (PySem.Str.ofString c))) c0 = some true) (h : tS K Φ E lkN (.tryR ex k i) D' σ H) :
    tbR k (spI K Φ) (wKeep K c0 i (tsR i) Wout D') D' σ H := by
  obtain ⟨B, lk, F, ρ, fps, S, hl, o⟩ := h
  simp only [exS] at o
  split at o
  · rename_i fc cs eg
    split at o
    · rename_i hcond
      simp only [Bool.and_eq_true, Bool.not_eq_true', decide_eq_true_eq] at hcond
      obtain ⟨⟨⟨hp, ho⟩, hi⟩, ki⟩ := hcond
      refine act_of (Φ := Φ) (Q := fun v H1 => D'.nx σ H1) (E' := fun σ cls d H => wKeep K c0 i (tsR i) Wout D' cls d σ H) S eg hp ?_
      cases eΦ : Φ fc cs with
      | stk => rw [eΦ] at o; exact o.elim
      | ok d as =>
        rw [eΦ] at o
        simp only at o ⊢
        split at o
        · rename_i hd
          simp only [Bool.and_eq_true, Bool.not_eq_true'] at hd
          exact ⟨hd.1, hd.2, fun v F3 H3 S3 r => o F3 H3 _ _ S3⟩
        · exact o.elim
      | exc c d as =>
        rw [eΦ] at o
        simp only at o ⊢
        split at o
        · rename_i hd
          simp only [Bool.and_eq_true, Bool.not_eq_true'] at hd
          refine ⟨hd.1.1, fun cls dx F3 H3 S3 rx => ⟨true, ?_, fun _ a na => ?_, fun z => nomatch z⟩⟩
          · rw [rx.1]
            exact hc c (by simpa using hd.2)
          · refine ⟨.ref a, List.getElem?_set_self (by rw [S.len]; exact hi), fun na2 => ?_⟩
            obtain ⟨F4, r4, S4⟩ := S3.caught na rx
            exact o (.ref a) [] F4 _ _ _ (Sta.pushS (S4.clear (i := i) hi) r4)
        · exact o.elim
    · exact o.elim
  · exact o.elim
end Mi
end

section
set_option Elab.async false
set_option linter.all false
set_option maxRecDepth 100000
/-! list(zip(a, b, c)): the pairs are held, so each is new. -/
namespace PySem
open Sem (wp)
/-- a zip whose tuple T is out -/
abbrev ZOut (h : Heap) (z TI TO T : Addr) (f : Bool) : Prop := h.get? z = some { cls := .type "zip", dict := none, data := .fields #[rawInt T, .bool f, .bool false, .ref TI, .ref TO], slots := #[] }
section
variable {prog : Program} {w : World} {A : Around} {E : Value → Shared → Prop} {s : Shared} {z TI TO T i1 i2 i3 : Addr} {fp1 fp2 fp3 : List Addr} {n1 n2 n3 i : Nat} {P1 P2 P3 : Nat → Value → Prop} {St1 St2 St3 : Nat → Heap → Prop} {f : Bool} {ot : Obj}
/-- is its tuple free: no -/
theorem zout_free {Q : Bool → Shared → Prop} (hz : ZOut s.heap z TI TO T f) (ht : s.heap.get? T = some ot) (hQ : ∀ h', ZOut h' z TI TO T true → Heap.SameBut z s.heap h' → Q false { s with heap := h' }) :
    wpAny (model prog w) A (Builtin.SmallTypes.ownedTupleIsFree (.ref z)) Q E s := by
  obtain ⟨hp, g, d, tk, os⟩ := s
  unfold Builtin.SmallTypes.ownedTupleIsFree
  refine wpAny_bind (wpAny_field hz rfl (x := rawInt T) rfl ?_)
  show wpAny _ _ (loadIfAlive ((T : Int).toNat) >>= _) _ _ _
  rw [Int.toNat_natCast]
  refine wpAny_bind (W.kdx_alive ht ?_)
  simp only [Option.isNone_some, Bool.false_eq_true, if_false]
  refine wpAny_bind (wpAny_field hz rfl (x := .bool f) rfl ?_)
  cases f with
  | true =>
    rw [if_neg (show ¬ ((Value.bool true != Value.bool true) = true) from Bool.false_ne_true)]
    exact wpAny_pure (hQ hp hz (Heap.SameBut.refl _ _))
  | false =>
    rw [if_pos (show (Value.bool false != Value.bool true) = true from rfl)]
    refine wpAny_bind (wpAny_setField_rec hz (by simp) fun h₃ he₃ hs₃ => ?_)
    exact wpAny_pure (hQ h₃ he₃ hs₃)
theorem zout3_item {Q : Value → Shared → Prop} (S : ZipSep3 z TI TO i1 i2 i3 fp1 fp2 fp3) (D1 : Draws prog w A i1 fp1 n1 P1 St1) (D2 : Draws prog w A i2 fp2 n2 P2 St2) (D3 : Draws prog w A i3 fp3 n3 P3 St3)
    (hz : ZOut s.heap z TI TO T f) (ht : s.heap.get? T = some ot) (hTI : IsTupOf3 s.heap TI (.ref i1) (.ref i2) (.ref i3)) (st1 : St1 i s.heap) (st2 : St2 i s.heap) (st3 : St3 i s.heap) (hlt1 : i < n1) (hlt2 : i < n2) (hlt3 : i < n3)
    (hQ : ∀ x1 x2 x3 h' tk, P1 i x1 → P2 i x2 → P3 i x3 → ZOut h' z TI TO T true → St1 (i + 1) h' → St2 (i + 1) h' → St3 (i + 1) h' → IsTupOf3 h' s.heap.objs.size x1 x2 x3 → h'.objs.size = s.heap.objs.size + 1 →
      (∀ c o, c ≠ z → c ≠ i1 → c ≠ i2 → c ≠ i3 → s.heap.get? c = some o → h'.get? c = some o) → Q (.ref s.heap.objs.size) { s with heap := h', toks := tk }) :
    wpAny (model prog w) A (Builtin.«zip.__next__» ⟨[.ref z], []⟩) (fun fin s' => ∃ v, fin = .done (.ret v) ∧ Q v s') E s := by
  obtain ⟨hp, g, d, tk0, os⟩ := s
  show wpAny _ _ (field (.ref z) 2 >>= _) _ _ _
  refine wpAny_bind (wpAny_field hz rfl (x := .bool false) rfl ?_)
  show wpAny _ _ (field (.ref z) 3 >>= _) _ _ _
  refine wpAny_bind (wpAny_field hz rfl (x := .ref TI) rfl ?_)
  refine wpAny_bind (wpAny_seqItems hTI rfl ?_)
  show wpAny _ _ (Builtin.SmallTypes.ownedTupleIsFree (.ref z) >>= _) _ _ _
  refine wpAny_bind (zout_free hz ht fun g0 hz0 hs0 => ?_)
  replace hz0 : ZOut g0 z TI TO T true := hz0
  replace hs0 : Heap.SameBut z hp g0 := hs0
  simp only [Bool.false_eq_true, if_false]
  refine wpAny_bind ?_
  simp only [← Array.forIn_toList, List.forIn_cons, List.forIn_nil]
  refine wpAny_bind (wpAny_bind (wpAny_holding ?_))
  show wpAny _ _ (Builtin.SmallTypes.nextOf (.ref i1) >>= _) _ _ ⟨g0, g, d, tk0, os⟩
  refine wpAny_bind (D1.item i _ _ _ hlt1 (D1.over st1 hs0 S.zf1) fun x1 p1 tk1 hx1 sn1 hp1 => wpAny_pure ?_)
  replace hp1 : Heap.SameBut i1 g0 p1 := hp1
  refine wpAny_pure ?_
  refine wpAny_bind (wpAny_bind (wpAny_holding ?_))
  show wpAny _ _ (Builtin.SmallTypes.nextOf (.ref i2) >>= _) _ _ ⟨p1, g, d, tk1, os⟩
  refine wpAny_bind (D2.item i _ _ _ hlt2 (D2.over (D2.over st2 hs0 S.zf2) hp1 S.sep1_2) fun x2 p2 tk2 hx2 sn2 hp2 => wpAny_pure ?_)
  replace hp2 : Heap.SameBut i2 p1 p2 := hp2
  refine wpAny_pure ?_
  refine wpAny_bind (wpAny_bind (wpAny_holding ?_))
  show wpAny _ _ (Builtin.SmallTypes.nextOf (.ref i3) >>= _) _ _ ⟨p2, g, d, tk2, os⟩
  refine wpAny_bind (D3.item i _ _ _ hlt3 (D3.over (D3.over (D3.over st3 hs0 S.zf3) hp1 S.sep1_3) hp2 S.sep2_3) fun x3 p3 tk3 hx3 sn3 hp3 => wpAny_pure ?_)
  replace hp3 : Heap.SameBut i3 p2 p3 := hp3
  refine wpAny_pure (wpAny_pure ?_)
  refine wpAny_bind (wpAny_newTuple (hsz := by show 3 ≤ sizeLine; decide) ?_)
  have hsz : p3.objs.size = hp.objs.size := by rw [hp3.1, hp2.1, hp1.1, hs0.1]
  have hzz : ZOut p3 z TI TO T true := hp3.extBut _ _ S.zi3 (hp2.extBut _ _ S.zi2 (hp1.extBut _ _ S.zi1 hz0))
  have hkk : ∀ c o, c ≠ z → c ≠ i1 → c ≠ i2 → c ≠ i3 → hp.get? c = some o → p3.get? c = some o := fun c o cz c1 c2 c3 e => hp3.extBut _ _ c3 (hp2.extBut _ _ c2 (hp1.extBut _ _ c1 (hs0.extBut _ _ cz e)))
  have hj1 : St1 (i + 1) p3 := D1.over (D1.over sn1 hp2 S.sep2_1) hp3 S.sep3_1
  have hj2 : St2 (i + 1) p3 := D2.over sn2 hp3 S.sep3_2
  refine wpAny_pure ⟨_, rfl, ?_⟩
  show Q (.ref p3.objs.size) ⟨p3.push { cls := .type "tuple", data := .seq #[x1, x2, x3] }, g, d, tk3, os⟩
  have hT3 : IsTupOf3 (p3.push { cls := .type "tuple", data := .seq #[x1, x2, x3] }) p3.objs.size x1 x2 x3 := Heap.get?_push_size _ rfl
  rw [hsz] at hT3 ⊢
  exact hQ x1 x2 x3 _ tk3 hx1 hx2 hx3 (Heap.get?_push_of_some _ hzz) (D1.frame _ _ _ hj1 fun b _ o e => Heap.get?_push_of_some _ e) (D2.frame _ _ _ hj2 fun b _ o e => Heap.get?_push_of_some _ e) (D3.frame _ _ _ sn3 fun b _ o e => Heap.get?_push_of_some _ e) hT3 (by rw [Heap.size_push, hsz]) fun c o cz c1 c2 c3 e => Heap.get?_push_of_some _ (hkk c o cz c1 c2 c3 e)
theorem zout3_end {Q : Fin → Shared → Prop} (S : ZipSep3 z TI TO i1 i2 i3 fp1 fp2 fp3) (D1 : Draws prog w A i1 fp1 n1 P1 St1)
    (hz : ZOut s.heap z TI TO T f) (ht : s.heap.get? T = some ot) (hTI : IsTupOf3 s.heap TI (.ref i1) (.ref i2) (.ref i3)) (st1 : St1 n1 s.heap)
    (hE : ∀ h' tk e, (∀ c o, c ≠ z → c ≠ i1 → s.heap.get? c = some o → h'.get? c = some o) → (∃ o, h'.get? e = some o ∧ o.cls = .type "StopIteration") → E (.ref e) { s with heap := h', toks := tk }) :
    wpAny (model prog w) A (Builtin.«zip.__next__» ⟨[.ref z], []⟩) Q E s := by
  obtain ⟨hp, g, d, tk0, os⟩ := s
  show wpAny _ _ (field (.ref z) 2 >>= _) _ _ _
  refine wpAny_bind (wpAny_field hz rfl (x := .bool false) rfl ?_)
  show wpAny _ _ (field (.ref z) 3 >>= _) _ _ _
  refine wpAny_bind (wpAny_field hz rfl (x := .ref TI) rfl ?_)
  refine wpAny_bind (wpAny_seqItems hTI rfl ?_)
  show wpAny _ _ (Builtin.SmallTypes.ownedTupleIsFree (.ref z) >>= _) _ _ _
  refine wpAny_bind (zout_free hz ht fun g0 hz0 hs0 => ?_)
  replace hs0 : Heap.SameBut z hp g0 := hs0
  simp only [Bool.false_eq_true, if_false]
  refine wpAny_bind ?_
  simp only [← Array.forIn_toList, List.forIn_cons, List.forIn_nil]
  refine wpAny_bind (wpAny_bind (wpAny_holding ?_))
  show wpAny _ _ (Builtin.SmallTypes.nextOf (.ref i1) >>= _) _ _ ⟨g0, g, d, tk0, os⟩
  refine wpAny_bind (D1.done ⟨g0, g, d, tk0, os⟩ _ _ (D1.over st1 hs0 S.zf1) fun q e hq he => ?_)
  exact hE q tk0 e (fun c o cz c1 x => hq c o c1 (hs0.extBut _ _ cz x)) he
theorem next_zout3_item {Q : Option Value → Shared → Prop} (S : ZipSep3 z TI TO i1 i2 i3 fp1 fp2 fp3) (D1 : Draws prog w A.in1 i1 fp1 n1 P1 St1) (D2 : Draws prog w A.in1 i2 fp2 n2 P2 St2) (D3 : Draws prog w A.in1 i3 fp3 n3 P3 St3)
    (hz : ZOut s.heap z TI TO T f) (ht : s.heap.get? T = some ot) (hTI : IsTupOf3 s.heap TI (.ref i1) (.ref i2) (.ref i3)) (st1 : St1 i s.heap) (st2 : St2 i s.heap) (st3 : St3 i s.heap) (hlt1 : i < n1) (hlt2 : i < n2) (hlt3 : i < n3)
    (hQ : ∀ x1 x2 x3 h' tk, P1 i x1 → P2 i x2 → P3 i x3 → ZOut h' z TI TO T true → St1 (i + 1) h' → St2 (i + 1) h' → St3 (i + 1) h' → IsTupOf3 h' s.heap.objs.size x1 x2 x3 → h'.objs.size = s.heap.objs.size + 1 →
      (∀ c o, c ≠ z → c ≠ i1 → c ≠ i2 → c ≠ i3 → s.heap.get? c = some o → h'.get? c = some o) → Q (some (.ref s.heap.objs.size)) { s with heap := h', toks := tk }) :
    wpAny (model prog w) A (pyNext (.ref z)) Q E s := by
  have hT : s.TypeIs (.ref z) "zip" := ⟨_, hz, rfl⟩
  unfold pyNext
  exact wpAny_bind (wpAny_attempt (wpAny_callSpecial?_slot (name := Str.ofString "__next__") hT F.slot_zip_next
    (wpAny_call_entry F.slot_zip_next hT F.entry_zip_next
      (zout3_item S D1 D2 D3 hz ht hTI st1 st2 st3 hlt1 hlt2 hlt3 fun x1 x2 x3 h' tk y1 y2 y3 b1 d1 d2 d3 b5 b6 b7 => wpAny_pure (hQ x1 x2 x3 h' tk y1 y2 y3 b1 d1 d2 d3 b5 b6 b7)) (F.args_zip_next_1 _))))
theorem next_zout3_end {Q : Option Value → Shared → Prop} (S : ZipSep3 z TI TO i1 i2 i3 fp1 fp2 fp3) (D1 : Draws prog w A.in1 i1 fp1 n1 P1 St1)
    (hz : ZOut s.heap z TI TO T f) (ht : s.heap.get? T = some ot) (hTI : IsTupOf3 s.heap TI (.ref i1) (.ref i2) (.ref i3)) (st1 : St1 n1 s.heap)
    (hQ : ∀ h' tk, (∀ c o, c ≠ z → c ≠ i1 → s.heap.get? c = some o → h'.get? c = some o) → Q none { s with heap := h', toks := tk }) : wpAny (model prog w) A (pyNext (.ref z)) Q E s := by
  have hT : s.TypeIs (.ref z) "zip" := ⟨_, hz, rfl⟩
  unfold pyNext
  refine wpAny_bind (wpAny_attempt (wpAny_callSpecial?_slot (name := Str.ofString "__next__") hT F.slot_zip_next
    (wpAny_call_entry F.slot_zip_next hT F.entry_zip_next (zout3_end S D1 hz ht hTI st1 fun h' tk e hk he => ?_) (F.args_zip_next_1 _))))
  obtain ⟨o, ho, hc⟩ := he
  refine wpAny_bind (wpAny_isInstance (T := "StopIteration") (b := true) ⟨o, ho, hc⟩ isSubtype_stop ?_)
  exact wpAny_pure (hQ _ _ hk)
end
end PySem
end

section
set_option Elab.async false
set_option linter.all false
set_option maxRecDepth 100000
/-! list(zip(a, b, c)), the loop. -/
namespace PySem
open Sem (wp)
open PySem.Calls
theorem zl_nolen : typeLookup (.type "zip") "__len__" = pure none := by rw [typeLookup_type, builtinLookup_eq_fast]; kernel_rfl
theorem zl_nohint : typeLookup (.type "zip") "__length_hint__" = pure none := by rw [typeLookup_type, builtinLookup_eq_fast]; kernel_rfl
section
variable {prog : Program} {w : World} {A : Around} {E : Value → Shared → Prop} {s : Shared} {z TI TO i1 i2 i3 lo : Addr} {fp1 fp2 fp3 : List Addr} {n i : Nat} {P1 P2 P3 : Nat → Value → Prop} {St1 St2 St3 : Nat → Heap → Prop}
/-- the zip, whether its tuple is out or not -/
def ZAny (h : Heap) (z TI TO lo : Addr) : Prop := (IsZip h z TI TO .none ∧ ∃ a1 a2 a3, IsTupOf3 h TO a1 a2 a3) ∨ ∃ T f ot, ZOut h z TI TO T f ∧ h.get? T = some ot ∧ lo ≤ T
theorem ZAny.keep {h h' : Heap} (x : ZAny h z TI TO lo) {S : Addr} (k : ∀ b o, b ≠ S → h.get? b = some o → h'.get? b = some o) (hz : z ≠ S) (hT : TO ≠ S) (hl : S < lo) : ZAny h' z TI TO lo := by
  rcases x with ⟨h1, a1, a2, a3, h2⟩ | ⟨T, f, ot, h1, h2, h3⟩
  · exact .inl ⟨k _ _ hz h1, a1, a2, a3, k _ _ hT h2⟩
  · exact .inr ⟨T, f, ot, k _ _ hz h1, k _ _ (Nat.ne_of_gt (Nat.lt_of_lt_of_le hl h3)) h2, h3⟩
theorem ZAny.obj {h : Heap} (x : ZAny h z TI TO lo) : ∃ o, h.get? z = some o ∧ o.cls = .type "zip" := by
  rcases x with ⟨h1, _⟩ | ⟨T, f, ot, h1, _⟩
  · exact ⟨_, h1, rfl⟩
  · exact ⟨_, h1, rfl⟩
structure ZS (z TI TO i1 i2 i3 : Addr) (fp1 fp2 fp3 : List Addr) (lo : Addr) : Prop where
  sep : ZipSep3 z TI TO i1 i2 i3 fp1 fp2 fp3
  lz : z < lo
  lTI : TI < lo
  lTO : TO < lo
  l1 : i1 < lo
  l2 : i2 < lo
  l3 : i3 < lo
  f1 : ∀ b ∈ fp1, b < lo
  f2 : ∀ b ∈ fp2, b < lo
  f3 : ∀ b ∈ fp3, b < lo
theorem zl_item {Q : Option Value → Shared → Prop} (S : ZS z TI TO i1 i2 i3 fp1 fp2 fp3 lo) (D1 : Draws prog w A.in1 i1 fp1 n P1 St1) (D2 : Draws prog w A.in1 i2 fp2 n P2 St2) (D3 : Draws prog w A.in1 i3 fp3 n P3 St3)
    (hz : ZAny s.heap z TI TO lo) (hTI : IsTupOf3 s.heap TI (.ref i1) (.ref i2) (.ref i3)) (st1 : St1 i s.heap) (st2 : St2 i s.heap) (st3 : St3 i s.heap) (hlt : i < n) (hlo : lo ≤ s.heap.objs.size)
    (hQ : ∀ x1 x2 x3 h' tk, P1 i x1 → P2 i x2 → P3 i x3 → ZAny h' z TI TO lo → IsTupOf3 h' TI (.ref i1) (.ref i2) (.ref i3) → St1 (i + 1) h' → St2 (i + 1) h' → St3 (i + 1) h' → IsTupOf3 h' s.heap.objs.size x1 x2 x3 → h'.objs.size = s.heap.objs.size + 1 →
      (∀ c o, c ≠ z → c ≠ TO → c ≠ i1 → c ≠ i2 → c ≠ i3 → s.heap.get? c = some o → h'.get? c = some o) → Q (some (.ref s.heap.objs.size)) { s with heap := h', toks := tk }) :
    wpAny (model prog w) A (pyNext (.ref z)) Q E s := by
  rcases hz with ⟨h1, a1, a2, a3, h2⟩ | ⟨T, f, ot, h1, h2, h3⟩
  · exact wpAny_pyNext_zipD3_item S.sep D1 D2 D3 h1 hTI h2 st1 st2 st3 hlt hlt hlt fun x1 x2 x3 h' tk y1 y2 y3 b1 b2 d1 d2 d3 b5 b6 b7 => hQ x1 x2 x3 h' tk y1 y2 y3 (.inr ⟨_, false, _, b1, b5, hlo⟩) (b7 _ _ S.sep.TIz S.sep.TITO S.sep.TIi1 S.sep.TIi2 S.sep.TIi3 hTI) d1 d2 d3 b5 b6 b7
  · have nT : ∀ {b : Addr}, b < lo → T ≠ b := fun {b} hb => Nat.ne_of_gt (Nat.lt_of_lt_of_le hb h3)
    exact next_zout3_item S.sep D1 D2 D3 h1 h2 hTI st1 st2 st3 hlt hlt hlt fun x1 x2 x3 h' tk y1 y2 y3 b1 d1 d2 d3 b5 b6 b7 => hQ x1 x2 x3 h' tk y1 y2 y3 (.inr ⟨T, true, ot, b1, b7 _ _ (nT S.lz) (nT S.l1) (nT S.l2) (nT S.l3) h2, h3⟩) (b7 _ _ S.sep.TIz S.sep.TIi1 S.sep.TIi2 S.sep.TIi3 hTI) d1 d2 d3 b5 b6 fun c o cz _ c1 c2 c3 e => b7 c o cz c1 c2 c3 e
theorem zl_end {Q : Option Value → Shared → Prop} (S : ZS z TI TO i1 i2 i3 fp1 fp2 fp3 lo) (D1 : Draws prog w A.in1 i1 fp1 n P1 St1) (D2 : Draws prog w A.in1 i2 fp2 n P2 St2) (D3 : Draws prog w A.in1 i3 fp3 n P3 St3)
    (hz : ZAny s.heap z TI TO lo) (hTI : IsTupOf3 s.heap TI (.ref i1) (.ref i2) (.ref i3)) (st1 : St1 n s.heap) (st2 : St2 n s.heap) (st3 : St3 n s.heap)
    (hQ : ∀ h' tk, (∀ c o, c ≠ z → c ≠ TO → c ≠ i1 → c ≠ i2 → c ≠ i3 → s.heap.get? c = some o → h'.get? c = some o) → Q none { s with heap := h', toks := tk }) : wpAny (model prog w) A (pyNext (.ref z)) Q E s := by
  rcases hz with ⟨h1, a1, a2, a3, h2⟩ | ⟨T, f, ot, h1, h2, h3⟩
  · exact wpAny_pyNext_zipD3_end S.sep D1 D2 D3 h1 hTI h2 st1 st2 st3 (Nat.le_refl _) (Nat.le_refl _) (Nat.le_refl _) (.inl rfl) hQ
  · exact next_zout3_end S.sep D1 h1 h2 hTI st1 fun h' tk k => hQ h' tk fun c o cz _ c1 _ _ e => k c o cz c1 e
/-- the tuples that the list holds -/
structure ZG (P1 P2 P3 : Nat → Value → Prop) (lo : Addr) (h : Heap) (as : List Addr) : Prop where
  rise : as.Pairwise (· < ·)
  above : ∀ a ∈ as, lo ≤ a
  tups : ∀ (k : Nat) (a : Addr), as[k]? = some a → ∃ x1 x2 x3, P1 k x1 ∧ P2 k x2 ∧ P3 k x3 ∧ IsTupOf3 h a x1 x2 x3
theorem ZG.there {h : Heap} {as : List Addr} (g : ZG P1 P2 P3 lo h as) {a : Addr} (ha : a ∈ as) : a < h.objs.size := by
  obtain ⟨j, hj⟩ := List.mem_iff_getElem?.mp ha
  obtain ⟨_, _, _, _, _, _, e⟩ := g.tups j a hj
  exact Heap.lt_size e
theorem ZG.keep {h h' : Heap} {as : List Addr} (g : ZG P1 P2 P3 lo h as) (k : ∀ b o, lo ≤ b → h.get? b = some o → h'.get? b = some o) : ZG P1 P2 P3 lo h' as :=
  ⟨g.rise, g.above, fun j a hj => by
    obtain ⟨x1, x2, x3, y1, y2, y3, e⟩ := g.tups j a hj
    exact ⟨x1, x2, x3, y1, y2, y3, k _ _ (g.above a (List.mem_of_getElem? hj)) e⟩⟩
theorem ZG.snoc {h : Heap} {as : List Addr} (g : ZG P1 P2 P3 lo h as) {a : Addr} (ha : ∀ b ∈ as, b < a) (hl : lo ≤ a) {x1 x2 x3 : Value} (y1 : P1 as.length x1) (y2 : P2 as.length x2) (y3 : P3 as.length x3) (e : IsTupOf3 h a x1 x2 x3) : ZG P1 P2 P3 lo h (as ++ [a]) := by
  refine ⟨List.pairwise_append.mpr ⟨g.rise, List.pairwise_singleton _ _, fun b hb c hc => ?_⟩, fun b hb => ?_, fun k b hk => ?_⟩
  · rw [List.mem_singleton.mp hc]; exact ha b hb
  · rcases List.mem_append.mp hb with hb | hb
    · exact g.above b hb
    · rw [List.mem_singleton.mp hb]; exact hl
  · rcases Nat.lt_trichotomy k as.length with h1 | h1 | h1
    · rw [List.getElem?_append_left h1] at hk
      exact g.tups k b hk
    · subst h1
      have : a = b := by simpa using hk
      subst this
      exact ⟨x1, x2, x3, y1, y2, y3, e⟩
    · rw [List.getElem?_eq_none (by rw [List.length_append, List.length_singleton]; omega)] at hk
      cases hk
theorem zl_loop {R : Result → Shared → Prop} {L : Addr} (S : ZS z TI TO i1 i2 i3 fp1 fp2 fp3 lo) (hL : L < lo) (nz : L ≠ z) (nTI : L ≠ TI) (nTO : L ≠ TO) (n1 : L ≠ i1) (n2 : L ≠ i2) (n3 : L ≠ i3) (m1 : L ∉ fp1) (m2 : L ∉ fp2) (m3 : L ∉ fp3)
    (D1 : Draws prog w A.in1.in1 i1 fp1 n P1 St1) (D2 : Draws prog w A.in1.in1 i2 fp2 n P2 St2) (D3 : Draws prog w A.in1.in1 i3 fp3 n P3 St3) (hn : n ≤ sizeLine) (res : Value) {h₁ : Heap}
    (hR : ∀ h' tk acc c as, (∀ b o, b ≠ L → b ≠ z → b ≠ TO → b ≠ i1 → b ≠ i2 → b ≠ i3 → h₁.get? b = some o → h'.get? b = some o) → h'.get? L = some { cls := .type "list", dict := none, data := .seq acc c, slots := #[] } → as.length = n → ZG P1 P2 P3 lo h' as →
      acc.toList = as.map Value.ref → R (.ok (.ret res)) { s with heap := h', toks := tk }) :
    ∀ (k i : Nat) (h : Heap) (tk c : Nat) (acc : Array Value) (as : List Addr), n - i = k → i ≤ n → ZAny h z TI TO lo → IsTupOf3 h TI (.ref i1) (.ref i2) (.ref i3) → St1 i h → St2 i h → St3 i h → lo ≤ h.objs.size →
      (∀ b o, b ≠ L → b ≠ z → b ≠ TO → b ≠ i1 → b ≠ i2 → b ≠ i3 → h₁.get? b = some o → h.get? b = some o) →
      h.get? L = some { cls := .type "list", dict := none, data := .seq acc c, slots := #[] } → acc.toList = as.map Value.ref → as.length = i → ZG P1 P2 P3 lo h as →
      codeAny (model prog w) A (.builtin "list.extend.loop" ⟨[.ref L, .ref z, res], []⟩) R { s with heap := h, toks := tk } := by
  intro k
  induction k with
  | zero =>
    intro i h tk c acc as hk hi hz hTI s1 s2 s3 hlo hkeep hLo hacc hal hG
    obtain rfl : i = n := by omega
    refine codeAny_builtin PySem.F.entry_extend_loop ?_
    rw [Around.under_plainId PySem.F.plain_extend_loop _]
    show wpAny _ A.in1 (pyNext (.ref z) >>= _) _ _ _
    refine wpAny_bind (zl_end (s := { s with heap := h, toks := tk }) S D1 D2 D3 hz hTI s1 s2 s3 fun h' tk' hk' => ?_)
    have g' : ∀ b, lo ≤ b → b ≠ z ∧ b ≠ TO ∧ b ≠ i1 ∧ b ≠ i2 ∧ b ≠ i3 := fun b hb => ⟨Nat.ne_of_gt (Nat.lt_of_lt_of_le S.lz hb), Nat.ne_of_gt (Nat.lt_of_lt_of_le S.lTO hb), Nat.ne_of_gt (Nat.lt_of_lt_of_le S.l1 hb), Nat.ne_of_gt (Nat.lt_of_lt_of_le S.l2 hb), Nat.ne_of_gt (Nat.lt_of_lt_of_le S.l3 hb)⟩
    exact wpAny_pure (hR h' tk' acc c as (fun b o a1 a2 a3 a4 a5 a6 e => hk' b o a2 a3 a4 a5 a6 (hkeep b o a1 a2 a3 a4 a5 a6 e)) (hk' L _ nz nTO n1 n2 n3 hLo) hal (hG.keep fun b o hb e => by
      obtain ⟨q1, q2, q3, q4, q5⟩ := g' b hb
      exact hk' b o q1 q2 q3 q4 q5 e) hacc)
  | succ k ih =>
    intro i h tk c acc as hk hi hz hTI s1 s2 s3 hlo hkeep hLo hacc hal hG
    have hlt : i < n := by omega
    have hsz : acc.size = i := by rw [← Array.length_toList, hacc, List.length_map, hal]
    refine codeAny_builtin PySem.F.entry_extend_loop ?_
    rw [Around.under_plainId PySem.F.plain_extend_loop _]
    show wpAny _ A.in1 (pyNext (.ref z) >>= _) _ _ _
    refine wpAny_bind (zl_item (s := { s with heap := h, toks := tk }) S D1 D2 D3 hz hTI s1 s2 s3 hlt hlo fun x1 x2 x3 h' tk' y1 y2 y3 hz' hTI' s1' s2' s3' hT hsz' hkp => ?_)
    dsimp only at hT hsz' hkp ⊢
    have hL' := hkp L _ nz nTO n1 n2 n3 hLo
    have up : ∀ b o, b ≠ L → h'.get? b = some o → (h'.update L (Obj.mapSeq (·.push (Value.ref h.objs.size)))).get? b = some o := fun b o hb e => (Heap.get?_update_other _ _ (Ne.symm hb)).trans e
    have hLl : L < h.objs.size := Nat.lt_of_lt_of_le hL hlo
    have g' : ∀ b, lo ≤ b → b ≠ z ∧ b ≠ TO ∧ b ≠ i1 ∧ b ≠ i2 ∧ b ≠ i3 ∧ b ≠ L := fun b hb => ⟨Nat.ne_of_gt (Nat.lt_of_lt_of_le S.lz hb), Nat.ne_of_gt (Nat.lt_of_lt_of_le S.lTO hb), Nat.ne_of_gt (Nat.lt_of_lt_of_le S.l1 hb), Nat.ne_of_gt (Nat.lt_of_lt_of_le S.l2 hb), Nat.ne_of_gt (Nat.lt_of_lt_of_le S.l3 hb), Nat.ne_of_gt (Nat.lt_of_lt_of_le hL hb)⟩
    show wpAny _ A.in1 (updateSeq L (·.push (Value.ref h.objs.size)) >>= _) _ _ _
    refine wpAny_bind ?_
    refine wpAny_updateSeq hL' rfl (wpAny_pure ⟨plainId_quiet PySem.F.plain_extend_loop _, ih (i + 1) _ tk' _ (acc.push (Value.ref h.objs.size)) (as ++ [h.objs.size]) (by omega) hlt (hz'.keep up (Ne.symm nz) (Ne.symm nTO) hL) (up _ _ (Ne.symm nTI) hTI')
      (D1.frame _ _ _ s1' fun b hb o e => up b o (fun q => m1 (q ▸ hb)) e) (D2.frame _ _ _ s2' fun b hb o e => up b o (fun q => m2 (q ▸ hb)) e) (D3.frame _ _ _ s3' fun b hb o e => up b o (fun q => m3 (q ▸ hb)) e)
      (by rw [Heap.size_update, hsz']; exact Nat.le_succ_of_le hlo) (fun b o a1 a2 a3 a4 a5 a6 e => up b o a1 (hkp b o a2 a3 a4 a5 a6 (hkeep b o a1 a2 a3 a4 a5 a6 e))) (Heap.get?_update_self _ hL' rfl) (by rw [Array.toList_push, hacc, List.map_append]; rfl) (by rw [List.length_append, hal]; rfl)
      (ZG.snoc (hG.keep fun b o hb e => by
        obtain ⟨q1, q2, q3, q4, q5, q6⟩ := g' b hb
        exact up b o q6 (hkp b o q1 q2 q3 q4 q5 e)) (fun b hb => hG.there hb) hlo (by rw [hal]; exact y1) (by rw [hal]; exact y2) (by rw [hal]; exact y3) (up _ _ (Nat.ne_of_gt hLl) hT))⟩) (by rw [hsz]; omega) (by show (acc.push (Value.ref h.objs.size)).size ≤ sizeLine + 1; rw [Array.size_push, hsz]; omega)
end
end PySem
end

section
set_option Elab.async false
set_option linter.all false
set_option maxRecDepth 100000
/-! list(zip(a, b, c)), the call. -/
namespace PySem
open Sem (wp)
open PySem.Calls
section
variable {prog : Program} {w : World} {A : Around} {E : Value → Shared → Prop} {s : Shared} {z TI TO i1 i2 i3 lo L : Addr} {fp1 fp2 fp3 : List Addr} {n i : Nat} {P1 P2 P3 : Nat → Value → Prop} {St1 St2 St3 : Nat → Heap → Prop}
theorem zl_hint {f0 : Value} (hz : IsZip s.heap z TI TO f0) {Q : Bool → Shared → Prop} (h : Q true s) : wpAny (model prog w) A (Builtin.List.listLengthHint (.ref z)) Q E s := by
  have hT : s.TypeIs (.ref z) "zip" := ⟨_, hz, rfl⟩
  unfold Builtin.List.listLengthHint
  refine wpAny_bind (wpAny_specialOf hT zl_nolen ?_)
  refine wpAny_ite_split (fun hab => absurd hab (by decide)) (fun _ => ?_)
  refine wpAny_ite_split (fun hab => absurd hab (by decide)) (fun _ => ?_)
  refine wpAny_bind (wpAny_specialOf hT zl_nohint ?_)
  exact wpAny_pure h
/-- what the loop wants at its start -/
structure ZStart (z TI TO i1 i2 i3 : Addr) (fp1 fp2 fp3 : List Addr) (n : Nat) (St1 St2 St3 : Nat → Heap → Prop) (h : Heap) : Prop where
  sep : ZipSep3 z TI TO i1 i2 i3 fp1 fp2 fp3
  zip : IsZip h z TI TO .none
  ti : IsTupOf3 h TI (.ref i1) (.ref i2) (.ref i3)
  to : ∃ a1 a2 a3, IsTupOf3 h TO a1 a2 a3
  s1 : St1 0 h
  s2 : St2 0 h
  s3 : St3 0 h
  f1 : ∀ b ∈ fp1, b < h.objs.size
  f2 : ∀ b ∈ fp2, b < h.objs.size
  f3 : ∀ b ∈ fp3, b < h.objs.size
theorem zl_call {Q : Value → Shared → Prop} (hh : A.handled = none) (D1 : ∀ A : Around, A.handled = none → Draws prog w A i1 fp1 n P1 St1) (D2 : ∀ A : Around, A.handled = none → Draws prog w A i2 fp2 n P2 St2) (D3 : ∀ A : Around, A.handled = none → Draws prog w A i3 fp3 n P3 St3) (hn : n ≤ sizeLine)
    (Z : ZStart z TI TO i1 i2 i3 fp1 fp2 fp3 n St1 St2 St3 s.heap)
    (hQ : ∀ h' tk acc c as, (∀ b o, b ≠ z → b ≠ TO → b ≠ i1 → b ≠ i2 → b ≠ i3 → s.heap.get? b = some o → h'.get? b = some o) → h'.get? s.heap.objs.size = some { cls := .type "list", dict := none, data := .seq acc c, slots := #[] } → as.length = n → ZG P1 P2 P3 (s.heap.objs.size + 1) h' as →
      acc.toList = as.map Value.ref → Q (.ref s.heap.objs.size) { s with heap := h', toks := tk }) :
    wpAny (model prog w) A (call (.type "list") [.ref z]) Q E s := by
  refine callType_codes (Q₁ := fun obj s₁ => obj = .ref s.heap.objs.size ∧ s₁ = { s with heap := s.heap.push { cls := .type "list", data := .seq #[] } }) PySem.F.called_list (PySem.F.typeCall_list_1 _) PySem.F.entry_list_init
    (code_list_new _ ⟨rfl, rfl⟩) fun obj s₁ h₁ => ?_
  obtain ⟨rfl, rfl⟩ := h₁
  have gz : z < s.heap.objs.size := Heap.lt_size Z.zip
  have gTI : TI < s.heap.objs.size := Heap.lt_size Z.ti
  have gTO : TO < s.heap.objs.size := by obtain ⟨_, _, _, e⟩ := Z.to; exact Heap.lt_size e
  have g1 := Z.f1 _ Z.sep.mem1
  have g2 := Z.f2 _ Z.sep.mem2
  have g3 := Z.f3 _ Z.sep.mem3
  have F1 := Z.f1
  have F2 := Z.f2
  have F3 := Z.f3
  generalize hL : s.heap.objs.size = L at *
  have hS : (s.heap.push { cls := .type "list", data := .seq #[] }).get? L = some { cls := .type "list", data := .seq #[] } := by rw [← hL]; exact Heap.get?_push_size _ rfl
  have nL : ∀ {b : Addr}, b < L → b ≠ L := fun {b} hb => Nat.ne_of_lt hb
  have ZSS : ZS z TI TO i1 i2 i3 fp1 fp2 fp3 (L + 1) := ⟨Z.sep, Nat.lt_succ_of_lt gz, Nat.lt_succ_of_lt gTI, Nat.lt_succ_of_lt gTO, Nat.lt_succ_of_lt g1, Nat.lt_succ_of_lt g2, Nat.lt_succ_of_lt g3, fun b hb => Nat.lt_succ_of_lt (F1 b hb), fun b hb => Nat.lt_succ_of_lt (F2 b hb), fun b hb => Nat.lt_succ_of_lt (F3 b hb)⟩
  have p0 : ∀ b o, s.heap.get? b = some o → (s.heap.push { cls := .type "list", data := .seq #[] }).get? b = some o := fun b o e => Heap.get?_push_of_some _ e
  have szp : (s.heap.push { cls := .type "list", data := .seq #[] }).objs.size = L + 1 := by rw [Heap.size_push, hL]
  -- the loop, from any heap that differs in the list alone
  have key : ∀ (h : Heap) (c₁ tk : Nat), (∀ b o, b ≠ L → (s.heap.push { cls := .type "list", data := .seq #[] }).get? b = some o → h.get? b = some o) → h.objs.size = L + 1 →
      h.get? L = some { cls := .type "list", data := .seq #[] c₁ } → codeAny (model prog w) A.in1 (.builtin "list.extend.loop" ⟨[.ref L, .ref z, .none], []⟩) (wants (fun r s₂ => r = .none ∧ Q (.ref L) s₂) E) { s with heap := h, toks := tk } := by
    intro h c₁ tk hk hz h0
    have kk : ∀ b o, b < L → s.heap.get? b = some o → h.get? b = some o := fun b o hb e => hk b o (nL hb) (p0 b o e)
    refine zl_loop (A := A.in1) (R := wants (fun r s₂ => r = .none ∧ Q (.ref L) s₂) E) (s := s) (h₁ := s.heap) ZSS (Nat.lt_succ_self L) (nL gz).symm (nL gTI).symm (nL gTO).symm (nL g1).symm (nL g2).symm (nL g3).symm (fun hb => Nat.lt_irrefl _ (F1 _ hb)) (fun hb => Nat.lt_irrefl _ (F2 _ hb)) (fun hb => Nat.lt_irrefl _ (F3 _ hb))
      (D1 _ hh) (D2 _ hh) (D3 _ hh) hn .none (fun h' tk' acc c as hk' hL' hl hG hacc => ⟨rfl, hQ h' tk' acc c as (fun b o a2 a3 a4 a5 a6 e => hk' b o (by
        intro q
        rw [q] at e
        have := Heap.lt_size e
        rw [hL] at this
        exact Nat.lt_irrefl _ this) a2 a3 a4 a5 a6 e) hL' hl hG hacc⟩) n 0 h tk c₁ #[] [] (Nat.sub_zero _) (Nat.zero_le _) ?_ (kk _ _ gTI Z.ti)
      ((D1 A hh).frame _ _ _ Z.s1 fun b hb o e => kk b o (F1 b hb) e) ((D2 A hh).frame _ _ _ Z.s2 fun b hb o e => kk b o (F2 b hb) e) ((D3 A hh).frame _ _ _ Z.s3 fun b hb o e => kk b o (F3 b hb) e) (Nat.le_of_eq hz.symm)
      (fun b o a1 _ _ _ _ _ e => hk b o a1 (p0 b o e)) h0 rfl rfl ⟨List.Pairwise.nil, (fun _ ha => nomatch ha), (fun j a hj => by simp at hj)⟩
    obtain ⟨a1, a2, a3, e⟩ := Z.to
    exact .inl ⟨kk _ _ gz Z.zip, a1, a2, a3, kk _ _ gTO e⟩
  refine ⟨⟨_, hS, rfl⟩, PySem.F.args_list_init_2 _ _, ?_⟩
  show wpAny _ _ (do let old ← Builtin.List.listItems (.ref L); Builtin.List.listUpdate (.ref L) (fun _ => #[]); letGo old.toList.reverse; Builtin.List.listExtendWith (.ref L) (.ref z) .none) _ _ _
  refine wpAny_bind ?_
  unfold Builtin.List.listItems
  refine wpAny_bind (wpAny_seqItems hS rfl (wpAny_pure ?_))
  show wpAny _ _ (updateSeq L (fun _ => #[]) >>= fun _ => letGo (#[] : Array Value).toList.reverse >>= fun _ => Builtin.List.listExtendWith (.ref L) (.ref z) .none) _ _ _
  refine wpAny_bind (wpAny_updateSeq hS rfl ?_)
  have hS₂ := Heap.get?_update_self (Obj.mapSeq (fun _ => (#[] : Array Value))) hS rfl
  have oth : ∀ b o, b ≠ L → (s.heap.push { cls := .type "list", data := .seq #[] }).get? b = some o → ((s.heap.push { cls := .type "list", data := .seq #[] }).update L (Obj.mapSeq (fun _ => (#[] : Array Value)))).get? b = some o :=
    fun b o hb e => (Heap.get?_update_other _ _ (Ne.symm hb)).trans e
  have hz₂ := oth z _ (nL gz) (p0 _ _ Z.zip)
  refine wpAny_bind (wpAny_letGo ?_)
  unfold Builtin.List.listExtendWith
  refine wpAny_bind (wpAny_typeOf (T := "zip") ⟨_, hz₂, rfl⟩ ?_)
  have h1 : Builtin.List.listSameRef (.ref L) (.ref z) = false := by simp [Builtin.List.listSameRef, (nL gz).symm]
  have h2 : (Value.type "zip" == Value.type "list") = false := by decide
  have h3 : (Value.type "zip" == Value.type "tuple") = false := by decide
  simp only [h1, h2, h3, Bool.or_false, Bool.false_eq_true, if_false]
  refine wpAny_bind (wpAny_pyIter_zip hz₂ ?_)
  refine wpAny_bind (wpAny_holding (zl_hint hz₂ ?_))
  refine wpAny_ite_split (fun _ => ?_) (fun hab => absurd rfl hab)
  refine wpAny_bind (wpAny_rule ?_)
  refine wpAny_bind ?_
  show wpAny _ _ (updateSeq L (·.push .none) >>= fun _ => updateSeq L (·.pop)) _ _ _
  refine wpAny_bind (wpAny_updateSeq hS₂ rfl ?_)
  have hS₃ := Heap.get?_update_self (Obj.mapSeq (·.push Value.none)) hS₂ rfl
  refine wpAny_updateSeq (hz := by seq_fits) hS₃ rfl ?_
  have hS₄ := Heap.get?_update_self (Obj.mapSeq (·.pop)) hS₃ rfl
  refine wpAny_pure ⟨plainId_quiet PySem.F.plain_extend_loop _, key _ _ _ (fun b o hb e => ?_) ?_ hS₄⟩
  · exact (Heap.get?_update_other _ _ (Ne.symm hb)).trans ((Heap.get?_update_other _ _ (Ne.symm hb)).trans (oth b o hb e))
  · rw [Heap.size_update, Heap.size_update, Heap.size_update, szp]
end
end PySem
end

section
set_option Elab.async false
set_option linter.all false
set_option maxRecDepth 100000
/-! list(zip(a, b, c)) as a reading. -/
namespace Mi
open PySem PySem.Spec PyProof.Rows L2
variable [LT] [Fr]
variable {K : PySem.W.Frag} {Φ : Fns} {E : XK} {B : Bs} {lk : List (Nat × V)} {F F' H H' : Hp} {σ : L2.St} {ρ : Env} {fps : List (List Addr)} {ts : List (V × Tm)} {Q : VK} {X : Cx}
omit [LT] [Fr] in
/-- track, for what is fresh here -/
theorem track2 {pins : List (Addr × Obj)} {s : Shared} {a : Addr} {o : HO} (I : Inv X pins σ H s) (f : FpOk X pins H a) (old : X.s_0.heap.objs.size ≤ a) (ho : ObjOk X.prog X.w (upd H a o) s.heap a o) : Inv X pins σ (upd H a o) s :=
  track I f.1 (by
    cases q : X.s_0.heap.get? a with
    | none => rfl
    | some u => exact absurd (Nat.lt_of_lt_of_le (Heap.lt_size q) old) (Nat.lt_irrefl _)) (Ne.symm f.2.1 |>.symm) (fun y c e => f.2.2.2.2.1 y c e) (fun p hp => f.2.2.2.2.2 p hp) ho
def updT (H : Hp) : List Addr → List (List V) → Hp
  | a :: as, t :: ts => updT (upd H a (.tup t)) as ts
  | _, _ => H
omit [LT] [Fr] in
theorem updT_out {b : Addr} : ∀ {as : List Addr} {ts : List (List V)} {H : Hp}, b ∉ as → updT H as ts b = H b
  | [], ts, H, _ => by cases ts <;> rfl
  | a :: as, [], H, _ => rfl
  | a :: as, t :: ts, H, h => by
    simp only [List.mem_cons, not_or] at h
    simp only [updT]
    rw [updT_out h.2, upd_ne h.1]
omit [LT] [Fr] in
theorem track_tups {pins : List (Addr × Obj)} {s : Shared} : ∀ {as : List Addr} {ts : List (List V)} {H : Hp}, Inv X pins σ H s → as.Nodup → (∀ a ∈ as, FpOk X pins H a ∧ X.s_0.heap.objs.size ≤ a) →
    (∀ (k : Nat) a t, as[k]? = some a → ts[k]? = some t → t.length ≤ sizeLine ∧ ∃ its, Vals t its ∧ IsTup s.heap a its.toArray) → Inv X pins σ (updT H as ts) s
  | [], ts, H, I, _, _, _ => by cases ts <;> exact I
  | a :: as, [], H, I, _, _, _ => I
  | a :: as, t :: ts, H, I, nd, hf, ho => by
    rw [List.nodup_cons] at nd
    simp only [updT]
    obtain ⟨f, old⟩ := hf a (List.mem_cons_self ..)
    obtain ⟨h1, its, h2, h3⟩ := ho 0 a t rfl rfl
    refine track_tups (track2 I f old ⟨h1, its, h2, h3⟩) nd.2 (fun b hb => ?_) (fun k b u e1 e2 => ho (k + 1) b u (by simpa using e1) (by simpa using e2))
    obtain ⟨g, go⟩ := hf b (List.mem_cons_of_mem _ hb)
    refine ⟨⟨?_, g.2⟩, go⟩
    rw [upd_ne (fun z : b = a => nd.1 (by rw [← z]; exact hb))]
    exact g.1
def zip3V : List V → List V → List V → List (List V)
  | a :: as, b :: bs, c :: cs => [a, b, c] :: zip3V as bs cs
  | _, _, _ => []
omit [LT] [Fr] in
theorem zip3V_get : ∀ {as bs cs : List V} {k : Nat} {t : List V}, (zip3V as bs cs)[k]? = some t → ∃ a b c, as[k]? = some a ∧ bs[k]? = some b ∧ cs[k]? = some c ∧ t = [a, b, c]
  | [], bs, cs, k, t, h => by simp [zip3V] at h
  | _ :: _, [], cs, k, t, h => by simp [zip3V] at h
  | _ :: _, _ :: _, [], k, t, h => by simp [zip3V] at h
  | a :: as, b :: bs, c :: cs, 0, t, h => by simp [zip3V] at h; exact ⟨a, b, c, rfl, rfl, rfl, h.symm⟩
  | a :: as, b :: bs, c :: cs, k + 1, t, h => by
    simp only [zip3V, List.getElem?_cons_succ] at h
    simpa using zip3V_get h
def tLz3 (K : PySem.W.Frag) (ta : TA) : TE := fun σ H Q => ta σ H fun vs H1 => ∃ k1 a xs k2 b ys k3 c zs, vs = [.ref a, .ref b, .ref c] ∧ SqB k1 K H1 a xs ∧ SqB k2 K H1 b ys ∧ SqB k3 K H1 c zs ∧ xs.length = ys.length ∧ xs.length = zs.length ∧ xs.length ≤ sizeLine ∧
  ∀ (D : Addr) (as : List Addr), (D :: as).Nodup → (∀ q ∈ D :: as, H1 q = none) → as.length = xs.length → Q (.ref D) (upd (updT H1 as (zip3V xs ys zs)) D (.lst (as.map V.ref)))
omit [LT] [Fr] in
theorem vals_refs : ∀ as : List Addr, Vals (as.map V.ref) (as.map Value.ref)
  | [] => .nil
  | a :: as => .cons rfl (vals_refs as)
omit [LT] [Fr] in
theorem vals_some {xs : List V} {its : List Value} {i : Nat} {x : V} {u : Value} (rv : Vals xs its) (hx : xs[i]? = some x) (hu : its.toArray[i]? = some u) : RelV x u := by
  have hu : its[i]? = some u := by simpa using hu
  obtain ⟨u', hu', ru⟩ := rv.get hx
  rw [hu] at hu'
  cases hu'
  exact ru
theorem pe_lzip3 {e e2 e3 : Expr} {ta : TA} {p0 p pos pos0 : Pos} (hc : X.calm = true) (hgl : Gl X "list") (hml : X.mg "list" = none) (hg : Gl X "zip") (hm : X.mg "zip" = none) (ha : PA X [e, e2, e3] ta)
    (hs : starEach [e, e2, e3] X.env = (false, eval e X.env) :: starEach [e2, e3] X.env := by rfl) (hpl : (backTo pos (starEach [e2, e3] X.env)).any (·.1) = false := by rfl) :
    PE X (.Call (.Name "list" p0) [.Call (.Name "zip" p) [e, e2, e3] [] pos] [] pos0) (tLz3 X.K ta) := by
  refine ⟨fun pins s σ H Q I h => ?_⟩
  refine Call_ (ld_blt I hgl hml PyProof.Rows.boot_list (PyProof.Rows.callWith_type1 ?_ rfl rfl))
  refine PyProof.Rows.args_cons ?_ rfl
  refine Call_ (ld_blt I hg hm PyProof.Rows.boot_zip (PyProof.Rows.callWith_type1 (thn (ha.run pos pins s σ H _ I h) fun us s1 ⟨vs, H1, I1, r1, q1⟩ => ?_) hs hpl))
  obtain ⟨k1, a, xs, k2, b, ys, k3, c, zs, ex, hqx, hqy, hqz, ly, lz, lsz, q⟩ := q1
  subst ex
  cases r1 with
  | cons r rr =>
    cases rr with
    | cons r' rr =>
      cases rr with
      | cons r'' rr =>
        cases rr
        cases r
        cases r'
        cases r''
        obtain ⟨its, rv, p1, la⟩ := srcB I1 hqx
        obtain ⟨its2, rv2, p2, lb⟩ := srcB I1 hqy
        obtain ⟨its3, rv3, p3, lc⟩ := srcB I1 hqz
        refine zip_begins3 (beginsB k1 a its.toArray) (beginsB k2 b its2.toArray) (beginsB k3 c its3.toArray) p1 p2 p3 fun h' hz hTI hTO h1 h2 h3 hsz hk => ?_
        refine PyProof.Rows.args_nil ?_
        have I2 : Inv X pins σ H1 { s1 with heap := h' } := I1.kept (t' := s1.toks) hk
        generalize hN : s1.heap.objs.size = N at *
        have hn1 : its.toArray.size = xs.length := by rw [List.size_toArray]; exact rv.length.symm
        have hn2 : its2.toArray.size = xs.length := by rw [List.size_toArray, ly]; exact rv2.length.symm
        have hn3 : its3.toArray.size = xs.length := by rw [List.size_toArray, lz]; exact rv3.length.symm
        have ob1 : obB k1 h' a its.toArray := (drawsB (prog := X.prog) (w := X.w) (A := X.A) k1 (I.ok.hd hc) N a (Nat.ne_of_lt la) its.toArray).frame 0 h' h' ⟨itB_new h1, by
          cases k1 with
          | true => exact Heap.IsList.at p1 fun o e => hk _ o e
          | false => exact (show h'.IsTuple a its.toArray from let ⟨o, ho, r⟩ := (p1 : s1.heap.IsTuple a its.toArray); ⟨o, hk _ o ho, r⟩)⟩ (fun _ _ _ e => e) |>.2
        have ob2 : obB k2 h' b its2.toArray := by
          cases k2 with
          | true => exact Heap.IsList.at p2 fun o e => hk _ o e
          | false => exact (show h'.IsTuple b its2.toArray from let ⟨o, ho, r⟩ := (p2 : s1.heap.IsTuple b its2.toArray); ⟨o, hk _ o ho, r⟩)
        have ob3 : obB k3 h' c its3.toArray := by
          cases k3 with
          | true => exact Heap.IsList.at p3 fun o e => hk _ o e
          | false => exact (show h'.IsTuple c its3.toArray from let ⟨o, ho, r⟩ := (p3 : s1.heap.IsTuple c its3.toArray); ⟨o, hk _ o ho, r⟩)
        have hle : N ≤ h'.objs.size := by have := Heap.lt_size hz; omega
        have D1 : ∀ A : Around, A.handled = none → Draws X.prog X.w A N [N, a] xs.length (fun i v => its.toArray[i]? = some v) (fun i h => itB k1 h N a i ∧ obB k1 h a its.toArray) := fun A hA => by
          have := drawsB (prog := X.prog) (w := X.w) (A := A) k1 hA N a (Nat.ne_of_lt la) its.toArray
          rwa [hn1] at this
        have D2 : ∀ A : Around, A.handled = none → Draws X.prog X.w A (N + 1) [N + 1, b] xs.length (fun i v => its2.toArray[i]? = some v) (fun i h => itB k2 h (N + 1) b i ∧ obB k2 h b its2.toArray) := fun A hA => by
          have := drawsB (prog := X.prog) (w := X.w) (A := A) k2 hA (N + 1) b (Nat.ne_of_lt (Nat.lt_succ_of_lt lb)) its2.toArray
          rwa [hn2] at this
        have D3 : ∀ A : Around, A.handled = none → Draws X.prog X.w A (N + 2) [N + 2, c] xs.length (fun i v => its3.toArray[i]? = some v) (fun i h => itB k3 h (N + 2) c i ∧ obB k3 h c its3.toArray) := fun A hA => by
          have := drawsB (prog := X.prog) (w := X.w) (A := A) k3 hA (N + 2) c (Nat.ne_of_lt (Nat.lt_succ_of_lt (Nat.lt_succ_of_lt lc))) its3.toArray
          rwa [hn3] at this
        have fin : ∀ {x y : Addr}, x < h'.objs.size → y < h'.objs.size → ∀ b ∈ [x, y], b < h'.objs.size := fun {x y} hx hy b hb => by
          rcases List.mem_cons.mp hb with rfl | hb
          · exact hx
          · rw [List.mem_singleton.mp hb]; exact hy
        refine zl_call (s := { s1 with heap := h' }) (I.ok.hd hc) D1 D2 D3 lsz ⟨sep3 N a b c la lb lc, hz, hTI, ⟨_, _, _, hTO⟩, ⟨itB_new h1, ob1⟩, ⟨itB_new h2, ob2⟩, ⟨itB_new h3, ob3⟩, fin (Heap.lt_size h1) (Nat.lt_of_lt_of_le la hle), fin (Heap.lt_size h2) (Nat.lt_of_lt_of_le lb hle), fin (Heap.lt_size h3) (Nat.lt_of_lt_of_le lc hle)⟩
          fun h'' tk acc cap as hk2 hL hal G hacc => ?_
        dsimp only at hk2 hL G ⊢
        have fpo : ∀ c', N ≤ c' → H1 c' = none ∧ FpOk X pins H1 c' ∧ X.s_0.heap.objs.size ≤ c' := fun c' hc' => by
          have n0 : H1 c' = none := I1.hok.fresh (by rw [hN]; exact hc')
          exact ⟨n0, I1.fpOk (by rw [hN]; exact hc') n0, Nat.le_trans I1.sz (by rw [hN]; exact hc')⟩
        have I3 : Inv X pins σ H1 { s1 with heap := h'', toks := tk } := Inv.turnedL (s := { s1 with heap := h' }) (h' := h'') (t' := tk) (ch := [N + 5, N + 4, N, N + 1, N + 2]) I2 (fun b' o hb e => hk2 b' o (fun z => hb (by simp [z])) (fun z => hb (by simp [z])) (fun z => hb (by simp [z])) (fun z => hb (by simp [z])) (fun z => hb (by simp [z])) e) fun c' hc' => by
          refine (fpo c' ?_).2.1
          simp only [List.mem_cons, List.not_mem_nil, or_false] at hc'
          rcases hc' with rfl | rfl | rfl | rfl | rfl <;> unfold Addr at * <;> omega
        have above : ∀ a' ∈ as, N ≤ a' := fun a' ha' => Nat.le_trans hle (Nat.le_of_succ_le (G.above a' ha'))
        have nd : as.Nodup := G.rise.imp fun h => Nat.ne_of_lt h
        have I4 : Inv X pins σ (updT H1 as (zip3V xs ys zs)) { s1 with heap := h'', toks := tk } := track_tups I3 nd (fun a' ha' => (fpo a' (above a' ha')).2) fun k a' t e1 e2 => by
          obtain ⟨x, y, zz, g1, g2, g3, rfl⟩ := zip3V_get e2
          obtain ⟨x1, x2, x3, y1, y2, y3, e⟩ := G.tups k a' e1
          exact ⟨by show 3 ≤ sizeLine; decide, [x1, x2, x3], .cons (vals_some rv g1 y1) (.cons (vals_some rv2 g2 y2) (.cons (vals_some rv3 g3 y3) .nil)), ⟨_, e, rfl, 0, rfl⟩⟩
        have nD : h'.objs.size ∉ as := fun hm => Nat.lt_irrefl _ (Nat.lt_of_succ_le (G.above _ hm))
        have fD := fpo h'.objs.size hle
        have I5 : Inv X pins σ (upd (updT H1 as (zip3V xs ys zs)) h'.objs.size (.lst (as.map V.ref))) { s1 with heap := h'', toks := tk } :=
          track2 (o := .lst (as.map V.ref)) I4 ⟨by rw [updT_out nD]; exact fD.1, fD.2.1.2⟩ fD.2.2 ⟨by rw [List.length_map, hal]; exact lsz, as.map Value.ref, cap, vals_refs as, by
            rw [hL]
            have : acc = (as.map Value.ref).toArray := by rw [← hacc]
            rw [this]⟩
        refine ⟨.ref h'.objs.size, _, I5, rfl, q _ as (List.nodup_cons.mpr ⟨nD, nd⟩) (fun b' hb' => ?_) hal⟩
        · rcases List.mem_cons.mp hb' with rfl | hb'
          · exact fD.1
          · exact (fpo b' (above b' hb')).1
end Mi
end

section
set_option Elab.async false
set_option linter.all false
set_option maxRecDepth 100000
namespace Mi
open PySem PySem.Spec PyProof.Rows L2
variable [LT] [Fr]
variable {K : PySem.W.Frag} {Φ : Fns} {E : XK} {B : Bs} {lk : List (Nat × V)} {F F' H H' : Hp} {σ : L2.St} {ρ : Env} {fps : List (List Addr)} {ts : List (V × Tm)} {Q : VK} {X : Cx}
omit [LT] [Fr] in
theorem updT_same : ∀ {as : List Addr} {tt : List (List V)} {H : Hp}, as.Nodup → (∀ a ∈ as, H a = none) → Same H (updT H as tt)
  | [], tt, H, _, _ => by cases tt <;> exact Same.refl _
  | a :: as, [], H, _, _ => Same.refl _
  | a :: as, t :: tt, H, nd, hn => by
    rw [List.nodup_cons] at nd
    simp only [updT]
    refine Same.trans (same_upd (hn a (List.mem_cons_self ..))) (updT_same nd.2 fun b hb => ?_)
    rw [upd_ne (fun z : b = a => nd.1 (by rw [← z]; exact hb))]
    exact hn b (List.mem_cons_of_mem _ hb)
omit [LT] [Fr] in
theorem updT_at : ∀ {as : List Addr} {tt : List (List V)} {H : Hp} (k : Nat) {a : Addr} {t : List V}, as.Nodup → as[k]? = some a → tt[k]? = some t → updT H as tt a = some (.tup t)
  | [], tt, H, k, a, t, _, h, _ => by simp at h
  | b :: as, [], H, k, a, t, _, _, h => by simp at h
  | b :: as, u :: tt, H, 0, a, t, nd, h1, h2 => by
    simp at h1 h2
    subst h1 h2
    rw [List.nodup_cons] at nd
    simp only [updT]
    rw [updT_out nd.1, upd_same]
  | b :: as, u :: tt, H, k + 1, a, t, nd, h1, h2 => by
    rw [List.nodup_cons] at nd
    simp only [updT]
    exact updT_at k nd.2 (by simpa using h1) (by simpa using h2)
theorem sta_tups : ∀ {as : List Addr} {tt : List (List V)} {F H : Hp}, Sta K B lk F H σ ρ fps ts → as.Nodup → (∀ a ∈ as, H a = none) → Sta K B lk (updT F as tt) (updT H as tt) σ ρ fps ts
  | [], tt, F, H, S, _, _ => by cases tt <;> exact S
  | a :: as, [], F, H, S, _, _ => S
  | a :: as, t :: tt, F, H, S, nd, hn => by
    rw [List.nodup_cons] at nd
    simp only [updT]
    have ha := hn a (List.mem_cons_self ..)
    have hF := same_upd (Same.none S.own.sub ha) (o := HO.tup t)
    have hH := same_upd ha (o := HO.tup t)
    refine sta_tups (Sta.mono (all := []) S hF (fun b hb => live_keep S.own hH hb) (S.own.tuple ha t) (newF_ntT (fun z => z))) nd.2 fun b hb => ?_
    rw [upd_ne (fun z : b = a => nd.1 (by rw [← z]; exact hb))]
    exact hn b (List.mem_cons_of_mem _ hb)
where
  newF_ntT : ∀ {F : Hp} {p : Addr} {u : HO}, ¬ Hard u → ∀ b w, Hard w → upd F p u b = some w → F b = some w := fun {F p u} hu b w hw z => by
    by_cases q : b = p
    · subst q; rw [upd_same] at z; cases z; exact absurd hw hu
    · rw [upd_ne q] at z; exact z
theorem rep_tups : ∀ {as : List Addr} {d1 d2 d3 : List D} {v1 v2 v3 : List V}, RepL K F H d1 v1 [] → RepL K F H d2 v2 [] → RepL K F H d3 v3 [] → d1.length = d2.length → d1.length = d3.length → as.length = d1.length →
    (∀ (k : Nat) a t, as[k]? = some a → (zip3V v1 v2 v3)[k]? = some t → F a = some (.tup t)) → RepL K F H (zip3 d1 d2 d3) (as.map V.ref) []
  | [], [], [], [], v1, v2, v3, _, _, _, _, _, _, _ => by simp [RepL, zip3]
  | a :: as, x :: d1, y :: d2, z :: d3, v1, v2, v3, h1, h2, h3, l1, l2, l3, hF => by
    simp only [RepL] at h1 h2 h3
    obtain ⟨vx, v1', f1, g1, rfl, x1, x2, e1⟩ := h1
    obtain ⟨vy, v2', f2, g2, rfl, y1, y2, e2⟩ := h2
    obtain ⟨vz, v3', f3, g3, rfl, z1, z2, e3⟩ := h3
    obtain ⟨rfl, rfl⟩ : f1 = [] ∧ g1 = [] := List.append_eq_nil_iff.mp e1.symm
    obtain ⟨rfl, rfl⟩ : f2 = [] ∧ g2 = [] := List.append_eq_nil_iff.mp e2.symm
    obtain ⟨rfl, rfl⟩ : f3 = [] ∧ g3 = [] := List.append_eq_nil_iff.mp e3.symm
    simp only [zip3, List.map_cons, RepL]
    refine ⟨.ref a, as.map V.ref, [], [], rfl, ?_, rep_tups x2 y2 z2 (by simpa using l1) (by simpa using l2) (by simpa using l3) fun k b t q1 q2 => hF (k + 1) b t (by simpa using q1) (by simpa [zip3V] using q2), rfl⟩
    simp only [Rep]
    refine ⟨a, [vx, vy, vz], rfl, SqT.of (hF 0 a [vx, vy, vz] rfl rfl), ?_⟩
    exact ⟨vx, [vy, vz], [], [], rfl, x1, ⟨vy, [vz], [], [], rfl, y1, ⟨vz, [], [], [], rfl, z1, ⟨rfl, rfl⟩, rfl⟩, rfl⟩, rfl⟩
  | [], _ :: _, _, _, _, _, _, _, _, _, _, _, l3, _ => by simp at l3
  | _ :: _, [], _, _, _, _, _, _, _, _, _, _, l3, _ => by simp at l3
  | _, [], _ :: _, _, _, _, _, _, _, _, l1, _, _, _ => by simp at l1
  | _, [], _, _ :: _, _, _, _, _, _, _, _, l2, _, _ => by simp at l2
  | _, _ :: _, [], _, _, _, _, _, _, _, l1, _, _, _ => by simp at l1
  | _, _ :: _, _, [], _, _, _, _, _, _, _, l2, _, _ => by simp at l2
theorem srcs3 {d1 d2 d3 : List D} {vs : List V} (h : SrcsOk K F H [d1, d2, d3] vs) : ∃ x1 x2 x3, vs = [x1, x2, x3] ∧ SrcOk K F H x1 d1 ∧ SrcOk K F H x2 d2 ∧ SrcOk K F H x3 d3 := by
  cases vs with
  | nil => exact h.elim
  | cons x1 vs =>
    cases vs with
    | nil => exact h.2.elim
    | cons x2 vs =>
      cases vs with
      | nil => exact h.2.2.elim
      | cons x3 vs =>
        cases vs with
        | nil => exact ⟨x1, x2, x3, rfl, h.1, h.2.1, h.2.2.1⟩
        | cons _ _ => exact h.2.2.2.elim
theorem t_lzip {es : List IE} (h : tI K Φ E (.lzip es) σ H Q) : tLz3 K (tOs K Φ E es) σ H Q := by
  obtain ⟨B, lk, F, ρ, fps, ts, S, o⟩ := h
  simp only [ev] at o
  rw [out_bind] at o
  refine ⟨B, lk, F, ρ, fps, ts, S, o.imp fun os ρ1 q tms F1 H1 fps1 hi S1 => ?_⟩
  cases e : itemsAll ρ1 os with
  | none => rw [e] at q; exact q.elim
  | some dss =>
    rw [e] at q
    split at q
    · rename_i d1 d2 d3 hd
      cases hd
      split at q
      · rename_i hl
        obtain ⟨l1, l2, l3⟩ := hl
        obtain ⟨F2, s2, S2, hf⟩ := Sta.freezeAll S1
        have so := srcs_ok (fps := fps1) (σ := σ) hi e (fun t ht => hf t (by simp [ht])) (fun t ht i e3 => by
          have := S1.temps t (by simp [ht])
          unfold TmOk at this
          rw [e3] at this
          exact this) S2.slots
        obtain ⟨x1, x2, x3, hvs, c1, c2, c3⟩ := srcs3 so
        rw [hvs]
        obtain ⟨k1, a, v1, rfl, q1, r1⟩ := srcOk_B c1
        obtain ⟨k2, b, v2, rfl, q2, r2⟩ := srcOk_B c2
        obtain ⟨k3, c, v3, rfl, q3, r3⟩ := srcOk_B c3
        have n1 := RepL.length _ _ _ r1
        have n2 := RepL.length _ _ _ r2
        have n3 := RepL.length _ _ _ r3
        refine ⟨k1, a, v1, k2, b, v2, k3, c, v3, rfl, q1.mono S2.own.sub, q2.mono S2.own.sub, q3.mono S2.own.sub, by omega, by omega, by rw [← SZ_eq]; omega, fun D as nd hn hal => ?_⟩
        rw [List.nodup_cons] at nd
        have fr : ∀ p ∈ as, H1 p = none := fun p hp => hn p (List.mem_cons_of_mem _ hp)
        have hD := hn D (List.mem_cons_self ..)
        have S3 := sta_tups (tt := zip3V v1 v2 v3) S2 nd.2 fr
        have sF : Same F2 (updT F2 as (zip3V v1 v2 v3)) := updT_same nd.2 fun p hp => Same.none S2.own.sub (fr p hp)
        have up := fun {ds vs} (r : RepL K F2 H1 ds vs []) => RepL.mono (H' := updT H1 as (zip3V v1 v2 v3)) sF ds vs [] (fun _ h => nomatch h) r
        have rt := rep_tups (as := as) (up r1) (up r2) (up r3) l1 l2 (by omega) fun k p t g1 g2 => updT_at k nd.2 g1 g2
        have p := PrimRes.newL S3.own.sub rt (p := D) (by rw [updT_out nd.1]; exact hD)
        exact q _ _ _ _ _ (S3.push p)
      · exact q.elim
    · exact q.elim
end Mi
end

section
set_option Elab.async false
set_option linter.all false
set_option maxRecDepth 100000
/-! max(xs), xs a list of tuples of whole numbers. -/
namespace PySem
open Sem (wp)
section
variable {prog : Program} {w : World} {A : Around} {R : Result → Shared → Prop} {E : Value → Shared → Prop} {s : Shared} {I L : Addr} {fp wr : List Addr} {n : Nat} {P : Nat → Value → Prop} {St : Nat → Heap → Prop} {G : Heap → Prop} {bt : Nat → Nat → Bool}
/-- u > v, where the heap is as G says -/
def GtIn (prog : Program) (w : World) (A : Around) (P : Nat → Value → Prop) (G : Heap → Prop) (bt : Nat → Nat → Bool) : Prop :=
  ∀ i j u v (t : Shared) (Q : Value → Shared → Prop) (E : Value → Shared → Prop), P i u → P j v → G t.heap → Q (.bool (bt i j)) t → wpAny (model prog w) A (richCompare .Gt u v) Q E t
theorem mx_loop (W : Walks prog w A.in1 I fp wr n P St) (cmp : GtIn prog w A.in1 P G bt) (nL : L ∉ fp) (keepG : ∀ h h' : Heap, G h → (∀ b o, b ∉ wr → b ≠ L → h.get? b = some o → h'.get? b = some o) → G h') :
    ∀ (m j : Nat) (t : Shared) (best : Value) (cap : Nat), n - (j + 1) = m → j + 1 ≤ n → St (j + 1) t.heap → P (argBest bt j) best → G t.heap → t.heap.get? L = some { cls := .type "list", dict := none, data := .seq #[best, best] cap, slots := #[] } →
      (∀ u g tk, P (argBest bt (n - 1)) u → (∀ b o, b ∉ wr → b ≠ L → t.heap.get? b = some o → g.get? b = some o) → R (.ok (.ret u)) { t with heap := g, toks := tk }) →
      codeAny (model prog w) A (.builtin "max.loop" ⟨[.ref I, .none, .ref L], []⟩) R t := by
  have nw : L ∉ wr := fun z => nL (W.sub _ z)
  have nm : (toString "max" ++ toString ".loop" : String) = "max.loop" := by decide
  intro m
  induction m with
  | zero =>
    intro j t best cap em hj st pb hG hL hR
    have en : j + 1 = n := by omega
    refine codeAny_builtin F.entry_max_loop ?_
    rw [Around.under_plainId F.plain_max_loop _]
    show wpAny _ A.in1 (seqItems? (.ref L) >>= _) _ _ t
    refine wpAny_bind (wpAny_seqItems hL rfl ?_)
    show wpAny _ A.in1 (tryCatch (pyNext (.ref I)) _ >>= _) _ _ t
    refine wpAny_bind (wpAny_tryCatch (W.done t _ _ (en ▸ st) fun g tk kg => ?_))
    have hL1 := kg L _ nw hL
    show wpAny _ A.in1 (updateSeq L (fun _ => #[]) >>= _) _ _ _
    refine wpAny_bind ?_
    refine wpAny_updateSeq hL1 rfl (wpAny_bind (wpAny_letGo (wpAny_pure ?_)))
    exact hR best _ tk (by rw [← en]; exact pb) fun b o b1 b2 e => (Heap.get?_update_other _ _ (Ne.symm b2)).trans (kg b o b1 e)
  | succ m ih =>
    intro j t best cap em hj st pb hG hL hR
    have lt : j + 1 < n := by omega
    refine codeAny_builtin F.entry_max_loop ?_
    rw [Around.under_plainId F.plain_max_loop _]
    show wpAny _ A.in1 (seqItems? (.ref L) >>= _) _ _ t
    refine wpAny_bind (wpAny_seqItems hL rfl ?_)
    show wpAny _ A.in1 (tryCatch (pyNext (.ref I)) _ >>= _) _ _ t
    refine wpAny_bind (wpAny_tryCatch (W.item (j + 1) t _ _ lt st fun u g tk pu st' kg => ?_))
    have hL1 := kg L _ nw hL
    have hG1 : G g := keepG _ _ hG fun b o b1 _ e => kg b o b1 e
    show wpAny _ A.in1 (tryCatch (holding [u, u] (richCompare .Gt u best >>= _)) _ >>= _) _ _ _
    refine wpAny_bind (wpAny_tryCatch (wpAny_holding (wpAny_bind (cmp (j + 1) (argBest bt j) u best _ _ _ pu pb hG1 ?_))))
    refine wpAny_bind (wpAny_holding (wpAny_truthy_bool ?_))
    refine wpAny_bind (wpAny_letGo (wpAny_pure ?_))
    cases hb : bt (j + 1) (argBest bt j) with
    | true =>
      simp only [if_true]
      refine wpAny_bind ?_
      refine wpAny_updateSeq hL1 rfl (wpAny_bind (wpAny_letGo ?_))
      rw [nm]
      have k2 : ∀ b o, b ≠ L → g.get? b = some o → (g.update L (Obj.mapSeq fun _ => #[u, u])).get? b = some o := fun b o b2 e => (Heap.get?_update_other _ _ (Ne.symm b2)).trans e
      refine wpAny_pure ⟨plainId_quiet F.plain_max_loop _, ih (j + 1) _ u _ (by omega) lt (W.frame _ _ _ st' fun b b1 o e => k2 b o (fun z => nL (z ▸ b1)) e) (by simp only [argBest, hb, if_true]; exact pu) (keepG _ _ hG1 fun b o _ b2 e => k2 b o b2 e)
        (Heap.get?_update_self _ hL1 rfl) fun u' g' tk' p' k' => ?_⟩
      exact hR u' g' tk' p' fun b o b1 b2 e => k' b o b1 b2 (k2 b o b2 (kg b o b1 e))
    | false =>
      simp only [Bool.false_eq_true, if_false]
      refine wpAny_bind (wpAny_letGo ?_)
      rw [nm]
      refine wpAny_pure ⟨plainId_quiet F.plain_max_loop _, ih (j + 1) _ best cap (by omega) lt st' (by simp only [argBest, hb, Bool.false_eq_true, if_false]; exact pb) hG1 hL1 fun u' g' tk' p' k' => ?_⟩
      exact hR u' g' tk' p' fun b o b1 b2 e => k' b o b1 b2 (kg b o b1 e)
theorem mx_call {Q : Value → Shared → Prop} {l : Addr} {items : Array Value} (hh : A.handled = none) (hl : s.heap.IsList l items) (hn : 0 < items.size) (hG : G s.heap)
    (keepG : ∀ h h' : Heap, G h → (∀ b o, b < s.heap.objs.size → h.get? b = some o → h'.get? b = some o) → G h') (cmp : GtIn prog w A.in1 (fun i u => items[i]? = some u) G bt)
    (hQ : ∀ u g tk, items[argBest bt (items.size - 1)]? = some u → (∀ b o, s.heap.get? b = some o → g.get? b = some o) → Q u { s with heap := g, toks := tk }) :
    wpAny (model prog w) A (call (.builtin "max") [.ref l]) Q E s := by
  have nm : (toString "max" ++ toString ".loop" : String) = "max.loop" := by decide
  refine call_function_tree F.kind_max F.plain_max F.entry_max (F.args_max1 _) ?_
  show wpAny _ A.in1 (Builtin.Builtins.bindParams "max" ["key", "default"] 0 ⟨[], []⟩ >>= _) _ _ s
  refine wpAny_bind (wpAny_of_eq (show Builtin.Builtins.bindParams "max" ["key", "default"] 0 ⟨[], []⟩ = pure [none, none] from rfl) ?_)
  refine wpAny_bind (wpAny_pure ?_)
  refine wpAny_bind (L2.iter_anyList hl fun t et st hfp ne => ?_)
  refine wpAny_bind (wpAny_newObj_type ?_)
  have W : Walks prog w A.in1 s.heap.objs.size [s.heap.objs.size, l] [s.heap.objs.size] items.size (fun i u => items[i]? = some u) (fun i h => h.IsListIter s.heap.objs.size l i ∧ h.IsList l items) := Walks.list (A := A.in1) hh _ l ne items
  have nL : t.heap.objs.size ∉ [s.heap.objs.size, l] := fun z => Nat.lt_irrefl _ (hfp _ z)
  have nw : t.heap.objs.size ∉ [s.heap.objs.size] := fun z => nL (W.sub _ z)
  have k0 : ∀ b o, s.heap.get? b = some o → t.heap.get? b = some o := fun b o e => by subst et; exact Heap.get?_push_of_some _ e
  have szt : t.heap.objs.size = s.heap.objs.size + 1 := by subst et; exact Heap.size_push _ _
  have kG : ∀ h h' : Heap, G h → (∀ b o, b ∉ [s.heap.objs.size] → b ≠ t.heap.objs.size → h.get? b = some o → h'.get? b = some o) → G h' := fun h h' hg k => keepG h h' hg fun b o hb e => k b o (fun z => by
    rw [List.mem_singleton.mp z] at hb
    exact Nat.lt_irrefl _ hb) (fun z => by rw [z, szt] at hb; omega) e
  have kp : ∀ b o, t.heap.get? b = some o → (t.heap.push { cls := .type "list", data := .seq (#[] : Array Value) }).get? b = some o := fun b o e => Heap.get?_push_of_some _ e
  have hG1 : G (t.heap.push { cls := .type "list", data := .seq (#[] : Array Value) }) := keepG _ _ hG fun b o _ e => kp b o (k0 b o e)
  rw [nm]
  refine wpAny_pure ⟨plainId_quiet F.plain_max_loop _, ?_⟩
  generalize hLL : t.heap.objs.size = L at *
  refine codeAny_builtin F.entry_max_loop ?_
  rw [Around.under_plainId F.plain_max_loop _]
  have hL0 : (t.heap.push { cls := .type "list", data := .seq (#[] : Array Value) }).get? L = some { cls := .type "list", data := .seq #[] } := by rw [← hLL]; exact Heap.get?_push_size _ rfl
  show wpAny _ A.in1 (seqItems? (.ref L) >>= _) _ _ _
  refine wpAny_bind (wpAny_seqItems hL0 rfl ?_)
  show wpAny _ A.in1 (tryCatch (pyNext (.ref s.heap.objs.size)) _ >>= _) _ _ _
  refine wpAny_bind (wpAny_tryCatch (W.item 0 _ _ _ hn (W.frame _ _ _ st fun b _ o e => kp b o e) fun u g tk pu st' kg => ?_))
  have hL1 := kg L _ nw hL0
  have hG2 : G g := kG _ _ hG1 fun b o b1 _ e => kg b o b1 e
  show wpAny _ A.in1 (updateSeq L (fun _ => #[u, u]) >>= _) _ _ _
  refine wpAny_bind ?_
  refine wpAny_updateSeq hL1 rfl ?_
  rw [nm]
  have k2 : ∀ b o, b ≠ L → g.get? b = some o → (g.update L (Obj.mapSeq fun _ => #[u, u])).get? b = some o := fun b o b2 e => (Heap.get?_update_other _ _ (Ne.symm b2)).trans e
  refine wpAny_pure ⟨plainId_quiet F.plain_max_loop _, mx_loop W cmp nL kG _ 0 _ u _ rfl hn (W.frame _ _ _ st' fun b b1 o e => k2 b o (fun z => nL (z ▸ b1)) e) pu (kG _ _ hG2 fun b o _ b2 e => k2 b o b2 e) (Heap.get?_update_self _ hL1 rfl) fun u' g' tk' p' k' => ?_⟩
  have := hQ u' g' tk' p' fun b o e => by
    have lb := Heap.lt_size e
    have n1 : b ∉ [s.heap.objs.size] := fun z => by
      rw [List.mem_singleton.mp z] at lb
      exact Nat.lt_irrefl _ lb
    have n2 : b ≠ L := fun z => by rw [z, szt] at lb; exact Nat.lt_irrefl _ (Nat.lt_of_succ_lt lb)
    exact k' b o n1 n2 (k2 b o n2 (kg b o n1 (kp b o (k0 b o e))))
  subst et
  exact this
end
end PySem
end

section
set_option Elab.async false
set_option linter.all false
set_option maxRecDepth 100000
namespace Mi
open PySem PySem.Spec PyProof.Rows L2
variable [LT] [Fr]
variable {X : Cx} {K : PySem.W.Frag} {F H : Hp}
theorem lexAt_gt : ∀ (ns ms : List Int) (e r : Nat → Bool) (i : Nat), (∀ j (x y : Int), ns[j]? = some x → ms[j]? = some y → e (i + j) = decide (x = y) ∧ r (i + j) = decide (y < x)) →
    Ob.lexAt e r (decide (ns.length > ms.length)) i (min ns.length ms.length) = gtL ns ms
  | [], ms, e, r, i, _ => by simp [Ob.lexAt, gtL]
  | x :: xs, [], e, r, i, _ => by simp [Ob.lexAt, gtL]
  | x :: xs, y :: ys, e, r, i, h => by
    obtain ⟨h1, h2⟩ := h 0 x y rfl rfl
    simp only [List.length_cons]
    rw [show min (xs.length + 1) (ys.length + 1) = min xs.length ys.length + 1 by omega, Ob.lexAt_succ]
    rw [Nat.add_zero] at h1 h2
    rw [h1, h2]
    simp only [gtL, decide_eq_true_eq]
    split
    · have := lexAt_gt xs ys e r (i + 1) fun j a b ha hb => by
        have := h (j + 1) a b (by simpa using ha) (by simpa using hb)
        rw [show i + 1 + j = i + (j + 1) by omega]
        exact this
      rw [← this]
      congr 1
      simp
    · rfl
theorem maxT_at (t : List Int) (ts : List (List Int)) : ∀ k, k ≤ ts.length → (t :: ts)[PySem.argBest (fun i j => gtL ((t :: ts).getD i []) ((t :: ts).getD j [])) k]? = some (maxT t (ts.take k))
  | 0, _ => by simp [PySem.argBest, maxT]
  | k + 1, h => by
    have ih := maxT_at t ts k (by omega)
    have e : (ts.take (k + 1)) = ts.take k ++ [ts[k]'(by omega)] := by rw [List.take_succ, List.getElem?_eq_getElem (by omega)]; rfl
    have app : ∀ (l : List (List Int)) (m x : List Int), maxT m (l ++ [x]) = if gtL x (maxT m l) then x else maxT m l := by
      intro l
      induction l with
      | nil => intro m x; rfl
      | cons a l ih => intro m x; simp only [List.cons_append, maxT]; exact ih _ x
    rw [e, app]
    have e1 : (t :: ts).getD (k + 1) [] = ts[k]'(by omega) := by simp [List.getD, show k < ts.length by omega]
    have e2 : (t :: ts).getD (PySem.argBest (fun i j => gtL ((t :: ts).getD i []) ((t :: ts).getD j [])) k) [] = maxT t (ts.take k) := by rw [List.getD_eq_getElem?_getD, ih]; rfl
    have eb : gtL ((t :: ts).getD (k + 1) []) ((t :: ts).getD (PySem.argBest (fun i j => gtL ((t :: ts).getD i []) ((t :: ts).getD j [])) k) []) = gtL (ts[k]'(by omega)) (maxT t (ts.take k)) := by rw [e1, e2]
    simp only [PySem.argBest]
    by_cases hb : gtL (ts[k]'(by omega)) (maxT t (ts.take k)) = true
    · rw [if_pos hb, if_pos (eb.trans hb)]
      simp [show k < ts.length by omega]
    · rw [if_neg hb, if_neg (fun z => hb (eb.symm.trans z))]
      exact ih
/-- the tuples of a list -/
theorem tups_rep : ∀ {xs : List D} {vs : List V} {nss : List (List Int)} {g : List Addr}, intsL xs = some nss → RepL K F H xs vs g → Same F H → vs.length = nss.length ∧ g = [] ∧ ∀ (i : Nat) v, vs[i]? = some v → ∃ p, v = .ref p ∧ SqT K F p ((nss.getD i []).map V.int)
  | [], vs, nss, g, e, r, s => by
    simp only [intsL] at e
    cases e
    simp only [RepL] at r
    obtain ⟨rfl, rfl⟩ := r
    exact ⟨rfl, rfl, fun i v h => by simp at h⟩
  | .tup ds :: xs, vs, nss, g, e, r, s => by
    simp only [intsL] at e
    cases e1 : intsOf ds with
    | none => rw [e1] at e; cases e
    | some a =>
      cases e2 : intsL xs with
      | none => rw [e1, e2] at e; cases e
      | some b =>
        rw [e1, e2] at e
        cases e
        simp only [RepL] at r
        obtain ⟨v, vs', f1, f2, rfl, r1, r2, rfl⟩ := r
        obtain ⟨h1, rfl, h3⟩ := tups_rep e2 r2 s
        simp only [Rep] at r1
        obtain ⟨p, ws, rfl, hs, hl⟩ := r1
        have hw : ws = a.map V.int := intsOf_map e1 hl
        have hf : f1 = [] := RepL.noOwn _ _ _ (ints_own e1) hl
        subst hf hw
        refine ⟨by simp [h1], rfl, fun i v hv => ?_⟩
        cases i with
        | zero => simp at hv; subst hv; exact ⟨p, rfl, by simpa using hs⟩
        | succ i =>
          obtain ⟨p', q1, q2⟩ := h3 i v (by simpa using hv)
          exact ⟨p', q1, by simpa using q2⟩
  | .non :: _, _, _, _, e, _, _ => by simp [intsL] at e
  | .bl _ :: _, _, _, _, e, _, _ => by simp [intsL] at e
  | .int _ :: _, _, _, _, e, _, _ => by simp [intsL] at e
  | .str _ :: _, _, _, _, e, _, _ => by simp [intsL] at e
  | .lst _ _ :: _, _, _, _, e, _, _ => by simp [intsL] at e
  | .dct _ _ _ :: _, _, _, _, e, _, _ => by simp [intsL] at e
  | .scr _ :: _, _, _, _, e, _, _ => by simp [intsL] at e
  | .typ _ :: _, _, _, _, e, _, _ => by simp [intsL] at e
  | .cls _ :: _, _, _, _, e, _, _ => by simp [intsL] at e
  | .exc _ _ :: _, _, _, _, e, _, _ => by simp [intsL] at e
  | .clo _ _ :: _, _, _, _, e, _, _ => by simp [intsL] at e
where
  ints_own : ∀ {ds : List D} {a : List Int}, intsOf ds = some a → ownL ds = false
    | [], _, _ => rfl
    | .int i :: r, a, h => by
      simp only [intsOf] at h
      cases e : intsOf r with
      | none => rw [e] at h; cases h
      | some b => simp only [ownL, D.own, ints_own e, Bool.or_self]
    | .non :: _, _, h => by simp [intsOf] at h
    | .bl _ :: _, _, h => by simp [intsOf] at h
    | .str _ :: _, _, h => by simp [intsOf] at h
    | .tup _ :: _, _, h => by simp [intsOf] at h
    | .lst _ _ :: _, _, h => by simp [intsOf] at h
    | .dct _ _ _ :: _, _, h => by simp [intsOf] at h
    | .scr _ :: _, _, h => by simp [intsOf] at h
    | .typ _ :: _, _, h => by simp [intsOf] at h
    | .cls _ :: _, _, h => by simp [intsOf] at h
    | .exc _ _ :: _, _, h => by simp [intsOf] at h
    | .clo _ _ :: _, _, h => by simp [intsOf] at h
theorem ints_rep : ∀ (is : List Int), RepL K F H (is.map D.int) (is.map V.int) []
  | [] => by simp [RepL]
  | i :: is => by
    simp only [List.map_cons, RepL]
    exact ⟨.int i, is.map V.int, [], [], rfl, by simp [Rep], ints_rep is, rfl⟩
theorem max_tups {pins : List (Addr × Obj)} {s : Shared} {σ : L2.St} {Q : VK} {a : D} {d : D} {x : V} {fp : List Addr} {us : List Value} (hc : X.calm = true) (hu : X.A.units + 64 < cLine) (sF : Same F H) (ra : Rep X.K F H a x fp) (ea : max1T a = some d) (r : Vals [x] us) (I : Inv X pins σ H s)
    (q : ∀ v F' H' fp, PrimRes X.K F H F' H' d v fp → Q v H') : wpAny (model X.prog X.w) X.A (call (.builtin "max") us) (EP X pins σ Q) X.xe s := by
  unfold max1T at ea
  split at ea
  · rename_i o xs
    obtain ⟨l, vs, g, rfl, h1, l1⟩ := rep_lst sF ra
    split at ea
    · rename_i t ts ei
      cases ea
      obtain ⟨n1, _, n3⟩ := tups_rep ei l1 sF
      obtain ⟨its, rv, hl, _⟩ := I.list (SqL.of h1)
      rw [Vals.ref1 r]
      have nl : its.length = ts.length + 1 := by rw [← rv.length, n1]; rfl
      -- each item is a tuple of those numbers
      have tp : ∀ (i : Nat) u, its.toArray[i]? = some u → ∃ p ws, u = .ref p ∧ vs[i]? = some (.ref p) ∧ s.heap.IsTuple p ws ∧ IntsAre ws.toList ((t :: ts).getD i []) ∧ SqT X.K F p (((t :: ts).getD i []).map V.int) := fun i u hi => by
        have hi' : its[i]? = some u := by simpa using hi
        have hlt : i < vs.length := by rw [rv.length]; exact (List.getElem?_eq_some_iff.mp hi').1
        obtain ⟨u', e1, ru⟩ := rv.get (List.getElem?_eq_getElem hlt)
        rw [hi'] at e1
        cases e1
        obtain ⟨p, e2, sq⟩ := n3 i _ (List.getElem?_eq_getElem hlt)
        rw [e2] at ru
        obtain ⟨ws, rw_, pt, _⟩ := I.tuple (Same.seqT sF sq)
        exact ⟨p, ws.toArray, ru, by rw [List.getElem?_eq_getElem hlt, e2], pt, by simpa using Vals.ints rw_, sq⟩
      refine PySem.mx_call (G := fun h => ∀ (i : Nat) u, its.toArray[i]? = some u → ∃ p ws, u = .ref p ∧ p < s.heap.objs.size ∧ h.IsTuple p ws ∧ IntsAre ws.toList ((t :: ts).getD i [])) (bt := fun i j => gtL ((t :: ts).getD i []) ((t :: ts).getD j [])) (I.ok.hd hc) hl.isList (by simp [nl]) (fun i u hi => ?_) (fun h h' hG k i u hi => ?_) (fun i j u v T Q' E' hi hj hG hq => ?_) fun u g tk hi k => ?_
      · obtain ⟨p, ws, e1, _, e3, e4, _⟩ := tp i u hi
        exact ⟨p, ws, e1, (let ⟨_, ho, _⟩ := e3; Heap.lt_size ho), e3, e4⟩
      · obtain ⟨p, ws, e1, e2, e3, e4⟩ := hG i u hi
        exact ⟨p, ws, e1, e2, (let ⟨o, ho, rest⟩ := e3; ⟨o, k _ _ e2 ho, rest⟩), e4⟩
      · obtain ⟨p, ws, rfl, _, e3, e4⟩ := hG i u hi
        obtain ⟨p', ws', rfl, _, e3', e4'⟩ := hG j v hj
        have hq : Q' (.bool (gtL ((t :: ts).getD i []) ((t :: ts).getD j []))) T := hq
        generalize (t :: ts).getD i [] = ns at e4 hq
        generalize (t :: ts).getD j [] = ms at e4' hq
        have l1 : ws.size = ns.length := by rw [← Array.length_toList]; exact e4.length
        have l2 : ws'.size = ms.length := by rw [← Array.length_toList]; exact e4'.length
        have at1 : ∀ (k : Nat) (hk : k < ws.size), ∃ z tok, ns[k]? = some z ∧ ws[k] = .int z tok := fun k hk => ints_at e4 k hk
        have at2 : ∀ (k : Nat) (hk : k < ws'.size), ∃ z tok, ms[k]? = some z ∧ ws'[k] = .int z tok := fun k hk => ints_at e4' k hk
        have key := Ob.RcOp.tuples_gt (A := X.A.in1) (s := T) (e := fun k => decide (ns.getD k 0 = ms.getD k 0)) (r := fun k => decide (ms.getD k 0 < ns.getD k 0)) e3 e3' (by show X.A.units + 1 < cLine; omega) (fun k k1 k2 => by
          obtain ⟨z, tok, g1, g2⟩ := at1 k k1
          obtain ⟨z', tok', g3, g4⟩ := at2 k k2
          rw [g2, g4]
          have e0 : decide (ns.getD k 0 = ms.getD k 0) = (z == z') := by simp [List.getD, g1, g3, Bool.beq_eq_decide_eq]
          rw [e0]
          exact SeqAt.EqAt.int_int z tok z' tok') (fun k k1 k2 _ => by
          obtain ⟨z, tok, g1, g2⟩ := at1 k k1
          obtain ⟨z', tok', g3, g4⟩ := at2 k k2
          rw [g2, g4]
          have e0 : decide (ms.getD k 0 < ns.getD k 0) = decide (z' < z) := by simp [List.getD, g1, g3]
          rw [e0]
          exact Ob.RcOp.gt_int z z' tok tok')
        rw [l1, l2, lexAt_gt ns ms _ _ 0 fun k x y hx hy => by simp [List.getD, hx, hy]] at key
        exact key X.prog X.w E' Q' hq
      · obtain ⟨p, ws, rfl, e2, _, _, e5⟩ := tp _ u hi
        have em := maxT_at t ts ts.length (Nat.le_refl _)
        rw [List.take_length] at em
        have en : its.toArray.size - 1 = ts.length := by simp [nl]
        rw [en] at e2 e5
        refine ⟨.ref p, H, I.kept k, rfl, q _ F H [] (.here sF ?_)⟩
        rw [List.getD_eq_getElem?_getD, em] at e5
        simp only [Rep]
        exact ⟨p, (maxT t ts).map V.int, rfl, e5, ints_rep _⟩
    · cases ea
  · cases ea
where
  ints_at : ∀ {ws : Array Value} {ns : List Int} (_ : IntsAre ws.toList ns) (k : Nat) (hk : k < ws.size), ∃ z tok, ns[k]? = some z ∧ ws[k] = .int z tok := fun {ws ns} h k hk => by
    have : ∀ {us : List Value} {ns : List Int}, IntsAre us ns → ∀ (k : Nat) u, us[k]? = some u → ∃ z tok, ns[k]? = some z ∧ u = .int z tok := by
      intro us ns h
      induction h with
      | nil => intro k u e; simp at e
      | cons z tok _ ih =>
        intro k u e
        cases k with
        | zero => simp at e; exact ⟨z, tok, rfl, e.symm⟩
        | succ k => exact ih k u (by simpa using e)
    exact this h k _ (by rw [Array.getElem?_toList]; exact Array.getElem?_eq_getElem hk)
theorem cb_maxT (hc : X.calm = true) (hu : X.A.units + 64 < cLine) : CallR X (.builtin "max") (rPr X.K .max) := by
  intro pins s σ H xs us Q I r h
  obtain ⟨F, ds, d, sF, w, e, q⟩ := h
  rcases two_of (p := .max) (g := max1) (g2 := max2D) (fun _ => rfl) rfl (fun _ _ => rfl) (fun _ _ _ _ => rfl) e with ⟨a, rfl, ea⟩ | ⟨a, b, rfl, ea⟩
  · obtain ⟨x, rfl, fp, ra⟩ := wrep1 w
    unfold max1 at ea
    split at ea
    case h_2 => exact max_tups hc hu sF ra ea r I q
    rename_i ei0
    cases ea
    unfold max1I at ei0
    split at ei0
    · rename_i o xs
      obtain ⟨a1, vs1, g1, rfl, h1, l1⟩ := rep_lst sF ra
      split at ei0
      · rename_i i is ei
        cases ei0
        obtain ⟨k1, k2⟩ := maxI_spec is i
        refine cr_max hc pins s σ H _ _ Q I r ⟨a1, i :: is, rfl, by rw [← intsOf_map ei l1]; exact SqL.of h1, by simp, fun m hm hle => ?_⟩
        obtain rfl : m = maxI i is := Int.le_antisymm (k2 m hm) (hle _ k1)
        exact q _ _ _ _ (res_int sF _)
      · cases ei0
    · cases ei0
  · obtain ⟨x, y, rfl, ⟨f1, ra⟩, ⟨f2, rb⟩⟩ := wrep2 w
    unfold max2D at ea
    split at ea
    · obtain rfl := rep_int ra
      obtain rfl := rep_int rb
      cases ea
      exact call_max2 hc pins s σ H _ _ Q I r ⟨_, _, rfl, q _ _ _ _ (res_int sF _)⟩
    · cases ea
end Mi
end

section
set_option Elab.async false
set_option linter.all false
set_option maxRecDepth 100000
/-! The check that an expression of the text and one of the small language are the same. -/
namespace Mi
open PySem PySem.Spec PyProof.Rows L2
variable [LT] [fr : Fr]
variable {K : PySem.W.Frag} {Φ : Fns} {E : XK} {B : Bs} {lk : List (Nat × V)} {F F' H H' : Hp} {σ : L2.St} {ρ : Env} {fps : List (List Addr)} {ts : List (V × Tm)} {Q : VK} {X : Cx} {lkN : List Nat} {D' : Ends}

/-! ### stars -/
def items : List D → List V → List (V × Tm)
  | d :: ds, v :: vs => (v, .own d []) :: items ds vs
  | _, _ => []
theorem items_fst : ∀ {ds : List D} {vs : List V}, ds.length = vs.length → (items ds vs).map (·.1) = vs
  | [], [], _ => rfl
  | d :: ds, v :: vs, h => by simp [items, items_fst (ds := ds) (vs := vs) (by simpa using h)]
  | [], _ :: _, h => by simp at h
  | _ :: _, [], h => by simp at h
theorem items_is : ∀ {ds : List D} {vs : List V}, ds.length = vs.length → OvsIs (ds.map .val) (items ds vs)
  | [], [], _ => trivial
  | d :: ds, v :: vs, h => ⟨⟨[], rfl⟩, items_is (by simpa using h)⟩
  | [], _ :: _, h => by simp at h
  | _ :: _, [], h => by simp at h
theorem Sta.pushItems : ∀ {ds : List D} {vs : List V} {ts : List (V × Tm)}, Sta K B lk F H σ ρ fps ts → RepL K F H ds vs [] → Sta K B lk F H σ ρ fps ((items ds vs).reverse ++ ts)
  | [], vs, ts, S, r => by simpa [items] using S
  | d :: ds, vs, ts, S, r => by
    simp only [RepL] at r
    obtain ⟨v, vs', f1, f2, rfl, r1, r2, e⟩ := r
    obtain ⟨rfl, rfl⟩ : f1 = [] ∧ f2 = [] := by simpa using e.symm
    have := Sta.pushItems (S.pushS r1) r2
    simpa [items] using this
theorem SrcOk.ofOwn {d : D} {v : V} {fp : List Addr} {xs : List D} (sF : Same F H) (h : Rep K F H d v fp) (e : seqOf d = some xs) (ho : ownL xs = false) : ∃ p vs, v = .ref p ∧ (SqT K H p vs ∨ SqL K H p vs) ∧ RepL K F H xs vs [] := by
  unfold seqOf at e
  split at e
  · rename_i o ys
    cases e
    cases o with
    | true =>
      simp only [Rep] at h
      obtain ⟨a, vs, f, rfl, h1, h2, _⟩ := h
      exact ⟨a, vs, rfl, .inr (SqL.of h1), RepL.nil ho h2⟩
    | false =>
      simp only [Rep] at h
      obtain ⟨a, vs, rfl, h1, h2, _⟩ := h
      exact ⟨a, vs, rfl, .inr (SqL.of (sF _ _ h1)), h2⟩
  · cases e
    simp only [Rep] at h
    obtain ⟨a, vs, rfl, h1, h2⟩ := h
    exact ⟨a, vs, rfl, .inl (Same.seqT sF h1), RepL.nil ho h2⟩
  · cases e
    simp only [Rep] at h
    obtain ⟨a, vs, rfl, h1, h2, _⟩ := h
    exact ⟨a, vs, rfl, .inr (Same.seq sF h1), h2⟩
  · cases e
theorem t_star {ie : IE} {es : List IE} {Q : List V → Hp → Prop} (h : tOs K Φ E (.star ie :: es) σ H Q) : StX.tStar K (tI K Φ E ie) (tOs K Φ E es) σ H Q := by
  obtain ⟨B, lk, F, ρ, fps, ts, S, o⟩ := h
  simp only [evs] at o
  rw [out_bind] at o
  refine ⟨B, lk, F, ρ, fps, ts, S, o.imp fun d ρ1 q v fp F1 H1 fps1 S1 => ?_⟩
  cases e : seqOf d with
  | none => rw [e] at q; exact q.elim
  | some ds =>
    rw [e] at q
    simp only at q
    split at q
    · exact q.elim
    · rename_i ho
      have ho : ownL ds = false := by simpa using ho
      rw [out_bind] at q
      have r : Rep K F1 H1 d v fp := S1.temps _ (List.mem_cons_self ..)
      obtain ⟨p, vs, rfl, hq, rl⟩ := SrcOk.ofOwn S1.own.sub r e ho
      have hl := RepL.length _ _ _ rl
      refine ⟨p, vs, rfl, hq, B, lk, F1, ρ1, fps1, (items ds vs).reverse ++ ts, S1.drop.pushItems rl, q.imp fun os ρ2 q2 tms F2 H2 fps2 hi S2 => ?_⟩
      have := q2 (items ds vs ++ tms) F2 H2 fps2 ((items_is hl.symm).app hi) (by simpa using S2)
      rwa [List.map_append, items_fst hl.symm] at this
/-! ### what the check knows -/
structure Gx where
  /-- the text's functions: name, parameters -/
  fns : List (Str × List Str)
  /-- how functions are called by keywords: the function, the keywords as written, where each parameter's value stands among them -/
  kws : List (Nat × List Str × List Nat)
  /-- the module's constants -/
  cns : List (Str × D)
  /-- built-in names that the module leaves alone -/
  blt : List Str
  /-- the exception classes that are raised -/
  exs : List String := []
  /-- a def that makes lambdas -/
  mkr : Bool := false
  /-- how many names its scope has -/
  lsn : Nat := 0
  /-- what the k-th function, a lambda, captures -/
  caps : Nat → List Str := fun _ => []
  /-- the k-th function is this lambda -/
  lamOk : Nat → Arguments → Expr → Scope → Bool := fun _ _ _ _ => false
  /-- what a block says to which the cells are shown -/
  blkOk : List Str → IE → Scope → Expr → Bool := fun _ _ _ _ => false
def Gx.base (g : Gx) : Gx := { fns := g.fns, kws := g.kws, cns := g.cns, blt := g.blt, exs := g.exs }
def ownFn (own : Option Scope) (x : Str) : Bool := match own with
  | none => true
  | some s => s.names.lookup x == some .cell
structure XO (g : Gx) (N : List Str) (sc : Scope) (own : Option Scope) (Φ : Fns) (E : XK) (X : Cx) : Prop where
  hN : X.N = N
  nd : N.Nodup
  hsc : X.env.scope = sc
  calm : X.calm = true
  units : X.A.units + 200 < cLine
  gds : X.A.guards = some []
  fnm : ∀ x, ownFn own x = true → X.fn x = true
  ownk : ∀ s, own = some s → ∀ x, s.names.lookup x = some .local → sc.names.lookup x = some .local
  fns : ∀ (i : Nat) p, g.fns[i]? = some p → ∃ k CX f fd, FnG X.prog X.w X.K X.mg X.base CX k f fd p.2 (spI X.K Φ i) ∧ Room k X.A ∧ X.mg p.1 = some (.ref f) ∧ PySem.W.keepIn X.K (.ref f) = true ∧
    (∀ us : List Value, us.length = p.2.length → bindArgs fd ⟨us, []⟩ = pure (p.2.zip us)) ∧ (∀ ks perm, (i, ks, perm) ∈ g.kws → ∀ us : List Value, us.length = ks.length → bindArgs fd ⟨[], ks.zip us⟩ = pure (p.2.zip (permL perm us))) ∧
    Passes CX X E ∧ ∀ l H s e s', ¬ CX l H s noX e s'
  cns : ∀ p ∈ g.cns, ∃ v u, X.mg p.1 = some u ∧ RelV v u ∧ ∀ (fr' : Fr) F H, @Rep _ fr' X.K F H p.2 v []
  blt : ∀ x ∈ g.blt, X.mg x = none
  cz : g.mkr = false → fr = Fr0
  exs : ∀ c ∈ g.exs, X.mg (Str.ofString c) = some (.ref (He.ga X.K (Str.ofString c))) ∧ ExK X.K (He.ga X.K (Str.ofString c)) ∧ ∀ c' ∈ g.exs, PySem.W.kitOne X.K (.ref (He.ga X.K (Str.ofString c))) (.ref (He.ga X.K (Str.ofString c'))) = some (c == c')
  mkf : g.mkr = true → sc.names.length = g.lsn → own = none ∧ Fr.cells = X.env.cells ∧ (∃ c P, LamX.TabB X.base X.mg c P ∧ X.env.code = .ref c ∧ (P, X.env.qual ++ "<lambda>") ∈ LT.T ∧ ∀ p ∈ LT.T, p.1 = P → p.2 = X.env.qual ++ "<lambda>") ∧
    (∀ y, sc.names.lookup y = some .cell → ∃ c, X.env.cells.lookup y = some c) ∧ (∀ k params body scope, g.lamOk k params body scope = true → LT.ok k params body scope (X.env.qual ++ "<lambda>") ∧ defaultsOf params X.env = ([], []) ∧ LT.caps k = g.caps k)
structure XOk (g : Gx) (N : List Str) (sc : Scope) (own : Option Scope) (Φ : Fns) (E : XK) (X : Cx) : Prop extends XO g N sc own Φ E X where
  bk : ∀ {E' : XK} {X' : Cx} {sc' : Scope} {own' : Option Scope} (ie : IE) (e : Expr), @XO _ Fr0 g.base N sc' own' Φ E' X' → g.blkOk N ie sc' e = true → PE X' e (@tI _ Fr0 X'.K Φ E' ie)
  capk : g.mkr = true → ∀ k, LT.caps k = g.caps k

/-! ### small checks -/
def nmB (x : Str) : Bool := !(x == ("__debug__" : Str)) && !(x == ("__classdict__" : Str)) && !(x == ("__name__" : Str))
def visB (sc : Scope) (x : Str) : Bool := match sc.names.lookup x with
  | some .local => true
  | some .cell => true
  | some .free => true
  | _ => false
def glB (sc : Scope) (x : Str) : Bool := sc.names.lookup x == some .globalImplicit
def varB (N : List Str) (sc : Scope) (i : Nat) : Expr → Bool
  | .Name x _ => N[i]? == some x && visB sc x && nmB x
  | _ => false
def constB : D → Expr → Bool
  | .int i, .Constant (.int j) _ _ => decide (i = j)
  | .bl a, .Constant (.bool b) _ _ => decide (a = b)
  | .non, .Constant .none _ _ => true
  | .str x, .Constant (.str y) _ _ => decide (x = y)
  | _, _ => false
def tyOf (n : String) (x : Str) : Bool := decide (bootBuiltins x = some (.type n))
def typIs : D → String → Bool
  | .typ n, m => decide (n = m)
  | _, _ => false
mutual
def eqDB : D → D → Bool
  | .int i, .int j => decide (i = j)
  | .bl a, .bl b => decide (a = b)
  | .non, .non => true
  | .str x, .str y => decide (x = y)
  | .typ x, .typ y => decide (x = y)
  | .tup as, .tup bs => eqDBs as bs
  | .lst o as, .lst p bs => decide (o = p) && eqDBs as bs
  | .cls c, .cls d => decide (c = d)
  | _, _ => false
def eqDBs : List D → List D → Bool
  | [], [] => true
  | a :: as, b :: bs => eqDB a b && eqDBs as bs
  | _, _ => false
end
mutual
theorem eqDB_ok : ∀ {a b : D}, eqDB a b = true → a = b
  | .int i, .int j, h => by simp [eqDB] at h; rw [h]
  | .bl i, .bl j, h => by simp [eqDB] at h; rw [h]
  | .non, .non, h => rfl
  | .str i, .str j, h => by simp [eqDB] at h; rw [h]
  | .typ i, .typ j, h => by simp [eqDB] at h; rw [h]
  | .cls i, .cls j, h => by simp [eqDB] at h; rw [h]
  | .tup as, .tup bs, h => by simp only [eqDB] at h; rw [eqDBs_ok h]
  | .lst o as, .lst p bs, h => by
    simp only [eqDB, Bool.and_eq_true, decide_eq_true_eq] at h
    rw [eqDBs_ok h.2, h.1]
theorem eqDBs_ok : ∀ {a b : List D}, eqDBs a b = true → a = b
  | [], [], _ => rfl
  | a :: as, b :: bs, h => by
    simp only [eqDBs, Bool.and_eq_true] at h
    rw [eqDB_ok h.1, eqDBs_ok h.2]
end
def globB (g : Gx) (sc : Scope) (d : D) : Expr → Bool
  | .Name x _ => nmB x && glB sc x && (g.cns.any (fun p => p.1 == x && eqDB p.2 d) || (g.blt.contains x && match d with
    | .typ n => tyOf n x
    | _ => false) || (match d with
    | .cls c => g.exs.contains c && decide (x = Str.ofString c)
    | _ => false))
  | _ => false
def isStarred : Expr → Bool
  | .Starred _ _ => true
  | _ => false
def noStar (es : List Expr) : Bool := es.all fun e => !isStarred e
def binO : Op2 → Operator → Bool
  | .add, .Add => true
  | .sub, .Sub => true
  | .mul, .Mult => true
  | .fdiv, .FloorDiv => true
  | .mod, .Mod => true
  | .pow, .Pow => true
  | _, _ => false
def cmpO : Op2 → CmpOp → Bool
  | .eq, .Eq => true
  | .ne, .NotEq => true
  | .lt, .Lt => true
  | .le, .LtE => true
  | .gt, .Gt => true
  | .ge, .GtE => true
  | .mem, .In => true
  | .nmem, .NotIn => true
  | _, _ => false
theorem binO_ok {o : Op2} {op : Operator} (h : binO o op = true) : OpR X (binaryOp op) (rP2 X.K o) := by
  unfold binO at h
  split at h
  · exact op_addP
  · exact op_subP
  · exact op_mulP
  · exact op_fdivP
  · exact op_modP
  · exact op_powP
  · cases h
theorem cmpO_ok {o : Op2} {op : CmpOp} (hu : X.A.units + 200 < cLine) (h : cmpO o op = true) : OpR X (compareOp op) (rP2 X.K o) := by
  unfold cmpO at h
  split at h
  · exact op_eqP (by omega)
  · exact op_neP (by omega)
  · exact op_ltP (by omega)
  · exact op_leP
  · exact op_gtP
  · exact op_geP
  · exact op_inP (by omega)
  · exact op_notInP (by omega)
  · cases h
/-- which built-in a name calls -/
def prFn : Pr → String → Bool
  | .len, n => n == "len"
  | .sum, n => n == "sum"
  | .min, n => n == "min"
  | .max, n => n == "max"
  | .abs, n => n == "abs"
  | .repr, n => n == "repr"
  | .sorted, n => n == "sorted"
  | .all, n => n == "all"
  | .any, n => n == "any"
  | .isi, n => n == "isinstance"
  | _, _ => false
def prTy : Pr → String → Bool
  | .int, n => n == "int"
  | .list, n => n == "list"
  | .tuple, n => n == "tuple"
  | _, _ => false
def prB (p : Pr) (x : Str) : Bool := match bootBuiltins x with
  | some (.builtin n) => prFn p n
  | some (.type n) => prTy p n
  | _ => false
theorem prFn_ok {p : Pr} {n : String} (hc : X.calm = true) (hg : X.A.guards = some []) (hu : X.A.units + 200 < cLine) (h : prFn p n = true) : CallR X (.builtin n) (rPr X.K p) := by
  unfold prFn at h
  split at h <;> first | (obtain rfl := eq_of_beq h) | (cases h)
  · exact cb_len
  · exact cb_sum hc
  · exact cb_min hc
  · exact cb_maxT hc (by omega)
  · exact cb_abs
  · exact cb_repr hg (by omega)
  · exact cb_sorted
  · exact cb_all hc
  · exact cb_any hc
  · exact cb_isi
theorem prTy_ok {p : Pr} {n : String} (h : prTy p n = true) : CallR X (.type n) (rPr X.K p) := by
  unfold prTy at h
  split at h <;> first | (obtain rfl := eq_of_beq h) | (cases h)
  · exact cb_int
  · exact cb_list
  · exact cb_tuple
end Mi
end

section
set_option Elab.async false
set_option linter.all false
set_option maxRecDepth 100000
namespace L2
open PySem
variable [Mi.LT] [Mi.Fr]
theorem PE.imp {X : Cx} {e : Expr} {t t' : TE} (h : PE X e t) (hi : ∀ σ H Q, t' σ H Q → t σ H Q) : PE X e t' := Mi.PE.imp h hi
theorem PT.imp {X : Cx} {e : Expr} {t t' : TT} (h : PT X e t) (hi : ∀ σ H Q, t' σ H Q → t σ H Q) : PT X e t' := Mi.PT.imp h hi
theorem PW.imp {X : Cx} {e : Expr} {t t' : TT} (h : PW X e t) (hi : ∀ σ H Q, t' σ H Q → t σ H Q) : PW X e t' := ⟨fun whole pins s σ H Q I q => h.run whole pins s σ H Q I (hi σ H Q q)⟩
theorem PA.imp {X : Cx} {e : List Expr} {t t' : TA} (h : PA X e t) (hi : ∀ σ H Q, t' σ H Q → t σ H Q) : PA X e t' := Mi.PA.imp h hi
theorem PI.imp {X : Cx} {tg e : Expr} {t t' : TI} (h : PI X tg e t) (hi : ∀ σ H R, t' σ H R → t σ H R) : PI X tg e t' := Mi.PI.imp h hi
theorem PG.imp {X : Cx} {tg : Expr} {t t' : TG} (h : PG X tg t) (hi : ∀ v σ H Q, t' v σ H Q → t v σ H Q) : PG X tg t' := Mi.PG.imp h hi
theorem PGs.imp {X : Cx} {tg : List Expr} {t t' : TGs} (h : PGs X tg t) (hi : ∀ v σ H Q, t' v σ H Q → t v σ H Q) : PGs X tg t' := Mi.PGs.imp h hi
theorem PTs.imp {X : Cx} {ifs : List Expr} {t t' : TT} (h : PTs X ifs t) (hi : ∀ σ H Q, t' σ H Q → t σ H Q) : PTs X ifs t' := Mi.PTs.imp h hi
theorem PS.imp {X : Cx} {st : Stmt} {t t' : TS} (h : PS X st t) (hi : ∀ D' σ H, t' D' σ H → t D' σ H) : PS X st t' := Mi.PS.imp h hi
theorem PSs.imp {X : Cx} {st : List Stmt} {t t' : TS} (h : PSs X st t) (hi : ∀ D' σ H, t' D' σ H → t D' σ H) : PSs X st t' := Mi.PSs.imp h hi
end L2
namespace Mi
open PySem PySem.Spec PyProof.Rows L2
variable [LT] [fr : Fr]
variable {K : PySem.W.Frag} {Φ : Fns} {E : XK} {B : Bs} {lk : List (Nat × V)} {F F' H H' : Hp} {σ : L2.St} {ρ : Env} {fps : List (List Addr)} {ts : List (V × Tm)} {Q : VK} {X : Cx} {lkN : List Nat} {D' : Ends}
def plainTest : Expr → Bool
  | .UnaryOp .Not _ _ => false
  | .BoolOp _ _ _ => false
  | .IfExp _ _ _ _ => false
  | .Compare _ _ _ _ => false
  | _ => true
theorem plainTest_ok {e : Expr} {env : PySem.Env} (h : plainTest e = true) (whole : Sem Value) : isTrue e env whole = (do let v ← whole; standAt e.pos; holding [v] (truthy v)) := by
  cases e <;> first
    | rfl
    | (simp [plainTest] at h; done)
    | (rename_i op _ _; cases op <;> first | rfl | (simp [plainTest] at h; done))
def isVal : IE → Bool
  | .peek _ => false
  | .peekF _ => false
  | .star _ => false
  | _ => true
theorem oneO : ∀ {a : IE}, isStar a = false → OneO Φ a := by
  intro a h os ρ ρ' e
  cases a with
  | star _ => simp [isStar] at h
  | peek i =>
    simp only [evs] at e
    cases q : getE ρ i with
    | none => rw [q] at e; cases e
    | some d => rw [q] at e; cases e; exact ⟨_, rfl⟩
  | peekF i =>
    simp only [evs] at e
    cases q : getE ρ i with
    | none => rw [q] at e; cases e
    | some d => rw [q] at e; cases e; exact ⟨_, rfl⟩
  | _ =>
    simp only [evs] at e
    generalize hq : ev Φ _ ρ = q at e
    cases q with
    | ok d ρ1 => cases e; exact ⟨_, rfl⟩
    | exc _ _ _ => cases e
    | stk => cases e
theorem evs_val {ie : IE} (h : isVal ie = true) (ρ : Env) : evs Φ [ie] ρ = (ev Φ ie ρ).bind fun d ρ1 => .ok [.val d] ρ1 := by
  cases ie <;> first
    | (simp [isVal] at h; done)
    | (simp only [evs]; cases ev Φ _ ρ <;> rfl)
structure OkO (X : Cx) (Φ : Fns) (E : XK) (ie : IE) (e : Expr) : Prop where
  st : isStar ie = true → ∃ e' p i, e = .Starred e' p ∧ ie = .star i ∧ PE X e' (tI X.K Φ E i)
  op : isStar ie = false → isStarred e = false ∧ PE X e (tO X.K Φ E ie)
  vl : isVal ie = true → PE X e (tI X.K Φ E ie)
theorem OkO.of {ie : IE} {e : Expr} (hv : isVal ie = true) (hs : isStarred e = false) (h : PE X e (tI X.K Φ E ie)) : OkO X Φ E ie e :=
  ⟨fun h => by cases ie <;> simp [isStar] at h <;> simp [isVal] at hv, fun _ => ⟨hs, h.imp fun σ H Q q => t_val (evs_val hv) q⟩, fun _ => h⟩
def OkOs (X : Cx) (Φ : Fns) (E : XK) : List IE → List Expr → Prop
  | [], [] => True
  | a :: as, e :: es => OkO X Φ E a e ∧ OkOs X Φ E as es
  | _, _ => False
theorem star_each {e : Expr} {es : List Expr} {env : PySem.Env} (h : isStarred e = false) : starEach (e :: es) env = (false, eval e env) :: starEach es env := by
  cases e <;> first | rfl | (simp [isStarred] at h; done)
theorem pa_of : ∀ {ies : List IE} {es : List Expr}, OkOs X Φ E ies es → PA X es (tOs X.K Φ E ies)
  | [], [], _ => pa_nil.imp fun σ H Q q => t_nil q
  | a :: as, e :: es, h => by
    cases hs : isStar a with
    | false =>
      obtain ⟨h1, h2⟩ := h.1.op hs
      exact (pa_cons h2 (pa_of h.2) (star_each h1)).imp fun σ H Q q => t_cons (oneO hs) q
    | true =>
      obtain ⟨e', p, i, rfl, rfl, h1⟩ := h.1.st hs
      exact (StX.pa_star h1 (pa_of h.2) rfl).imp fun σ H Q q => t_star q
  | [], _ :: _, h => h.elim
  | _ :: _, [], h => h.elim
theorem OkOs.len : ∀ {ies : List IE} {es : List Expr}, OkOs X Φ E ies es → ies.length = es.length
  | [], [], _ => rfl
  | _ :: _, _ :: _, h => by simp [OkOs.len h.2]
  | [], _ :: _, h => h.elim
  | _ :: _, [], h => h.elim
/-- one operand, no star -/
theorem OkOs.one {ies : List IE} {e : Expr} (h : OkOs X Φ E ies [e]) (hn : noStar [e] = true) : ∃ a, ies = [a] ∧ OneO Φ a ∧ PE X e (tO X.K Φ E a) := by
  match ies, h with
  | [a], h =>
    have hs : isStar a = false := by
      cases q : isStar a with
      | false => rfl
      | true =>
        obtain ⟨e', p, i, rfl, _⟩ := h.1.st q
        simp [noStar, isStarred] at hn
    exact ⟨a, rfl, oneO hs, (h.1.op hs).2⟩
theorem OkOs.cons {ies : List IE} {e e2 : Expr} {es : List Expr} (h : OkOs X Φ E ies (e :: e2 :: es)) (hn : noStar (e :: e2 :: es) = true) : ∃ a as, ies = a :: as ∧ OneO Φ a ∧ PE X e (tO X.K Φ E a) ∧ OkOs X Φ E as (e2 :: es) ∧ noStar (e2 :: es) = true := by
  match ies, h with
  | a :: as, h =>
    have hn' := hn
    unfold noStar at hn
    rw [List.all_cons, Bool.and_eq_true] at hn
    have hs : isStar a = false := by
      cases q : isStar a with
      | false => rfl
      | true =>
        obtain ⟨e', p, i, rfl, _⟩ := h.1.st q
        simp [isStarred] at hn
    exact ⟨a, as, rfl, oneO hs, (h.1.op hs).2, h.2, hn.2⟩
theorem OkOs.two {ies : List IE} {e e2 : Expr} (h : OkOs X Φ E ies [e, e2]) (hn : noStar [e, e2] = true) : ∃ a b, ies = [a, b] ∧ OneO Φ a ∧ OneO Φ b ∧ PE X e (tO X.K Φ E a) ∧ PE X e2 (tO X.K Φ E b) := by
  obtain ⟨a, as, rfl, h1, h2, h3, h4⟩ := h.cons hn
  obtain ⟨b, rfl, h5, h6⟩ := h3.one h4
  exact ⟨a, b, rfl, h1, h5, h2, h6⟩
theorem OkOs.three {ies : List IE} {e e2 e3 : Expr} (h : OkOs X Φ E ies [e, e2, e3]) (hn : noStar [e, e2, e3] = true) : ∃ a b c, ies = [a, b, c] ∧ OneO Φ a ∧ OneO Φ b ∧ OneO Φ c ∧ PE X e (tO X.K Φ E a) ∧ PE X e2 (tO X.K Φ E b) ∧ PE X e3 (tO X.K Φ E c) := by
  obtain ⟨a, as, rfl, h1, h2, h3, h4⟩ := h.cons hn
  obtain ⟨b, c, rfl, h5, h6, h7, h8⟩ := h3.two h4
  exact ⟨a, b, c, rfl, h1, h5, h6, h2, h7, h8⟩
/-! ### blocks -/
def ownOf (N : List Str) (scope : Scope) : List (Str × Nat) := scope.names.filterMap fun y => if y.2 == .local || y.2 == .cell then (N.findIdx? (· == y.1)).map fun i => (y.1, i) else none
def blkB (N : List Str) (sc scope : Scope) : Bool := decide (scope.kind = .function) && scope.names.all (fun y => scope.names.lookup y.1 == some y.2) && (ownOf N scope).all (fun p => N[p.2]? == some p.1) &&
  scope.names.all (fun y => !(y.2 == .free) || (sc.names.lookup y.1 == some .cell || sc.names.lookup y.1 == some .free)) && scope.names.all fun y => !(y.2 == .local || y.2 == .cell) || ((ownOf N scope).map (·.1)).contains y.1 || !N.contains y.1
theorem blkB_ok {N : List Str} {sc scope : Scope} (h : blkB N sc scope = true) : BlkOk N sc scope (ownOf N scope) := by
  unfold blkB at h
  simp only [Bool.and_eq_true, decide_eq_true_eq] at h
  obtain ⟨⟨⟨⟨h1, h2⟩, h3⟩, h4⟩, h5⟩ := h
  refine ⟨h1, fun y hy => ?_, fun p hp => ?_, fun y hy e => ?_, fun y hy e => ?_⟩
  · simpa using List.all_eq_true.mp h2 y hy
  · simpa using List.all_eq_true.mp h3 p hp
  · have := List.all_eq_true.mp h4 y hy
    rw [e] at this
    simpa using this
  · have := List.all_eq_true.mp h5 y hy
    have e' : (y.2 == NameKind.local || y.2 == NameKind.cell) = true := by simpa using e
    rw [e'] at this
    simpa using this
def plainIter : Expr → Bool
  | .Set _ _ _ => false
  | _ => true
theorem plainIter_ok {e : Expr} {env : PySem.Env} (h : plainIter e = true) (x : Value) : foldedSetIterable e env x = pure x := by
  cases e <;> first | rfl | (simp [plainIter] at h; done)
theorem XOk.blk {g : Gx} {N : List Str} {sc : Scope} {own : Option Scope} (O : XOk g N sc own Φ E X) (scope : Scope) (s : Shared) (H : Hp) (C : Addr) (cl : List (Str × Addr)) (fp : List Addr) (hns : g.mkr = true → (relS scope sc).names.length ≠ g.lsn) :
    XOk g N (relS scope sc) (some scope) Φ noX (X.blk s H scope (compEnvC scope cl C X.env) fp) where
  bk := fun ie e => O.bk ie e
  capk := O.capk
  exs := O.exs
  mkf := fun h1 h2 => absurd h2 (hns h1)
  hN := O.hN
  nd := O.nd
  hsc := by rw [← O.hsc]; rfl
  calm := O.calm
  units := O.units
  gds := O.gds
  fnm := fun x h => h
  ownk := fun s e x h => by cases e; exact lookup_relS_keep (by decide) h
  fns := fun i p e => by
    obtain ⟨k, CX, f, fd, G, h1, h2, h3, h4, h5, h6, h7⟩ := O.fns i p e
    exact ⟨k, CX, f, fd, G, h1, h2, h3, h4, h5, fun _ _ H s e s' _ c => (h7 _ _ _ _ _ c).elim, h7⟩
  cns := O.cns
  blt := O.blt
  cz := O.cz
/-! ### targets -/
mutual
def chkG (N : List Str) (sc : Scope) (own : Option Scope) : Tg → Expr → Bool
  | .slot i, .Name x _ => N[i]? == some x && ((match own with
    | none => (sc.names.lookup x == some .local || sc.names.lookup x == some .cell)
    | some s => s.names.lookup x == some .local || (s.names.lookup x == some .cell && sc.names.lookup x == some .cell)))
  | .tup tgs, .Tuple es _ _ => noStar es && chkGs N sc own tgs es
  | _, _ => false
def chkGs (N : List Str) (sc : Scope) (own : Option Scope) : List Tg → List Expr → Bool
  | [], [] => true
  | t :: ts, e :: es => chkG N sc own t e && chkGs N sc own ts es
  | _, _ => false
end
theorem asg_each {e : Expr} {es : List Expr} {env : PySem.Env} (h : isStarred e = false) : assignEach (e :: es) env = (false, assign e env) :: assignEach es env := by
  cases e <;> first | rfl | (simp [isStarred] at h; done)
theorem asg_len : ∀ (es : List Expr) (env : PySem.Env), (assignEach es env).length = es.length
  | [], _ => rfl
  | e :: es, env => by
    have ih := asg_len es env
    cases e <;> (show (_ :: assignEach es env).length = _; simp [ih])
theorem asg_plain : ∀ {es : List Expr} {env : PySem.Env}, noStar es = true → (assignEach es env).findIdx? (·.1) = none
  | [], _, _ => rfl
  | e :: es, env, h => by
    unfold noStar at h
    rw [List.all_cons, Bool.and_eq_true] at h
    have h1 : isStarred e = false := by simpa using h.1
    rw [asg_each h1]
    have ih := asg_plain (es := es) (env := env) h.2
    rw [List.findIdx?_cons]
    simp [ih]
theorem chkGs_len : ∀ {N : List Str} {sc : Scope} {own : Option Scope} {tgs : List Tg} {es : List Expr}, chkGs N sc own tgs es = true → tgs.length = es.length
  | _, _, _, [], [], _ => rfl
  | N, sc, own, t :: ts, e :: es, h => by
    simp only [chkGs, Bool.and_eq_true] at h
    simp [chkGs_len h.2]
  | _, _, _, [], _ :: _, h => by simp [chkGs] at h
  | _, _, _, _ :: _, [], h => by simp [chkGs] at h
mutual
theorem chkG_ok {g : Gx} {N : List Str} {sc : Scope} {own : Option Scope} (O : XOk g N sc own Φ E X) : ∀ (tg : Tg) (e : Expr), chkG N sc own tg e = true → PG X e (tG X.K lkN tg)
  | .slot i, e, h => by
    cases e <;> try (simp [chkG] at h; done)
    rename_i x pos
    simp only [chkG, Bool.and_eq_true] at h
    obtain ⟨h1, h2⟩ := h
    have h1 : N[i]? = some x := by simpa using h1
    have hx : Loc X.env.scope x ∧ (X.fn x = true ∨ X.env.scope.names.lookup x = some .local) := by
      rw [O.hsc]
      cases own with
      | none =>
        have h2 : sc.names.lookup x = some .local ∨ sc.names.lookup x = some .cell := by simpa using h2
        exact ⟨h2, .inl (O.fnm x rfl)⟩
      | some s =>
        have h2 : s.names.lookup x = some .local ∨ (s.names.lookup x = some .cell ∧ sc.names.lookup x = some .cell) := by simpa using h2
        rcases h2 with h2 | ⟨h2, h3⟩
        · have := O.ownk s rfl x h2
          exact ⟨.inl this, .inr this⟩
        · exact ⟨.inr h3, .inl (O.fnm x (by simp [ownFn, h2]))⟩
    exact (pg_name (by rw [O.hN]; exact O.nd) (by rw [O.hN]; exact h1) hx.1 hx.2).imp fun v σ H Q q => g_slot q
  | .tup tgs, e, h => by
    cases e <;> try (simp [chkG] at h; done)
    rename_i es kk pos
    simp only [chkG, Bool.and_eq_true] at h
    have hg := chkGs_ok O tgs es h.2 h.1
    exact (pg_tup O.calm hg (asg_len es X.env) (asg_plain h.1)).imp fun v σ H Q q => g_tup (chkGs_len h.2) q
theorem chkGs_ok {g : Gx} {N : List Str} {sc : Scope} {own : Option Scope} (O : XOk g N sc own Φ E X) : ∀ (tgs : List Tg) (es : List Expr), chkGs N sc own tgs es = true → noStar es = true → PGs X es (tGs X.K lkN tgs)
  | [], es, h, hn => by
    cases es with
    | nil => exact pgs_nil.imp fun v σ H Q q => g_nil q
    | cons _ _ => simp [chkGs] at h
  | t :: ts, es, h, hn => by
    cases es with
    | nil => simp [chkGs] at h
    | cons e es =>
      simp only [chkGs, Bool.and_eq_true] at h
      unfold noStar at hn
      rw [List.all_cons, Bool.and_eq_true] at hn
      have h1 : isStarred e = false := by simpa using hn.1
      exact (pgs_cons (chkG_ok O t e h.1) (chkGs_ok O ts es h.2 hn.2) (by rw [asg_each h1]; rfl)).imp fun v σ H Q q => g_cons q
end
end Mi
end

section
set_option Elab.async false
set_option linter.all false
set_option maxRecDepth 100000
namespace Mi
open PySem PySem.Spec PyProof.Rows L2
variable [LT] [fr : Fr]
variable {K : PySem.W.Frag} {Φ : Fns} {E : XK} {B : Bs} {lk : List (Nat × V)} {F F' H H' : Hp} {σ : L2.St} {ρ : Env} {fps : List (List Addr)} {ts : List (V × Tm)} {Q : VK} {X : Cx} {lkN : List Nat} {D' : Ends}
def plainIx : Expr → Bool
  | .Constant _ _ _ => true
  | .Name _ _ => true
  | .UnaryOp _ _ _ => true
  | .BinOp _ _ _ _ => true
  | .Call _ _ _ _ => true
  | .Subscript _ _ _ => true
  | .IfExp _ _ _ _ => true
  | _ => false
theorem plainIx_ok {b : Expr} (h : plainIx b = true) : PlainIx b := by
  intro o i
  cases b <;> first | rfl | (simp [plainIx] at h; done)
def isName (ns : List (Str × List Str)) (f : Nat) (x : Str) : Bool := match ns[f]? with
  | some p => p.1 == x
  | none => false
def kwNames : List Keyword → List Str
  | [] => []
  | ⟨some n, _, _⟩ :: r => n :: kwNames r
  | ⟨none, _, _⟩ :: r => kwNames r
def kwVals : List Keyword → List Expr
  | [] => []
  | ⟨_, v, _⟩ :: r => v :: kwVals r
def kwAll : List Keyword → Bool
  | [] => true
  | ⟨some _, _, _⟩ :: r => kwAll r
  | ⟨none, _, _⟩ :: _ => false
def isTup : Expr → Bool
  | .Tuple _ _ _ => true
  | _ => false
/-- a lambda's scope, what it captures -/
def lamB (sc scope : Scope) (caps : List Str) : Bool := LamX.lamSB sc scope && scope.names.all (fun y => !(y.2 == .free) || (scope.names.lookup y.1 == some .free && sc.names.lookup y.1 == some .cell)) && caps.all fun y => scope.names.lookup y == some .free
/-- the slots of what the lambdas captured -/
def capIx (N : List Str) (sc : Scope) : List Nat → List Str → Bool
  | [], [] => true
  | i :: is, y :: ys => N[i]? == some y && sc.names.lookup y == some .cell && capIx N sc is ys
  | _, _ => false
def capB (g : Gx) (N : List Str) (sc : Scope) (ks : List (Nat × List Nat)) : Bool := ks.all fun p => capIx N sc p.2 (g.caps p.1)
def callN (g : Gx) (sc : Scope) (n : String) (x : Str) : Bool := decide (x = Str.ofString n) && glB sc x && g.blt.contains x
mutual
def chk (g : Gx) (N : List Str) : IE → Bool → Scope → Expr → Bool
  | .const d, tst, sc, e => (!tst || plainTest e) && constB d e
  | .glob d, tst, sc, e => (!tst || plainTest e) && globB g sc d e
  | .var i, tst, sc, e => (!tst || plainTest e) && varB N sc i e
  | .mov i, tst, sc, e => (!tst || plainTest e) && varB N sc i e
  | .peek i, tst, sc, e => !tst && varB N sc i e
  | .peekF i, tst, sc, e => !tst && varB N sc i e
  | .star i, tst, sc, e => match e with
    | .Starred e' _ => !tst && isVal i && chk g N i false sc e'
    | _ => false
  | .op o es, tst, sc, e => match e with
    | .BinOp a op b _ => binO o op && noStar [a, b] && chkOs g N es sc [a, b]
    | .Compare a [op] [b] _ => cmpO o op && !behindInMarks op b && noStar [a, b] && chkOs g N es sc [a, b]
    | _ => false
  | .isn neg es, tst, sc, e => match e with
    | .Compare a [.Is] [.Constant .none _ _] _ => !neg && noStar [a] && chkOs g N es sc [a]
    | .Compare a [.IsNot] [.Constant .none _ _] _ => neg && noStar [a] && chkOs g N es sc [a]
    | _ => false
  | .neg es, tst, sc, e => match e with
    | .UnaryOp .USub a _ => noStar [a] && chkOs g N es sc [a]
    | _ => false
  | .notE a, tst, sc, e => match e with
    | .UnaryOp .Not x _ => isVal a && chk g N a tst sc x
    | _ => false
  | .chain o1 o2 es cs, tst, sc, e => match e with
    | .Compare a [p1, p2] [b, c] _ => cmpO o1 p1 && cmpO o2 p2 && !lastMarks [p1, p2] [b, c] && noStar [a, b] && noStar [c] && chkOs g N es sc [a, b] && chkOs g N cs sc [c]
    | _ => false
  | .andE a b, tst, sc, e => match e with
    | .BoolOp .And [x, y] _ => isVal a && isVal b && chk g N a tst sc x && chk g N b tst sc y
    | .BoolOp .And (x :: y :: z :: r) pos => isVal a && isVal b && chk g N a tst sc x && chk g N b tst sc (.BoolOp .And (y :: z :: r) pos)
    | _ => false
  | .orE a b, tst, sc, e => match e with
    | .BoolOp .Or [x, y] _ => isVal a && isVal b && chk g N a tst sc x && chk g N b tst sc y
    | .BoolOp .Or (x :: y :: z :: r) pos => isVal a && isVal b && chk g N a tst sc x && chk g N b tst sc (.BoolOp .Or (y :: z :: r) pos)
    | _ => false
  | .ite c a b, tst, sc, e => match e with
    | .IfExp c' a' b' _ => !tst && isVal c && isVal a && isVal b && chk g N c true sc c' && chk g N a false sc a' && chk g N b false sc b'
    | _ => false
  | .tup es, tst, sc, e => match e with
    | .Tuple es' _ _ => chkOs g N es sc es'
    | _ => false
  | .lst es, tst, sc, e => match e with
    | .List es' _ => chkOs g N es sc es'
    | _ => false
  | .idx es, tst, sc, e => match e with
    | .Subscript a b _ => plainIx b && noStar [a, b] && chkOs g N es sc [a, b]
    | _ => false
  | .slc es lo hi, tst, sc, e => match e with
    | .Subscript a (.Slice l u none _) _ => noStar [a] && chkOs g N es sc [a] && chkB g N lo sc l && chkB g N hi sc u
    | _ => false
  | .cb p es, tst, sc, e => match e with
    | .Call (.Name x _) (a :: as) [] _ => nmB x && glB sc x && g.blt.contains x && prB p x && noStar (a :: as) && chkOs g N es sc (a :: as)
    | _ => false
  | .call f es, tst, sc, e => match e with
    | .Call (.Name x _) (a :: as) [] _ => !g.mkr && nmB x && glB sc x && isName g.fns f x && noStar (a :: as) && chkOs g N es sc (a :: as)
    | _ => false
  | .callK f es perm, tst, sc, e => match e with
    | .Call (.Name x _) [] kws _ => !g.mkr && nmB x && glB sc x && isName g.fns f x && kwAll kws && decide ((f, kwNames kws, perm) ∈ g.kws) && noStar (kwVals kws) && chkOs g N es sc (kwVals kws)
    | _ => false
  | .rng tup es, tst, sc, e => match e with
    | .Call (.Name y _) [.Call (.Name x _) [a] [] _] [] _ => callN g sc (if tup then "tuple" else "list") y && callN g sc "range" x && noStar [a] && chkOs g N es sc [a]
    | .Call (.Name y _) [.Call (.Name x _) [a, b] [] _] [] _ => callN g sc (if tup then "tuple" else "list") y && callN g sc "range" x && noStar [a, b] && chkOs g N es sc [a, b]
    | _ => false
  | .lam k, tst, sc, e => match e with
    | .Lambda params body scope _ => !tst && g.mkr && decide (sc.names.length = g.lsn) && lamB sc scope (g.caps k) && g.lamOk k params body scope
    | _ => false
  | .callM f es, tst, sc, e => match e with
    | .Call (.Name x _) (a :: as) [] _ => nmB x && glB sc x && isName g.fns f x && noStar (a :: as) && chkOs g N es sc (a :: as)
    | _ => false
  | .lcM ks vs tg i elt, tst, sc, e => match e with
    | .ListComp elt' [gen] scope _ => !tst && g.mkr && decide (sc.names.length = g.lsn) && capB g N sc ks && decide (gen.is_async = 0) && gen.ifs.isEmpty && blkB N sc scope && scope.names.all (fun y => !(y.2 == .free)) && decide (vs = (ownOf N scope).map (·.2)) && (slotsT tg).all (fun j => vs.contains j) && plainIter gen.iter && varB N sc i gen.iter &&
      chkG N (relS scope sc) (some scope) tg gen.target && g.blkOk N elt (relS scope sc) elt'
    | _ => false
  | .lzip es, tst, sc, e => match e with
    | .Call (.Name y _) [.Call (.Name x _) [a, b, c] [] _] [] _ => callN g sc "list" y && callN g sc "zip" x && noStar [a, b, c] && chkOs g N es sc [a, b, c]
    | _ => false
  | .isx ex es, tst, sc, e => match e with
    | .Call (.Name x _) [a, b] [] _ => decide (x = Str.ofString "isinstance") && nmB x && glB sc x && g.blt.contains x && ex.all (fun c => g.exs.contains c) && noStar [a, b] && chkOs g N es sc [a, b]
    | _ => false
  | .fld ex a, tst, sc, e => match e with
    | .Attribute (.Name x p) n _ => decide (n = Str.ofString "value") && ex.all (fun c => g.exs.contains c) && isVal a && chk g N a false sc (.Name x p)
    | _ => false
  | .frz a, tst, sc, e => !tst && isVal a && chk g N a false sc e
  | .lc vs tg it ifs elt, tst, sc, e => match e with
    | .ListComp elt' [gen] scope _ => (!tst) && decide (gen.is_async = 0) && (blkB N sc scope && (!g.mkr || !decide ((relS scope sc).names.length = g.lsn))) && decide (vs = (ownOf N scope).map (·.2)) && (slotsT tg).all (fun j => vs.contains j) && plainIter gen.iter && chkIt g N it sc gen.target gen.iter &&
      chkG N (relS scope sc) (some scope) tg gen.target && chkIfs g N ifs (relS scope sc) gen.ifs && isVal elt && chk g N elt false (relS scope sc) elt'
    | _ => false
def chkOs (g : Gx) (N : List Str) : List IE → Scope → List Expr → Bool
  | [], sc, es => es.isEmpty
  | a :: as, sc, es => match es with
    | e :: es => (isStar a || !isStarred e) && chk g N a false sc e && chkOs g N as sc es
    | [] => false
def chkB (g : Gx) (N : List Str) : List IE → Scope → Option Expr → Bool
  | [], sc, e => e.isNone
  | [a], sc, e => match e with
    | some e => isVal a && chk g N a false sc e
    | none => false
  | _ :: _ :: _, sc, e => false
def chkIfs (g : Gx) (N : List Str) : List IE → Scope → List Expr → Bool
  | [], sc, e => e.isEmpty
  | [a], sc, e => match e with
    | [e] => isVal a && chk g N a true sc e
    | _ => false
  | _ :: _ :: _, sc, e => false
def chkIt (g : Gx) (N : List Str) : It → Scope → Expr → Expr → Bool
  | .seq es, sc, tg, iter => noStar [iter] && chkOs g N es sc [iter]
  | .range es, sc, tg, iter => match iter with
    | .Call (.Name x _) [a] [] _ => callN g sc "range" x && noStar [a] && chkOs g N es sc [a]
    | .Call (.Name x _) [a, b] [] _ => callN g sc "range" x && noStar [a, b] && chkOs g N es sc [a, b]
    | _ => false
  | .enum es, sc, tg, iter => match iter with
    | .Call (.Name x _) [a] [] _ => isTup tg && callN g sc "enumerate" x && noStar [a] && chkOs g N es sc [a]
    | _ => false
  | .zip es, sc, tg, iter => match iter with
    | .Call (.Name x _) [a, b] [] _ => isTup tg && callN g sc "zip" x && noStar [a, b] && chkOs g N es sc [a, b]
    | .Call (.Name x _) [a, b, c] [] _ => isTup tg && callN g sc "zip" x && noStar [a, b, c] && chkOs g N es sc [a, b, c]
    | _ => false
end
end Mi
end

section
set_option Elab.async false
set_option linter.all false
set_option maxRecDepth 100000
namespace Mi
open PySem PySem.Spec PyProof.Rows L2
variable [LT] [fr : Fr]
variable {K : PySem.W.Frag} {Φ : Fns} {E : XK} {B : Bs} {lk : List (Nat × V)} {F F' H H' : Hp} {σ : L2.St} {ρ : Env} {fps : List (List Addr)} {ts : List (V × Tm)} {Q : VK} {X : Cx} {lkN : List Nat} {D' : Ends} {g : Gx} {N : List Str} {sc : Scope} {own : Option Scope}
theorem nmB_ok {x : Str} (h : nmB x = true) : (x == ("__debug__" : Str)) = false ∧ (x == ("__classdict__" : Str)) = false ∧ x ≠ "__name__" := by
  unfold nmB at h
  simp only [Bool.and_eq_true, Bool.not_eq_true'] at h
  exact ⟨h.1.1, h.1.2, fun z => by rw [z] at h; simp at h⟩
theorem visB_ok {x : Str} (h : visB sc x = true) : Vis sc x := by
  unfold visB at h
  split at h
  · rename_i e; exact .inl e
  · rename_i e; exact .inr (.inl e)
  · rename_i e; exact .inr (.inr e)
  · cases h
theorem glB_ok (O : XOk g N sc own Φ E X) {x : Str} (h : glB sc x = true) : Gl X x := by
  have : sc.names.lookup x = some .globalImplicit := by simpa [glB] using h
  show X.env.scope.names.lookup x = _
  rw [O.hsc]
  exact this
theorem varB_ok (O : XOk g N sc own Φ E X) {i : Nat} {e : Expr} (h : varB N sc i e = true) : PE X e (tVar i) ∧ isStarred e = false := by
  unfold varB at h
  split at h
  · rename_i x pos
    simp only [Bool.and_eq_true] at h
    obtain ⟨⟨h1, h2⟩, h3⟩ := h
    obtain ⟨n1, n2, n3⟩ := nmB_ok h3
    refine ⟨pe_var (by rw [O.hN]; simpa using h1) ?_ n1 n2, rfl⟩
    rw [O.hsc]
    exact visB_ok h2
  · cases h
theorem constB_ok {d : D} {e : Expr} (h : constB d e = true) : PE X e (tI X.K Φ E (.const d)) ∧ isStarred e = false := by
  unfold constB at h
  split at h
  · simp only [decide_eq_true_eq] at h; subst h
    exact ⟨pe_int.imp fun σ H Q q => t_const (fun F H => by simp [Rep]) q, rfl⟩
  · simp only [decide_eq_true_eq] at h; subst h
    exact ⟨pe_bl.imp fun σ H Q q => t_const (fun F H => by simp [Rep]) q, rfl⟩
  · exact ⟨pe_non.imp fun σ H Q q => t_const (fun F H => by simp [Rep]) q, rfl⟩
  · simp only [decide_eq_true_eq] at h; subst h
    exact ⟨pe_str.imp fun σ H Q q => t_const (fun F H => by simp [Rep]) q, rfl⟩
  · cases h
theorem globB_ok (O : XOk g N sc own Φ E X) {d : D} {e : Expr} (h : globB g sc d e = true) : PE X e (tI X.K Φ E (.glob d)) ∧ isStarred e = false := by
  unfold globB at h
  split at h
  · rename_i x pos
    simp only [Bool.and_eq_true] at h
    obtain ⟨⟨h1, h2⟩, h3⟩ := h
    obtain ⟨n1, n2, n3⟩ := nmB_ok h1
    refine ⟨?_, rfl⟩
    rw [Bool.or_eq_true, Bool.or_eq_true] at h3
    rcases h3 with (h3 | h3) | h3
    · obtain ⟨p, hp, hq⟩ := List.any_eq_true.mp h3
      simp only [Bool.and_eq_true] at hq
      obtain ⟨q1, q2⟩ := hq
      have e1 := eqDB_ok q2
      have e2 : p.1 = x := by simpa using q1
      obtain ⟨v, u, m, r, hr⟩ := O.cns p hp
      rw [e2] at m
      rw [e1] at hr
      exact (pe_glob (glB_ok O h2) m r n1).imp fun σ H Q q => t_glob (fun F H => hr _ F H) q
    · simp only [Bool.and_eq_true] at h3
      obtain ⟨h4, h5⟩ := h3
      split at h5
      · rename_i n
        have hb : bootBuiltins x = some (.type n) := by simpa [tyOf] using h5
        exact (pe_bltn (v := V.ty n) (glB_ok O h2) (O.blt x (by simpa using h4)) hb rfl n3 n1).imp fun σ H Q q => t_glob (fun F H => by simp [Rep]) q
      · cases h5
    · split at h3
      · rename_i c
        simp only [Bool.and_eq_true, decide_eq_true_eq] at h3
        obtain ⟨h4, rfl⟩ := h3
        exact (pe_glob (v := V.ref (He.ga X.K (Str.ofString c))) (glB_ok O h2) (O.exs c (by simpa using h4)).1 rfl n1).imp fun σ H Q q => t_glob (fun F H => by simp [Rep]) q
      · cases h3
  · cases h
theorem pt_of {ie : IE} {e : Expr} (h : PE X e (tI X.K Φ E ie)) (hp : plainTest e = true) : PT X e (tT X.K Φ E ie) := (pt_val h (plainTest_ok hp)).imp fun σ H Q q => tT_tI q
theorem plain_args : ∀ {es : List Expr} {env : PySem.Env} {pos : Pos}, noStar es = true → (backTo pos (starEach es env)).any (·.1) = false
  | [], _, _, _ => rfl
  | e :: es, env, pos, h => by
    unfold noStar at h
    rw [List.all_cons, Bool.and_eq_true] at h
    rw [star_each (by simpa using h.1)]
    have ih := plain_args (es := es) (env := env) (pos := pos) h.2
    unfold backTo at ih ⊢
    rw [List.map_cons, List.any_cons]
    simpa using ih
theorem noStar_cons {e : Expr} {es : List Expr} (h : noStar (e :: es) = true) : isStarred e = false ∧ noStar es = true := by
  unfold noStar at h
  rw [List.all_cons, Bool.and_eq_true] at h
  exact ⟨by simpa using h.1, h.2⟩
theorem pk_of : ∀ {ies : List IE} {kws : List Keyword}, OkOs X Φ E ies (kwVals kws) → noStar (kwVals kws) = true → PK X kws (tOs X.K Φ E ies)
  | ies, [], h, _ => by
    match ies, h with
    | [], _ => exact ⟨fun pos pins s σ H Q I q => pk_nil.run pos pins s σ H Q I (t_nil q)⟩
  | ies, ⟨nm, e, kp⟩ :: kws, h, hn => by
    match ies, h with
    | a :: as, h =>
      obtain ⟨n1, n2⟩ := noStar_cons hn
      have hs : isStar a = false := by
        cases q : isStar a with
        | false => rfl
        | true =>
          obtain ⟨e', p, i, e1, _⟩ := h.1.st q
          have e1 : e = .Starred e' p := e1
          rw [e1] at n1
          simp [isStarred] at n1
      have ih := pk_of h.2 n2
      exact ⟨fun pos pins s σ H Q I q => (pk_cons (h.1.op hs).2 ih).run pos pins s σ H Q I (t_cons (oneO hs) q)⟩
theorem kw_all : ∀ {kws : List Keyword} {env : PySem.Env} {pos : Pos}, kwAll kws = true → (backToKw pos (keywordEach kws env)).all (·.1.isSome) = true ∧ (backToKw pos (keywordEach kws env)).filterMap (·.1) = kwNames kws ∧ (backToKw pos (keywordEach kws env)).any (·.1.isNone) = false
  | [], _, _, _ => ⟨rfl, rfl, rfl⟩
  | ⟨some n, v, kp⟩ :: r, env, pos, h => by
    obtain ⟨h1, h2, h3⟩ := kw_all (kws := r) (env := env) (pos := pos) (by simpa [kwAll] using h)
    refine ⟨?_, ?_, ?_⟩
    · show (_ :: backToKw pos (keywordEach r env)).all _ = true
      rw [List.all_cons, h1]; rfl
    · show (n :: List.filterMap (fun x => x.1) (backToKw pos (keywordEach r env))) = _
      rw [h2]; rfl
    · show (_ :: backToKw pos (keywordEach r env)).any _ = false
      rw [List.any_cons, h3]; rfl
  | ⟨none, v, kp⟩ :: r, env, pos, h => by simp [kwAll] at h
theorem kw_len : ∀ {kws : List Keyword}, kwAll kws = true → (kwNames kws).length = (kwVals kws).length
  | [], _ => rfl
  | ⟨some n, v, kp⟩ :: r, h => by simp [kwNames, kwVals, kw_len (kws := r) (by simpa [kwAll] using h)]
  | ⟨none, v, kp⟩ :: r, h => by simp [kwAll] at h
theorem evs_len : ∀ {es : List IE} {ρ ρ' : Env} {os : List OV}, (∀ a ∈ es, isStar a = false) → evs Φ es ρ = .ok os ρ' → os.length = es.length
  | [], ρ, ρ', os, _, h => by simp only [evs] at h; cases h; rfl
  | a :: es, ρ, ρ', os, hs, h => by
    rw [evs_cons] at h
    cases e : evs Φ [a] ρ with
    | ok o ρ1 =>
      rw [e] at h
      obtain ⟨o1, rfl⟩ := oneO (hs a (List.mem_cons_self ..)) _ _ _ e
      simp only [R.bind] at h
      cases e2 : evs Φ es ρ1 with
      | ok os2 ρ2 =>
        rw [e2] at h
        cases h
        simp [evs_len (fun b hb => hs b (List.mem_cons_of_mem _ hb)) e2]
      | exc _ _ _ => rw [e2] at h; cases h
      | stk => rw [e2] at h; cases h
    | exc _ _ _ => rw [e] at h; cases h
    | stk => rw [e] at h; cases h
theorem tOs_len {es : List IE} (hs : ∀ a ∈ es, isStar a = false) (σ : L2.St) (H : Hp) (Q : List V → Hp → Prop) (h : tOs K Φ E es σ H Q) : tOs K Φ E es σ H fun vs H1 => vs.length = es.length ∧ Q vs H1 := by
  obtain ⟨B, lk, F, ρ, fps, ts, S, o⟩ := h
  refine ⟨B, lk, F, ρ, fps, ts, S, o.imp' fun os ρ1 e q tms F1 H1 fps1 hi S1 => ⟨?_, q tms F1 H1 fps1 hi S1⟩⟩
  rw [List.length_map, ← hi.length, evs_len hs e]
theorem okos_noStar : ∀ {ies : List IE} {es : List Expr}, OkOs X Φ E ies es → noStar es = true → ∀ a ∈ ies, isStar a = false
  | [], [], _, _ => fun _ h => nomatch h
  | a :: as, e :: es, h, hn => fun b hb => by
    obtain ⟨n1, n2⟩ := noStar_cons hn
    rcases List.mem_cons.mp hb with rfl | hb
    · cases q : isStar b with
      | false => rfl
      | true =>
        obtain ⟨e', p, i, rfl, _⟩ := h.1.st q
        simp [isStarred] at n1
    · exact okos_noStar h.2 n2 b hb
  | [], _ :: _, h, _ => h.elim
  | _ :: _, [], h, _ => h.elim
def isBoolE : Expr → Bool
  | .BoolOp _ _ _ => true
  | _ => false
/-- what the check tells -/
structure Chk (X : Cx) (Φ : Fns) (E : XK) (ie : IE) (tst : Bool) (e : Expr) : Prop where
  val : tst = false → OkO X Φ E ie e
  tst : tst = true → isVal ie = true → PT X e (tT X.K Φ E ie) ∧ (isBoolE e = true → PW X e (tT X.K Φ E ie))
theorem Chk.plain {ie : IE} {tst : Bool} {e : Expr} (hv : isVal ie = true) (hs : isStarred e = false) (h : PE X e (tI X.K Φ E ie)) (hp : (!tst || plainTest e) = true) : Chk X Φ E ie tst e :=
  ⟨fun _ => .of hv hs h, fun ht _ => by
    subst ht
    have hp : plainTest e = true := by simpa using hp
    exact ⟨pt_of h hp, fun hb => by cases e <;> simp [isBoolE] at hb <;> simp [plainTest] at hp⟩⟩
theorem Chk.both {ie : IE} {tst : Bool} {e : Expr} (hv : isVal ie = true) (hs : isStarred e = false) (hb : isBoolE e = false) (h : PE X e (tI X.K Φ E ie)) (ht : PT X e (tT X.K Φ E ie)) : Chk X Φ E ie tst e :=
  ⟨fun _ => .of hv hs h, fun _ _ => ⟨ht, fun h => by rw [hb] at h; cases h⟩⟩
theorem not_isStar {ie : IE} (h : isVal ie = true) : isStar ie = false := by cases ie <;> first | rfl | (simp [isVal] at h; done)
end Mi
end

section
set_option Elab.async false
set_option linter.all false
set_option maxRecDepth 100000
namespace Mi
open PySem PySem.Spec PyProof.Rows L2
variable [LT] [fr : Fr]
variable {Φ : Fns} {E : XK} {X : Cx} {g : Gx} {N : List Str} {sc : Scope} {own : Option Scope}
def OkB (X : Cx) (Φ : Fns) (E : XK) (bs : List IE) (e : Option Expr) : Prop := PO X e (tBd X.K Φ E bs)
theorem chk_op {o : Op2} {es : List IE} {tst : Bool} {e : Expr} (O : XOk g N sc own Φ E X) (ih : ∀ es', chkOs g N es sc es' = true → OkOs X Φ E es es') (h : chk g N (.op o es) tst sc e = true) : Chk X Φ E (.op o es) tst e := by
  simp only [chk] at h
  split at h
  · rename_i a op b pos
    simp only [Bool.and_eq_true] at h
    obtain ⟨⟨h1, h2⟩, h3⟩ := h
    obtain ⟨x, y, rfl, o1, o2, p1, p2⟩ := (ih _ h3).two h2
    exact .plain rfl rfl ((pe_op (binO_ok h1) p1 p2).imp fun σ H Q q => t_op o1 o2 q) (by simp [plainTest])
  · rename_i a op b pos
    simp only [Bool.and_eq_true, Bool.not_eq_true'] at h
    obtain ⟨⟨⟨h1, h2⟩, h3⟩, h4⟩ := h
    obtain ⟨x, y, rfl, o1, o2, p1, p2⟩ := (ih _ h4).two h3
    exact .both rfl rfl rfl ((pe_cmpR (cmpO_ok O.units h1) p1 p2 h2).imp fun σ H Q q => t_op o1 o2 q) ((pt_cmpR (cmpO_ok O.units h1) p1 p2 h2).imp fun σ H Q q => t_op o1 o2 (tT_tI q))
  · cases h
theorem chk_isn {neg : Bool} {es : List IE} {tst : Bool} {e : Expr} (O : XOk g N sc own Φ E X) (ih : ∀ es', chkOs g N es sc es' = true → OkOs X Φ E es es') (h : chk g N (.isn neg es) tst sc e = true) : Chk X Φ E (.isn neg es) tst e := by
  simp only [chk] at h
  split at h
  · simp only [Bool.and_eq_true, Bool.not_eq_true'] at h
    obtain ⟨⟨h1, h2⟩, h3⟩ := h
    obtain ⟨x, rfl, o1, p1⟩ := (ih _ h3).one h2
    subst h1
    have key : ∀ {σ : L2.St} {H : Hp} {Q : VK}, tI X.K Φ E (.isn false [x]) σ H Q → tIsN (tO X.K Φ E x) σ H Q := fun q => tO_mono (t_isn o1 q) fun v H q => by simpa using q
    exact .both rfl rfl rfl ((pe_cmp (pc_isN p1) rfl).imp fun σ H Q q => key q) ((pt_cmp (pc_isN p1) rfl).imp fun σ H Q q => key (tT_tI q))
  · simp only [Bool.and_eq_true] at h
    obtain ⟨⟨h1, h2⟩, h3⟩ := h
    obtain ⟨x, rfl, o1, p1⟩ := (ih _ h3).one h2
    subst h1
    have key : ∀ {σ : L2.St} {H : Hp} {Q : VK}, tI X.K Φ E (.isn true [x]) σ H Q → tNotN (tO X.K Φ E x) σ H Q := fun q => tO_mono (t_isn o1 q) fun v H q => by simpa using q
    exact .both rfl rfl rfl ((pe_cmp (pc_notN p1) rfl).imp fun σ H Q q => key q) ((pt_cmp (pc_notN p1) rfl).imp fun σ H Q q => key (tT_tI q))
  · cases h
theorem chk_chain {o1 o2 : Op2} {es cs : List IE} {tst : Bool} {e : Expr} (O : XOk g N sc own Φ E X) (ih : ∀ es', chkOs g N es sc es' = true → OkOs X Φ E es es') (ih2 : ∀ es', chkOs g N cs sc es' = true → OkOs X Φ E cs es') (h : chk g N (.chain o1 o2 es cs) tst sc e = true) : Chk X Φ E (.chain o1 o2 es cs) tst e := by
  simp only [chk] at h
  split at h
  · simp only [Bool.and_eq_true, Bool.not_eq_true'] at h
    obtain ⟨⟨⟨⟨⟨⟨h1, h2⟩, h3⟩, h4⟩, h5⟩, h6⟩, h7⟩ := h
    obtain ⟨x, y, rfl, q1, q2, p1, p2⟩ := (ih _ h6).two h4
    obtain ⟨z, rfl, q3, p3⟩ := (ih2 _ h7).one h5
    exact .both rfl rfl rfl ((pe_chain (cmpO_ok O.units h1) (cmpO_ok O.units h2) p1 p2 p3 h3).imp fun σ H Q q => t_chain q1 q2 q3 q) ((pt_chain (cmpO_ok O.units h1) (cmpO_ok O.units h2) p1 p2 p3 h3).imp fun σ H Q q => t_chain q1 q2 q3 (tT_tI q))
  · cases h
theorem chk_cb {p : Pr} {es : List IE} {tst : Bool} {e : Expr} (O : XOk g N sc own Φ E X) (ih : ∀ es', chkOs g N es sc es' = true → OkOs X Φ E es es') (h : chk g N (.cb p es) tst sc e = true) : Chk X Φ E (.cb p es) tst e := by
  simp only [chk] at h
  split at h
  · rename_i x pos1 a as pos
    simp only [Bool.and_eq_true] at h
    obtain ⟨⟨⟨⟨⟨h1, h2⟩, h3⟩, h4⟩, h5⟩, h6⟩ := h
    obtain ⟨n1, n2, n3⟩ := nmB_ok h1
    obtain ⟨s1, s2⟩ := noStar_cons h5
    have pa := pa_of (ih _ h6)
    have hb := O.blt x (by simpa using h3)
    have key : ∀ {σ : L2.St} {H : Hp} {Q : VK}, tI X.K Φ E (.cb p es) σ H Q → tCB (rPr X.K p) (tOs X.K Φ E es) σ H Q := fun {σ H Q} q => by
      have q : ∃ B lk F ρ fps ts, Sta X.K B lk F H σ ρ fps ts ∧ Out (XC X.K E B lk σ) (ev Φ (.cb p es) ρ) _ := q
      simp only [ev] at q
      exact (t_ops q).mono fun vs H1 q => o_cb q
    unfold prB at h4
    split at h4
    · rename_i n e1
      exact .plain rfl rfl ((pe_callB (prFn_ok O.calm O.gds O.units h4) (glB_ok O h2) hb e1 pa n3 n1 (star_each s1) (plain_args s2)).imp fun σ H Q q => key q) (by simp [plainTest])
    · rename_i n e1
      exact .plain rfl rfl ((pe_callTy (prTy_ok h4) (glB_ok O h2) hb e1 pa n3 n1 (star_each s1) (plain_args s2)).imp fun σ H Q q => key q) (by simp [plainTest])
    · cases h4
  · cases h
theorem isName_ok {ns : List (Str × List Str)} {f : Nat} {x : Str} (h : isName ns f x = true) : ∃ p, ns[f]? = some p ∧ p.1 = x := by
  unfold isName at h
  split at h
  · rename_i p e
    exact ⟨p, e, by simpa using h⟩
  · cases h
theorem chk_call {f : Nat} {es : List IE} {tst : Bool} {e : Expr} (O : XOk g N sc own Φ E X) (ih : ∀ es', chkOs g N es sc es' = true → OkOs X Φ E es es') (h : chk g N (.call f es) tst sc e = true) : Chk X Φ E (.call f es) tst e := by
  simp only [chk] at h
  split at h
  · rename_i x pos1 a as pos
    simp only [Bool.and_eq_true, Bool.not_eq_true'] at h
    obtain ⟨⟨⟨⟨⟨h0, h1⟩, h2⟩, h3⟩, h5⟩, h6⟩ := h
    obtain ⟨n1, n2, n3⟩ := nmB_ok h1
    obtain ⟨s1, s2⟩ := noStar_cons h5
    have pa := pa_of (ih _ h6)
    obtain ⟨p, e1, rfl⟩ := isName_ok h3
    obtain ⟨k, CX, fa, fd, G, hr, hm, hk, hb, _, hx, _⟩ := O.fns f p e1
    refine .plain rfl rfl ((pe_callG G hr O.gds (glB_ok O h2) hm hk hb hx pa n1 (star_each s1) (plain_args s2)).imp fun σ H Q q => ?_) (by simp [plainTest])
    have q : ∃ B lk F ρ fps ts, Sta X.K B lk F H σ ρ fps ts ∧ Out (XC X.K E B lk σ) (ev Φ (.call f es) ρ) _ := q
    simp only [ev] at q
    exact (t_ops q).mono fun vs H1 q => o_call (O.cz h0) q
  · cases h
theorem chk_callK {f : Nat} {es : List IE} {perm : List Nat} {tst : Bool} {e : Expr} (O : XOk g N sc own Φ E X) (ih : ∀ es', chkOs g N es sc es' = true → OkOs X Φ E es es') (h : chk g N (.callK f es perm) tst sc e = true) : Chk X Φ E (.callK f es perm) tst e := by
  simp only [chk] at h
  split at h
  · rename_i x pos1 kws pos
    simp only [Bool.and_eq_true, decide_eq_true_eq, Bool.not_eq_true'] at h
    obtain ⟨⟨⟨⟨⟨⟨⟨h0, h1⟩, h2⟩, h3⟩, h4⟩, h5⟩, h6⟩, h7⟩ := h
    obtain ⟨n1, n2, n3⟩ := nmB_ok h1
    have ok := ih _ h7
    have pk := pk_of ok h6
    obtain ⟨p, e1, rfl⟩ := isName_ok h3
    obtain ⟨k, CX, fa, fd, G, hr, hm, hk, _, hb, hx, _⟩ := O.fns f p e1
    obtain ⟨a1, a2, a3⟩ := kw_all (env := X.env) (pos := pos) h4
    have hn := okos_noStar ok h6
    have hlen : es.length = (kwNames kws).length := by rw [ok.len, kw_len h4]
    refine .plain rfl rfl ((pe_callKG G hr O.gds (glB_ok O h2) hm hk (hb _ _ h5) hx pk (fun σ H Q q => by
      have := tOs_len hn σ H Q q
      rw [hlen] at this
      exact this) a1 a2 n1 (by rw [a3]; rfl)).imp fun σ H Q q => ?_) (by simp [plainTest])
    have q : ∃ B lk F ρ fps ts, Sta X.K B lk F H σ ρ fps ts ∧ Out (XC X.K E B lk σ) (ev Φ (.callK f es perm) ρ) _ := q
    simp only [ev] at q
    exact (t_ops q).mono fun vs H1 q => o_callK (O.cz h0) q
  · cases h
theorem o_isx {K : PySem.W.Frag} {σ : L2.St} {H : Hp} {Q : VK} {ex exs : List String} {vs : List V} (hx : ∀ c ∈ ex, c ∈ exs) (hK : ∀ c ∈ exs, ExK K (He.ga K (Str.ofString c)) ∧ ∀ c' ∈ exs, PySem.W.kitOne K (.ref (He.ga K (Str.ofString c))) (.ref (He.ga K (Str.ofString c'))) = some (c == c')) (h : OpsAt K E (fun os ρ1 => match getAll ρ1 os with
    | some [.exc k _, .cls c] => if ex.contains k && ex.contains c then .ok (.bl (k == c)) ρ1 else .stk
    | _ => .stk) σ Q vs H) : rIsX K vs H Q := by
  obtain ⟨B, lk, F, ρ, fps, ts, os, tms, rfl, hi, S, o⟩ := h
  cases e : getAll ρ os with
  | none => simp only [e] at o; exact o.elim
  | some ds =>
    simp only [e] at o
    have w := S.wrepsR hi e
    split at o
    · rename_i k d c hk
      cases hk
      split at o
      · rename_i hc
        simp only [Bool.and_eq_true] at hc
        have h1 := hx k (by simpa using hc.1)
        have h2 := hx c (by simpa using hc.2)
        generalize hvs : tms.map (·.1) = vs at w o ⊢
        match vs, w with
        | [v1, v2], ⟨⟨f1, r1⟩, ⟨f2, r2⟩, _⟩ =>
          simp only [Rep] at r1 r2
          obtain ⟨a, dx, x, rfl, e1, e2, e3, _⟩ := r1
          obtain ⟨rfl, _⟩ := r2
          refine ⟨a, _, _, dx, x, k == c, rfl, S.own.sub _ _ e1, S.own.sub _ _ e2, (hK k h1).1, (hK k h1).2 c h2, ?_⟩
          exact o (.bl (k == c)) [] F H fps (Sta.pushS (Sta.drops (us := tms.reverse) S) (by simp [Rep]))
      · exact o.elim
    · exact o.elim
theorem t_fld {K : PySem.W.Frag} {σ : L2.St} {H : Hp} {Q : VK} {ex exs : List String} {a : IE} (hx : ∀ c ∈ ex, c ∈ exs) (hK : ∀ c ∈ exs, ExK K (He.ga K (Str.ofString c))) (h : tI K Φ E (.fld ex a) σ H Q) : tFld K (tI K Φ E a) σ H Q := by
  obtain ⟨B, lk, F, ρ, fps, ts, S, o⟩ := h
  simp only [ev] at o
  rw [out_bind] at o
  refine ⟨B, lk, F, ρ, fps, ts, S, o.imp fun d ρ1 q v fp F1 H1 fps1 S1 => ?_⟩
  split at q
  · rename_i k x
    split at q
    · rename_i hc
      simp only [Bool.and_eq_true, Bool.not_eq_true'] at hc
      have r : Rep K F1 H1 (.exc k x) v fp := S1.temps _ (List.mem_cons_self ..)
      simp only [Rep] at r
      obtain ⟨a, dx, w, rfl, e1, e2, e3, _⟩ := r
      exact ⟨a, _, dx, w, rfl, S1.own.sub _ _ e1, S1.own.sub _ _ e2, hK k (hx k (by simpa using hc.1)), q w [] F1 H1 fps1 (S1.drop.pushS e3)⟩
    · exact q.elim
  · exact q.elim
theorem all_mem {ex exs : List String} (h : ex.all (fun c => exs.contains c) = true) : ∀ c ∈ ex, c ∈ exs := fun c hc => by simpa using List.all_eq_true.mp h c hc
theorem chk_isx {ex : List String} {es : List IE} {tst : Bool} {e : Expr} (O : XOk g N sc own Φ E X) (ih : ∀ es', chkOs g N es sc es' = true → OkOs X Φ E es es') (h : chk g N (.isx ex es) tst sc e = true) : Chk X Φ E (.isx ex es) tst e := by
  simp only [chk] at h
  split at h
  · rename_i x pos1 a b pos
    simp only [Bool.and_eq_true, decide_eq_true_eq] at h
    obtain ⟨⟨⟨⟨⟨⟨rfl, h1⟩, h2⟩, h3⟩, h4⟩, h5⟩, h6⟩ := h
    obtain ⟨n1, n2, n3⟩ := nmB_ok h1
    obtain ⟨s1, s2⟩ := noStar_cons h5
    have pa := pa_of (ih _ h6)
    have hb := O.blt _ (by simpa using h3)
    have key : ∀ {σ : L2.St} {H : Hp} {Q : VK}, tI X.K Φ E (.isx ex es) σ H Q → tCB (rIsX X.K) (tOs X.K Φ E es) σ H Q := fun {σ H Q} q => by
      have q : ∃ B lk F ρ fps ts, Sta X.K B lk F H σ ρ fps ts ∧ Out (XC X.K E B lk σ) (ev Φ (.isx ex es) ρ) _ := q
      simp only [ev] at q
      exact (t_ops q).mono fun vs H1 q => o_isx (all_mem h4) (fun c hc => (O.exs c hc).2) q
    exact .plain rfl rfl ((pe_callB call_isX (glB_ok O h2) hb (by decide +kernel) pa n3 n1 (star_each s1) (plain_args s2)).imp fun σ H Q q => key q) (by simp [plainTest])
  · cases h
theorem chk_fld {ex : List String} {a : IE} {tst : Bool} {e : Expr} (O : XOk g N sc own Φ E X) (ih : ∀ e', chk g N a false sc e' = true → Chk X Φ E a false e') (h : chk g N (.fld ex a) tst sc e = true) : Chk X Φ E (.fld ex a) tst e := by
  simp only [chk] at h
  split at h
  · rename_i x p n pos
    simp only [Bool.and_eq_true, decide_eq_true_eq] at h
    obtain ⟨⟨⟨rfl, h2⟩, h3⟩, h4⟩ := h
    exact .plain rfl rfl ((pe_fld (((ih _ h4).val rfl).vl h3) rfl).imp fun σ H Q q => t_fld (all_mem h2) (fun c hc => (O.exs c hc).2.1) q) (by simp [plainTest])
  · cases h
theorem chk_callM {f : Nat} {es : List IE} {tst : Bool} {e : Expr} (O : XOk g N sc own Φ E X) (ih : ∀ es', chkOs g N es sc es' = true → OkOs X Φ E es es') (h : chk g N (.callM f es) tst sc e = true) : Chk X Φ E (.callM f es) tst e := by
  simp only [chk] at h
  split at h
  · rename_i x pos1 a as pos
    simp only [Bool.and_eq_true, Bool.not_eq_true'] at h
    obtain ⟨⟨⟨⟨h1, h2⟩, h3⟩, h5⟩, h6⟩ := h
    obtain ⟨n1, n2, n3⟩ := nmB_ok h1
    obtain ⟨s1, s2⟩ := noStar_cons h5
    have pa := pa_of (ih _ h6)
    obtain ⟨p, e1, rfl⟩ := isName_ok h3
    obtain ⟨k, CX, fa, fd, G, hr, hm, hk, hb, _, hx, _⟩ := O.fns f p e1
    refine .plain rfl rfl ((pe_callG G hr O.gds (glB_ok O h2) hm hk hb hx pa n1 (star_each s1) (plain_args s2)).imp fun σ H Q q => ?_) (by simp [plainTest])
    have q : ∃ B lk F ρ fps ts, Sta X.K B lk F H σ ρ fps ts ∧ Out (XC X.K E B lk σ) (ev Φ (.callM f es) ρ) _ := q
    simp only [ev] at q
    exact (t_ops q).mono fun vs H1 q => o_callM q
  · cases h
theorem capIx_ok : ∀ {is : List Nat} {ys : List Str}, capIx N sc is ys = true → is.length = ys.length ∧ ∀ (n : Nat) y, ys[n]? = some y → ∃ j, is[n]? = some j ∧ N[j]? = some y ∧ sc.names.lookup y = some .cell
  | [], [], _ => ⟨rfl, fun n y h => by simp at h⟩
  | i :: is, y :: ys, h => by
    simp only [capIx, Bool.and_eq_true] at h
    obtain ⟨h1, h2⟩ := capIx_ok h.2
    refine ⟨by simp [h1], fun n z hz => ?_⟩
    cases n with
    | zero =>
      simp at hz
      subst hz
      exact ⟨i, rfl, by simpa using h.1.1, by simpa using h.1.2⟩
    | succ n =>
      obtain ⟨j, e1, e2⟩ := h2 n z (by simpa using hz)
      exact ⟨j, by simpa using e1, e2⟩
  | [], _ :: _, h => by simp [capIx] at h
  | _ :: _, [], h => by simp [capIx] at h
theorem clo_keeps {cells : List (Str × Addr)} {y : Str} : ∀ {names : List (Str × NameKind)} {acc : List (Str × Addr)}, (∃ c', acc.lookup y = some c') → ∃ c', (cloFrom cells names acc).lookup y = some c'
  | [], acc, h => h
  | (n, k) :: r, acc, h => by
    unfold cloFrom
    split
    · refine clo_keeps ?_
      rw [List.lookup_cons]
      cases y == n with
      | true => exact ⟨_, rfl⟩
      | false => exact h
    · exact clo_keeps h
theorem clo_has {cells : List (Str × Addr)} {y : Str} : ∀ {names : List (Str × NameKind)} {acc : List (Str × Addr)}, (y, NameKind.free) ∈ names → ∃ c', (cloFrom cells names acc).lookup y = some c'
  | (n, k) :: r, acc, h => by
    unfold cloFrom
    rcases List.mem_cons.mp h with e | e
    · cases e
      rw [if_pos (by rfl)]
      exact clo_keeps ⟨(cells.lookup y).getD 0, by rw [List.lookup_cons]; simp⟩
    · split
      · exact clo_has e
      · exact clo_has e
theorem chk_lam {k : Nat} {tst : Bool} {e : Expr} (O : XOk g N sc own Φ E X) (h : chk g N (.lam k) tst sc e = true) : Chk X Φ E (.lam k) tst e := by
  simp only [chk] at h
  split at h
  · rename_i params body scope pos
    simp only [Bool.and_eq_true, Bool.not_eq_true', decide_eq_true_eq] at h
    obtain ⟨⟨⟨⟨h1, h2⟩, h3⟩, h4⟩, h5⟩ := h
    obtain ⟨_, hcel, ⟨c, P, TB, hcode, hm, hu⟩, hcl, hlam⟩ := O.mkf h2 h3
    obtain ⟨hok, hdef, hcaps⟩ := hlam _ _ _ _ h5
    unfold lamB at h4
    simp only [Bool.and_eq_true] at h4
    have L : LamX.LamS X.env.scope scope := by rw [O.hsc]; exact LamX.lamS_by h4.1.1
    refine ⟨fun _ => .of rfl rfl ((pe_lam TB hcode hm hu L hdef).imp fun σ H Q q => ?_), fun ht => by rw [h1] at ht; cases ht⟩
    have hfree : ∀ y ∈ scope.names, y.2 = .free → ∃ c, X.env.cells.lookup y.1 = some c := fun y hy e => by
      have := List.all_eq_true.mp h4.1.2 y hy
      rw [e] at this
      simp only [beq_self_eq_true, Bool.not_true, Bool.false_or, Bool.and_eq_true, beq_iff_eq] at this
      exact hcl _ this.2
    refine t_lam hok (fun _ y c e => ?_) (fun y hy => ?_) q
    · rw [hcel]
      exact NdefX.clo_cm hfree e
    · rw [hcaps] at hy
      have := List.all_eq_true.mp h4.2 y hy
      exact clo_has (PySem.mem_of_lookup (by simpa using this))
  · cases h
theorem chk_tup {es : List IE} {tst : Bool} {e : Expr} (ih : ∀ es', chkOs g N es sc es' = true → OkOs X Φ E es es') (h : chk g N (.tup es) tst sc e = true) : Chk X Φ E (.tup es) tst e := by
  simp only [chk] at h
  split at h
  · refine .plain rfl rfl ((pe_tup (pa_of (ih _ h))).imp fun σ H Q q => ?_) (by simp [plainTest])
    have q : ∃ B lk F ρ fps ts, Sta X.K B lk F H σ ρ fps ts ∧ Out (XC X.K E B lk σ) (ev Φ (.tup es) ρ) _ := q
    simp only [ev] at q
    exact (t_ops q).mono fun vs H1 q => o_tup q
  · cases h
theorem chk_lst {es : List IE} {tst : Bool} {e : Expr} (ih : ∀ es', chkOs g N es sc es' = true → OkOs X Φ E es es') (h : chk g N (.lst es) tst sc e = true) : Chk X Φ E (.lst es) tst e := by
  simp only [chk] at h
  split at h
  · refine .plain rfl rfl ((pe_lst (pa_of (ih _ h))).imp fun σ H Q q => ?_) (by simp [plainTest])
    have q : ∃ B lk F ρ fps ts, Sta X.K B lk F H σ ρ fps ts ∧ Out (XC X.K E B lk σ) (ev Φ (.lst es) ρ) _ := q
    simp only [ev] at q
    exact (t_ops q).mono fun vs H1 q => o_lst q
  · cases h
theorem chk_idx {es : List IE} {tst : Bool} {e : Expr} (ih : ∀ es', chkOs g N es sc es' = true → OkOs X Φ E es es') (h : chk g N (.idx es) tst sc e = true) : Chk X Φ E (.idx es) tst e := by
  simp only [chk] at h
  split at h
  · simp only [Bool.and_eq_true] at h
    obtain ⟨⟨h1, h2⟩, h3⟩ := h
    obtain ⟨x, y, rfl, o1, o2, p1, p2⟩ := (ih _ h3).two h2
    exact .plain rfl rfl ((pe_ix ix_P p1 p2 (plainIx_ok h1)).imp fun σ H Q q => t_idx o1 o2 q) (by simp [plainTest])
  · cases h
theorem chk_neg {es : List IE} {tst : Bool} {e : Expr} (ih : ∀ es', chkOs g N es sc es' = true → OkOs X Φ E es es') (h : chk g N (.neg es) tst sc e = true) : Chk X Φ E (.neg es) tst e := by
  simp only [chk] at h
  split at h
  · simp only [Bool.and_eq_true] at h
    obtain ⟨x, rfl, o1, p1⟩ := (ih _ h.2).one h.1
    exact .plain rfl rfl ((pe_un un_neg p1).imp fun σ H Q q => t_neg o1 q) (by simp [plainTest])
  · cases h
theorem chk_slc {es lo hi : List IE} {tst : Bool} {e : Expr} (ih : ∀ es', chkOs g N es sc es' = true → OkOs X Φ E es es') (ih1 : ∀ e, chkB g N lo sc e = true → OkB X Φ E lo e) (ih2 : ∀ e, chkB g N hi sc e = true → OkB X Φ E hi e) (h : chk g N (.slc es lo hi) tst sc e = true) : Chk X Φ E (.slc es lo hi) tst e := by
  simp only [chk] at h
  split at h
  · simp only [Bool.and_eq_true] at h
    obtain ⟨⟨⟨h1, h2⟩, h3⟩, h4⟩ := h
    obtain ⟨x, rfl, o1, p1⟩ := (ih _ h2).one h1
    exact .plain rfl rfl ((pe_slice sl_P p1 (ih1 _ h3) (ih2 _ h4)).imp fun σ H Q q => t_slc o1 q) (by simp [plainTest])
  · cases h
theorem chk_notE {a : IE} {tst : Bool} {e : Expr} (ih : ∀ e, chk g N a tst sc e = true → Chk X Φ E a tst e) (h : chk g N (.notE a) tst sc e = true) : Chk X Φ E (.notE a) tst e := by
  simp only [chk] at h
  split at h
  · rename_i x pos
    simp only [Bool.and_eq_true] at h
    have ih := ih _ h.2
    refine ⟨fun ht => ?_, fun ht _ => ⟨?_, fun hb => by cases hb⟩⟩
    · exact .of rfl rfl ((pe_not ((ih.val ht).vl h.1)).imp fun σ H Q q => t_not q)
    · exact (pt_not (ih.tst ht h.1).1).imp fun σ H Q q => tT_not q
  · cases h
theorem chk_andE {a b : IE} {tst : Bool} {e : Expr} (ih : ∀ e, chk g N a tst sc e = true → Chk X Φ E a tst e) (ih2 : ∀ e, chk g N b tst sc e = true → Chk X Φ E b tst e) (h : chk g N (.andE a b) tst sc e = true) : Chk X Φ E (.andE a b) tst e := by
  simp only [chk] at h
  split at h
  · rename_i x y pos
    simp only [Bool.and_eq_true] at h
    obtain ⟨⟨⟨v1, v2⟩, h1⟩, h2⟩ := h
    have c1 := ih _ h1
    have c2 := ih2 _ h2
    refine ⟨fun ht => ?_, fun ht _ => ?_⟩
    · exact .of rfl rfl ((pe_and ((c1.val ht).vl v1) (pe_one ((c2.val ht).vl v2))).imp fun σ H Q q => t_and q)
    · have : PW X (.BoolOp .And [x, y] pos) (tT X.K Φ E (.andE a b)) := (pw_and (c1.tst ht v1).1 (pw_and1 (c2.tst ht v2).1)).imp fun σ H Q q => tT_and q
      exact ⟨this.pt, fun _ => this⟩
  · rename_i x y z r pos
    simp only [Bool.and_eq_true] at h
    obtain ⟨⟨⟨v1, v2⟩, h1⟩, h2⟩ := h
    have c1 := ih _ h1
    have c2 := ih2 _ h2
    refine ⟨fun ht => ?_, fun ht _ => ?_⟩
    · exact .of rfl rfl ((pe_and ((c1.val ht).vl v1) ((c2.val ht).vl v2)).imp fun σ H Q q => t_and q)
    · have : PW X (.BoolOp .And (x :: y :: z :: r) pos) (tT X.K Φ E (.andE a b)) := (pw_and (c1.tst ht v1).1 ((c2.tst ht v2).2 rfl)).imp fun σ H Q q => tT_and q
      exact ⟨this.pt, fun _ => this⟩
  · cases h
theorem chk_orE {a b : IE} {tst : Bool} {e : Expr} (ih : ∀ e, chk g N a tst sc e = true → Chk X Φ E a tst e) (ih2 : ∀ e, chk g N b tst sc e = true → Chk X Φ E b tst e) (h : chk g N (.orE a b) tst sc e = true) : Chk X Φ E (.orE a b) tst e := by
  simp only [chk] at h
  split at h
  · rename_i x y pos
    simp only [Bool.and_eq_true] at h
    obtain ⟨⟨⟨v1, v2⟩, h1⟩, h2⟩ := h
    have c1 := ih _ h1
    have c2 := ih2 _ h2
    refine ⟨fun ht => ?_, fun ht _ => ?_⟩
    · exact .of rfl rfl ((pe_or ((c1.val ht).vl v1) (pe_one ((c2.val ht).vl v2))).imp fun σ H Q q => t_or q)
    · have : PW X (.BoolOp .Or [x, y] pos) (tT X.K Φ E (.orE a b)) := (pw_or (c1.tst ht v1).1 (pw_or1 (c2.tst ht v2).1)).imp fun σ H Q q => tT_or q
      exact ⟨this.pt, fun _ => this⟩
  · rename_i x y z r pos
    simp only [Bool.and_eq_true] at h
    obtain ⟨⟨⟨v1, v2⟩, h1⟩, h2⟩ := h
    have c1 := ih _ h1
    have c2 := ih2 _ h2
    refine ⟨fun ht => ?_, fun ht _ => ?_⟩
    · exact .of rfl rfl ((pe_or ((c1.val ht).vl v1) ((c2.val ht).vl v2)).imp fun σ H Q q => t_or q)
    · have : PW X (.BoolOp .Or (x :: y :: z :: r) pos) (tT X.K Φ E (.orE a b)) := (pw_or (c1.tst ht v1).1 ((c2.tst ht v2).2 rfl)).imp fun σ H Q q => tT_or q
      exact ⟨this.pt, fun _ => this⟩
  · cases h
theorem chk_ite {c a b : IE} {tst : Bool} {e : Expr} (ih0 : ∀ e, chk g N c true sc e = true → Chk X Φ E c true e) (ih : ∀ e, chk g N a false sc e = true → Chk X Φ E a false e) (ih2 : ∀ e, chk g N b false sc e = true → Chk X Φ E b false e) (h : chk g N (.ite c a b) tst sc e = true) : Chk X Φ E (.ite c a b) tst e := by
  simp only [chk] at h
  split at h
  · simp only [Bool.and_eq_true, Bool.not_eq_true'] at h
    obtain ⟨⟨⟨⟨⟨⟨h0, v0⟩, v1⟩, v2⟩, h1⟩, h2⟩, h3⟩ := h
    exact ⟨fun _ => .of rfl rfl ((pe_ifExp ((ih0 _ h1).tst rfl v0).1 (((ih _ h2).val rfl).vl v1) (((ih2 _ h3).val rfl).vl v2)).imp fun σ H Q q => t_ite q), fun ht => by rw [h0] at ht; cases ht⟩
  · cases h
theorem callN_ok {n : String} {x : Str} (O : XOk g N sc own Φ E X) (h : callN g sc n x = true) : x = Str.ofString n ∧ Gl X x ∧ X.mg x = none := by
  unfold callN at h
  simp only [Bool.and_eq_true, decide_eq_true_eq] at h
  exact ⟨h.1.1, glB_ok O h.1.2, O.blt x (by simpa using h.2)⟩
theorem chk_rng {tup : Bool} {es : List IE} {tst : Bool} {e : Expr} (O : XOk g N sc own Φ E X) (ih : ∀ es', chkOs g N es sc es' = true → OkOs X Φ E es es') (h : chk g N (.rng tup es) tst sc e = true) : Chk X Φ E (.rng tup es) tst e := by
  simp only [chk] at h
  split at h
  · rename_i y p1 x p2 a' p3 p4
    simp only [Bool.and_eq_true] at h
    obtain ⟨⟨⟨h1, h2⟩, h3⟩, h4⟩ := h
    obtain ⟨a, rfl, o1, pa1⟩ := (ih _ h4).one h3
    obtain ⟨rfl, gl, mb⟩ := callN_ok O h2
    have s1 := (noStar_cons h3).1
    have pr := prg_1 (p := p2) (pos := p3) gl mb pa1 (star_each s1)
    have key : ∀ {σ : L2.St} {H : Hp} {Q : VK}, tI X.K Φ E (.rng tup [a]) σ H Q → tRg1 (tO X.K Φ E a) σ H fun a b H1 => RgOk a b ∧ ∀ q, H1 q = none → Q (.ref q) (upd H1 q (if tup then .tup (rgV a b) else .lst (rgV a b))) := fun q => tO_mono (t_one' o1 (t_rng q)) fun x H1 ⟨a, b, hv, q⟩ => by
      rcases hv with ⟨hv, rfl⟩ | hv
      · cases hv; exact ⟨b, rfl, q⟩
      · cases hv
    cases tup with
    | true =>
      rw [if_pos rfl] at h1
      obtain ⟨rfl, gl2, mb2⟩ := callN_ok O h1
      exact .plain rfl rfl ((pe_tupRg O.calm gl2 mb2 pr rfl).imp fun σ H Q q => key q) (by simp [plainTest])
    | false =>
      rw [if_neg Bool.false_ne_true] at h1
      obtain ⟨rfl, gl2, mb2⟩ := callN_ok O h1
      exact .plain rfl rfl ((pe_listRg O.calm gl2 mb2 pr rfl).imp fun σ H Q q => key q) (by simp [plainTest])
  · rename_i y p1 x p2 a' b' p3 p4
    simp only [Bool.and_eq_true] at h
    obtain ⟨⟨⟨h1, h2⟩, h3⟩, h4⟩ := h
    obtain ⟨a, b, rfl, o1, o2, pa1, pa2⟩ := (ih _ h4).two h3
    obtain ⟨rfl, gl, mb⟩ := callN_ok O h2
    obtain ⟨s1, s2⟩ := noStar_cons h3
    have s3 := (noStar_cons s2).1
    have pr := prg_2 (p := p2) (pos := p3) gl mb pa1 pa2 (star_each s1) (star_each s3) (plain_args s2)
    have key : ∀ {σ : L2.St} {H : Hp} {Q : VK}, tI X.K Φ E (.rng tup [a, b]) σ H Q → tRg2 (tO X.K Φ E a) (tO X.K Φ E b) σ H fun a b H1 => RgOk a b ∧ ∀ q, H1 q = none → Q (.ref q) (upd H1 q (if tup then .tup (rgV a b) else .lst (rgV a b))) := fun q => tO_mono (t_two' o1 o2 (t_rng q)) fun x H1 q => tO_mono q fun y H2 ⟨a, b, hv, q3⟩ => by
      rcases hv with ⟨hv, rfl⟩ | hv
      · cases hv
      · cases hv; exact ⟨a, b, rfl, rfl, q3⟩
    cases tup with
    | true =>
      rw [if_pos rfl] at h1
      obtain ⟨rfl, gl2, mb2⟩ := callN_ok O h1
      exact .plain rfl rfl ((pe_tupRg O.calm gl2 mb2 pr rfl).imp fun σ H Q q => key q) (by simp [plainTest])
    | false =>
      rw [if_neg Bool.false_ne_true] at h1
      obtain ⟨rfl, gl2, mb2⟩ := callN_ok O h1
      exact .plain rfl rfl ((pe_listRg O.calm gl2 mb2 pr rfl).imp fun σ H Q q => key q) (by simp [plainTest])
  · cases h
theorem chk_it {it : It} {es : List IE} {tg iter : Expr} (hit : it = .seq es ∨ it = .range es ∨ it = .enum es ∨ it = .zip es) (O : XOk g N sc own Φ E X) (ih : ∀ es', chkOs g N es sc es' = true → OkOs X Φ E es es') (h : chkIt g N it sc tg iter = true) : PI X tg iter (tIt X.K Φ E it) := by
  rcases hit with rfl | rfl | rfl | rfl
  · simp only [chkIt, Bool.and_eq_true] at h
    obtain ⟨a, rfl, o1, p1⟩ := (ih _ h.2).one h.1
    exact (pi_seq p1).imp fun σ H R q => t_seq o1 q
  · simp only [chkIt] at h
    split at h
    · simp only [Bool.and_eq_true] at h
      obtain ⟨⟨h1, h2⟩, h3⟩ := h
      obtain ⟨a, rfl, o1, p1⟩ := (ih _ h3).one h2
      obtain ⟨rfl, gl, mb⟩ := callN_ok O h1
      have s1 := (noStar_cons h2).1
      exact (pi_range1 gl mb (pa_cons p1 pa_nil (star_each s1)) (star_each s1)).imp fun σ H R q => t_range1 o1 q
    · simp only [Bool.and_eq_true] at h
      obtain ⟨⟨h1, h2⟩, h3⟩ := h
      obtain ⟨a, b, rfl, o1, o2, p1, p2⟩ := (ih _ h3).two h2
      obtain ⟨rfl, gl, mb⟩ := callN_ok O h1
      obtain ⟨s1, s2⟩ := noStar_cons h2
      have s3 := (noStar_cons s2).1
      exact (pi_range2 gl mb (pa_cons p1 (pa_cons p2 pa_nil (star_each s3)) (star_each s1)) (by rw [star_each s1, star_each s3]; rfl) (star_each s3)).imp fun σ H R q => t_range2 o1 o2 q
    · cases h
  · simp only [chkIt] at h
    split at h
    · simp only [Bool.and_eq_true] at h
      obtain ⟨⟨⟨h0, h1⟩, h2⟩, h3⟩ := h
      obtain ⟨rfl, gl, mb⟩ := callN_ok O h1
      have s1 := (noStar_cons h2).1
      cases tg <;> try (simp [isTup] at h0; done)
      exact (pi_enumB gl mb (pa_of (ih _ h3)) (star_each s1)).imp fun σ H R q => t_enum q
    · cases h
  · simp only [chkIt] at h
    split at h
    · simp only [Bool.and_eq_true] at h
      obtain ⟨⟨⟨h0, h1⟩, h2⟩, h3⟩ := h
      obtain ⟨rfl, gl, mb⟩ := callN_ok O h1
      obtain ⟨a, b, rfl, o1, o2, p1, p2⟩ := (ih _ h3).two h2
      obtain ⟨s1, s2⟩ := noStar_cons h2
      have s3 := (noStar_cons s2).1
      cases tg <;> try (simp [isTup] at h0; done)
      exact (pi_zipB gl mb (pa_cons p1 (pa_cons p2 pa_nil (star_each s3)) (star_each s1)) (star_each s1) (plain_args s2)).imp fun σ H R q => t_zip2 o1 o2 q
    · simp only [Bool.and_eq_true] at h
      obtain ⟨⟨⟨h0, h1⟩, h2⟩, h3⟩ := h
      obtain ⟨rfl, gl, mb⟩ := callN_ok O h1
      obtain ⟨a, b, c, rfl, o1, o2, o3, p1, p2, p3⟩ := (ih _ h3).three h2
      obtain ⟨s1, s2⟩ := noStar_cons h2
      obtain ⟨s3, s4⟩ := noStar_cons s2
      have s5 := (noStar_cons s4).1
      cases tg <;> try (simp [isTup] at h0; done)
      exact (pi_zipC gl mb (pa_cons p1 (pa_cons p2 (pa_cons p3 pa_nil (star_each s5)) (star_each s3)) (star_each s1)) (star_each s1) (plain_args s2)).imp fun σ H R q => t_zip3 o1 o2 o3 q
    · cases h
theorem chk_lzip {es : List IE} {tst : Bool} {e : Expr} (O : XOk g N sc own Φ E X) (ih : ∀ es', chkOs g N es sc es' = true → OkOs X Φ E es es') (h : chk g N (.lzip es) tst sc e = true) : Chk X Φ E (.lzip es) tst e := by
  simp only [chk] at h
  split at h
  · rename_i y p1 x p2 a b c p3 p4
    simp only [Bool.and_eq_true] at h
    obtain ⟨⟨⟨h1, h2⟩, h3⟩, h4⟩ := h
    obtain ⟨rfl, gl, mb⟩ := callN_ok O h1
    obtain ⟨rfl, gz, mz⟩ := callN_ok O h2
    obtain ⟨s1, s2⟩ := noStar_cons h3
    have pa := pa_of (ih _ h4)
    exact .plain rfl rfl ((pe_lzip3 O.calm gl mb gz mz pa (star_each s1) (plain_args s2)).imp fun σ H Q q => t_lzip q) (by simp [plainTest])
  · cases h
end Mi
end

section
set_option Elab.async false
set_option linter.all false
set_option maxRecDepth 100000
namespace Mi
open PySem PySem.Spec PyProof.Rows L2
variable [LT] [fr : Fr]
variable {Φ : Fns} {g : Gx} {N : List Str}
theorem t_frz {K : PySem.W.Frag} {E : XK} {e : IE} {σ : L2.St} {H : Hp} {Q : VK} (h : tI K Φ E (.frz e) σ H Q) : tI K Φ E e σ H Q := by
  obtain ⟨B, lk, F, ρ, fps, ts, S, o⟩ := h
  simp only [ev] at o
  rw [out_bind] at o
  refine ⟨B, lk, F, ρ, fps, ts, S, o.imp fun d ρ' q v fp F' H' fps' S' => ?_⟩
  obtain ⟨F2, s2, r, S2⟩ := S'.freezeT
  exact q v [] F2 H' fps' (S2.pushS r)
theorem chk_lc {E : XK} {X : Cx} {sc : Scope} {own : Option Scope} {vs : List Nat} {tg : Tg} {it : It} {ifs : List IE} {elt : IE} {tst : Bool} {e : Expr} (O : XOk g N sc own Φ E X) (ihI : ∀ tg iter, chkIt g N it sc tg iter = true → PI X tg iter (tIt X.K Φ E it))
    (ihF : ∀ {E' : XK} {X' : Cx} {sc' : Scope} {own' : Option Scope} {es : List Expr}, XOk g N sc' own' Φ E' X' → chkIfs g N ifs sc' es = true → PTs X' es (tIfs X'.K Φ E' ifs)) (ihE : ∀ {E' : XK} {X' : Cx} {sc' : Scope} {own' : Option Scope} {e : Expr}, XOk g N sc' own' Φ E' X' → chk g N elt false sc' e = true → Chk X' Φ E' elt false e)
    (h : chk g N (.lc vs tg it ifs elt) tst sc e = true) : Chk X Φ E (.lc vs tg it ifs elt) tst e ∧ (∃ elt' gen scope pos, e = .ListComp elt' [gen] scope pos ∧ gen.is_async = 0 ∧ BlkOk X.N X.env.scope scope (ownOf N scope) ∧ plainIter gen.iter = true ∧ PI X gen.target gen.iter (tIt X.K Φ E it) ∧
      (∀ (s : Shared) (H : Hp) (C : Addr) (cl : List (Str × Addr)) (fp : List Addr), PG (X.blk s H scope (compEnvC scope cl C X.env) fp) gen.target (tG X.K [] tg)) ∧
      (∀ (s : Shared) (H : Hp) (C : Addr) (cl : List (Str × Addr)) (fp : List Addr), PTs (X.blk s H scope (compEnvC scope cl C X.env) fp) gen.ifs (tIfs X.K Φ noX ifs)) ∧
      (∀ (s : Shared) (H : Hp) (C : Addr) (cl : List (Str × Addr)) (fp : List Addr), PE (X.blk s H scope (compEnvC scope cl C X.env) fp) elt' (tI X.K Φ noX elt)) ∧ vs = (ownOf N scope).map (·.2) ∧ ∀ j ∈ slotsT tg, j ∈ vs) := by
  simp only [chk] at h
  split at h
  · rename_i elt' gen scope pos
    simp only [Bool.and_eq_true, Bool.not_eq_true', decide_eq_true_eq] at h
    obtain ⟨⟨⟨⟨⟨⟨⟨⟨⟨⟨h1, h2⟩, h3, hns⟩, h4⟩, h5⟩, h6⟩, h7⟩, h8⟩, h9⟩, h10⟩, h11⟩ := h
    have hns : g.mkr = true → (relS scope sc).names.length ≠ g.lsn := fun z1 z2 => by rw [z1, z2] at hns; simp at hns
    have bk : BlkOk X.N X.env.scope scope (ownOf N scope) := by rw [O.hN, O.hsc]; exact blkB_ok h3
    have hs : ∀ j ∈ slotsT tg, j ∈ vs := fun j hj => by simpa using List.all_eq_true.mp h5 j hj
    have p1 := ihI _ _ h7
    have p2 : ∀ (s : Shared) (H : Hp) (C : Addr) (cl : List (Str × Addr)) (fp : List Addr), PG (X.blk s H scope (compEnvC scope cl C X.env) fp) gen.target (tG X.K [] tg) := fun s H C cl fp => chkG_ok (O.blk scope s H C cl fp hns) tg _ h8
    have p3 : ∀ (s : Shared) (H : Hp) (C : Addr) (cl : List (Str × Addr)) (fp : List Addr), PTs (X.blk s H scope (compEnvC scope cl C X.env) fp) gen.ifs (tIfs X.K Φ noX ifs) := fun s H C cl fp => ihF (O.blk scope s H C cl fp hns) h9
    have p4 : ∀ (s : Shared) (H : Hp) (C : Addr) (cl : List (Str × Addr)) (fp : List Addr), PE (X.blk s H scope (compEnvC scope cl C X.env) fp) elt' (tI X.K Φ noX elt) := fun s H C cl fp => ((ihE (O.blk scope s H C cl fp hns) h11).val rfl).vl h10
    refine ⟨⟨fun _ => .of rfl rfl ?_, fun ht => by rw [h1] at ht; cases ht⟩, elt', gen, scope, pos, rfl, h2, bk, h6, p1, p2, p3, p4, h4, hs⟩
    obtain ⟨tgt, iter, ifs', a⟩ := gen
    subst h2
    subst h4
    exact (pe_lc O.calm (by rw [O.hN]; exact O.nd) p1 bk p2 p3 p4 (plainIter_ok h6)).imp fun σ H Q q => t_lc hs q
  · cases h
theorem mem_look {α : Type} : ∀ {l : List (Nat × α)} {k : Nat} {a : α}, l.lookup k = some a → (k, a) ∈ l
  | [], k, a, h => by simp at h
  | (x, b) :: r, k, a, h => by
    rw [List.lookup_cons] at h
    cases e : k == x with
    | true =>
      rw [e] at h
      cases h
      rw [beq_iff_eq] at e
      rw [e]
      exact List.mem_cons_self ..
    | false => rw [e] at h; exact List.mem_cons_of_mem _ (mem_look h)
theorem chk_lcM {E : XK} {X : Cx} {sc : Scope} {own : Option Scope} {ks : List (Nat × List Nat)} {vs : List Nat} {tg : Tg} {i : Nat} {elt : IE} {tst : Bool} {e : Expr} (O : XOk g N sc own Φ E X) (h : chk g N (.lcM ks vs tg i elt) tst sc e = true) : Chk X Φ E (.lcM ks vs tg i elt) tst e := by
  simp only [chk] at h
  split at h
  · rename_i elt' gen scope pos
    simp only [Bool.and_eq_true, Bool.not_eq_true', decide_eq_true_eq] at h
    obtain ⟨⟨⟨⟨⟨⟨⟨⟨⟨⟨⟨⟨⟨h1, h2⟩, h3⟩, h4⟩, h5⟩, h6⟩, h7⟩, h8⟩, h9⟩, h10⟩, h11⟩, h12⟩, h13⟩, h14⟩ := h
    obtain ⟨rfl, hcel, _, _, _⟩ := O.mkf h2 h3
    have bk : BlkOk X.N X.env.scope scope (ownOf N scope) := by rw [O.hN, O.hsc]; exact blkB_ok h7
    have hs : ∀ j ∈ slotsT tg, j ∈ vs := fun j hj => by simpa using List.all_eq_true.mp h10 j hj
    have nofr : ∀ y ∈ scope.names, y.2 ≠ .free := fun y hy e => by
      have := List.all_eq_true.mp h8 y hy
      rw [e] at this
      simp at this
    have hcap : CapOk X ks := fun k is hk => by
      have := List.all_eq_true.mp h4 (k, is) (mem_look hk)
      obtain ⟨c1, c2⟩ := capIx_ok this
      rw [O.capk h2 k, O.hN, O.hsc]
      exact ⟨c1, c2⟩
    have XB : ∀ (s : Shared) (H : Hp) (C : Addr) (cl : List (Str × Addr)) (fp : List Addr), @XOk _ Fr0 g.base N (relS scope sc) (some scope) Φ noX (X.blk s H scope (compEnvC scope cl C X.env) fp) := fun s H C cl fp => by
      obtain ⟨⟨hN, nd, hsc, calm, units, gds, fnm, ownk, fns, cns, blt, cz, exs, mkf⟩, _, _⟩ := O
      letI : Fr := Fr0
      exact ⟨⟨hN, nd, by rw [← hsc]; rfl, calm, units, gds, fun x h => h, fun s e x h => (by cases e; exact lookup_relS_keep (by decide) h), fun i p e => (by
          obtain ⟨k, CX, f, fd, G, h1, h2, h3, h4, h5, h6, h7⟩ := fns i p e
          exact ⟨k, CX, f, fd, G, h1, h2, h3, h4, h5, fun _ _ H s e s' _ c => (h7 _ _ _ _ _ c).elim, h7⟩), cns, blt, fun _ => rfl, exs, (fun z => nomatch z)⟩, (fun ie e _ z => nomatch z), (fun z => nomatch z)⟩
    obtain ⟨tgt, iter, ifs, a⟩ := gen
    simp only at h5 h6 h11 h12 h13 h14
    subst h5
    have h6 : ifs = [] := by simpa using h6
    subst h6
    subst h9
    have p1 := (varB_ok O h12).1
    have p2 : ∀ (s : Shared) (H : Hp) (C : Addr) (cl : List (Str × Addr)) (fp : List Addr), PG (X.blk s H scope (compEnvC scope cl C X.env) fp) tgt (@tG _ Fr0 X.K [] tg) := fun s H C cl fp => @chkG_ok _ Fr0 _ _ _ _ _ _ _ _ (XB s H C cl fp) tg _ h13
    have p4 : ∀ (s : Shared) (H : Hp) (C : Addr) (cl : List (Str × Addr)) (fp : List Addr), PE (X.blk s H scope (compEnvC scope cl C X.env) fp) elt' (@tI _ Fr0 X.K Φ noX elt) := fun s H C cl fp => O.bk elt elt' (@XOk.toXO _ Fr0 _ _ _ _ _ _ _ (XB s H C cl fp)) h14
    refine ⟨fun _ => .of rfl rfl ((pe_lcS O.calm (by rw [O.hN]; exact O.nd) (fun y => O.fnm y rfl) (pi_seq p1) bk nofr p2 p4 (plainIter_ok h11)).imp fun σ H Q q => t_lcM hcel hcap hs q), fun ht => by rw [h1] at ht; cases ht⟩
  · cases h
mutual
theorem chk_ok : ∀ (ie : IE) {E : XK} {X : Cx} {sc : Scope} {own : Option Scope} (tst : Bool) (e : Expr), XOk g N sc own Φ E X → chk g N ie tst sc e = true → Chk X Φ E ie tst e
  | .const d, E, X, sc, own, tst, e, O, h => by
    simp only [chk, Bool.and_eq_true] at h
    obtain ⟨p, q⟩ := constB_ok (X := X) (Φ := Φ) (E := E) h.2
    exact .plain rfl q p h.1
  | .glob d, E, X, sc, own, tst, e, O, h => by
    simp only [chk, Bool.and_eq_true] at h
    obtain ⟨p, q⟩ := globB_ok O h.2
    exact .plain rfl q p h.1
  | .var i, E, X, sc, own, tst, e, O, h => by
    simp only [chk, Bool.and_eq_true] at h
    obtain ⟨p, q⟩ := varB_ok O h.2
    exact .plain rfl q (p.imp fun σ H Q q => t_var q) h.1
  | .mov i, E, X, sc, own, tst, e, O, h => by
    simp only [chk, Bool.and_eq_true] at h
    obtain ⟨p, q⟩ := varB_ok O h.2
    exact .plain rfl q (p.imp fun σ H Q q => t_mov q) h.1
  | .peek i, E, X, sc, own, tst, e, O, h => by
    simp only [chk, Bool.and_eq_true, Bool.not_eq_true'] at h
    obtain ⟨p, q⟩ := varB_ok O h.2
    exact ⟨fun _ => ⟨fun z => by simp [isStar] at z, fun _ => ⟨q, p.imp fun σ H Q q => t_peek q⟩, fun z => by simp [isVal] at z⟩, fun ht => by rw [h.1] at ht; cases ht⟩
  | .peekF i, E, X, sc, own, tst, e, O, h => by
    simp only [chk, Bool.and_eq_true, Bool.not_eq_true'] at h
    obtain ⟨p, q⟩ := varB_ok O h.2
    exact ⟨fun _ => ⟨fun z => by simp [isStar] at z, fun _ => ⟨q, p.imp fun σ H Q q => t_peekF q⟩, fun z => by simp [isVal] at z⟩, fun ht => by rw [h.1] at ht; cases ht⟩
  | .star i, E, X, sc, own, tst, e, O, h => by
    simp only [chk] at h
    split at h
    · rename_i e' p
      simp only [Bool.and_eq_true, Bool.not_eq_true'] at h
      obtain ⟨⟨h1, h2⟩, h3⟩ := h
      have ih := chk_ok i false e' O h3
      exact ⟨fun _ => ⟨fun _ => ⟨e', p, i, rfl, rfl, (ih.val rfl).vl h2⟩, fun z => by simp [isStar] at z, fun z => by simp [isVal] at z⟩, fun ht => by rw [h1] at ht; cases ht⟩
    · cases h
  | .op o es, E, X, sc, own, tst, e, O, h => chk_op O (fun es' h => chkOs_ok es es' O h) h
  | .isn neg es, E, X, sc, own, tst, e, O, h => chk_isn O (fun es' h => chkOs_ok es es' O h) h
  | .neg es, E, X, sc, own, tst, e, O, h => chk_neg (fun es' h => chkOs_ok es es' O h) h
  | .notE a, E, X, sc, own, tst, e, O, h => chk_notE (fun e h => chk_ok a tst e O h) h
  | .chain o1 o2 es cs, E, X, sc, own, tst, e, O, h => chk_chain O (fun es' h => chkOs_ok es es' O h) (fun es' h => chkOs_ok cs es' O h) h
  | .andE a b, E, X, sc, own, tst, e, O, h => chk_andE (fun e h => chk_ok a tst e O h) (fun e h => chk_ok b tst e O h) h
  | .orE a b, E, X, sc, own, tst, e, O, h => chk_orE (fun e h => chk_ok a tst e O h) (fun e h => chk_ok b tst e O h) h
  | .ite c a b, E, X, sc, own, tst, e, O, h => chk_ite (fun e h => chk_ok c true e O h) (fun e h => chk_ok a false e O h) (fun e h => chk_ok b false e O h) h
  | .tup es, E, X, sc, own, tst, e, O, h => chk_tup (fun es' h => chkOs_ok es es' O h) h
  | .lst es, E, X, sc, own, tst, e, O, h => chk_lst (fun es' h => chkOs_ok es es' O h) h
  | .idx es, E, X, sc, own, tst, e, O, h => chk_idx (fun es' h => chkOs_ok es es' O h) h
  | .slc es lo hi, E, X, sc, own, tst, e, O, h => chk_slc (fun es' h => chkOs_ok es es' O h) (fun e h => chkB_ok lo e O h) (fun e h => chkB_ok hi e O h) h
  | .cb p es, E, X, sc, own, tst, e, O, h => chk_cb O (fun es' h => chkOs_ok es es' O h) h
  | .call f es, E, X, sc, own, tst, e, O, h => chk_call O (fun es' h => chkOs_ok es es' O h) h
  | .callK f es perm, E, X, sc, own, tst, e, O, h => chk_callK O (fun es' h => chkOs_ok es es' O h) h
  | .rng tup es, E, X, sc, own, tst, e, O, h => chk_rng O (fun es' h => chkOs_ok es es' O h) h
  | .lam k, E, X, sc, own, tst, e, O, h => chk_lam O h
  | .callM f es, E, X, sc, own, tst, e, O, h => chk_callM O (fun es' h => chkOs_ok es es' O h) h
  | .lcM ks vs tg i elt, E, X, sc, own, tst, e, O, h => chk_lcM O h
  | .lzip es, E, X, sc, own, tst, e, O, h => chk_lzip O (fun es' h => chkOs_ok es es' O h) h
  | .isx ex es, E, X, sc, own, tst, e, O, h => chk_isx O (fun es' h => chkOs_ok es es' O h) h
  | .fld ex a, E, X, sc, own, tst, e, O, h => chk_fld O (fun e h => chk_ok a false e O h) h
  | .frz a, E, X, sc, own, tst, e, O, h => by
    simp only [chk, Bool.and_eq_true, Bool.not_eq_true'] at h
    obtain ⟨⟨h1, h2⟩, h3⟩ := h
    have ih := chk_ok a false e O h3
    have p := (ih.val rfl).vl h2
    have ns := ((ih.val rfl).op (not_isStar h2)).1
    exact ⟨fun _ => .of rfl ns (p.imp fun σ H Q q => t_frz q), fun ht => by rw [h1] at ht; cases ht⟩
  | .lc vs tg it ifs elt, E, X, sc, own, tst, e, O, h => (chk_lc O (fun tg iter h => chkIt_ok it tg iter O h) (fun O' h => chkIfs_ok ifs _ O' h) (fun O' h => chk_ok elt false _ O' h) h).1
theorem chkOs_ok : ∀ (ies : List IE) {E : XK} {X : Cx} {sc : Scope} {own : Option Scope} (es : List Expr), XOk g N sc own Φ E X → chkOs g N ies sc es = true → OkOs X Φ E ies es
  | [], E, X, sc, own, es, O, h => by
    simp only [chkOs] at h
    cases es with
    | nil => trivial
    | cons _ _ => simp at h
  | a :: as, E, X, sc, own, es, O, h => by
    cases es with
    | nil => simp [chkOs] at h
    | cons e es =>
      simp only [chkOs, Bool.and_eq_true] at h
      exact ⟨(chk_ok a false e O h.1.2).val rfl, chkOs_ok as es O h.2⟩
theorem chkB_ok : ∀ (bs : List IE) {E : XK} {X : Cx} {sc : Scope} {own : Option Scope} (e : Option Expr), XOk g N sc own Φ E X → chkB g N bs sc e = true → OkB X Φ E bs e
  | [], E, X, sc, own, e, O, h => by
    simp only [chkB] at h
    cases e with
    | none => exact ⟨fun pins s σ H Q I q => po_none.run pins s σ H Q I (t_bd0 q)⟩
    | some _ => simp at h
  | [a], E, X, sc, own, e, O, h => by
    simp only [chkB] at h
    cases e with
    | none => cases h
    | some e =>
      simp only [Bool.and_eq_true] at h
      have ih := ((chk_ok a false e O h.2).val rfl).vl h.1
      exact ⟨fun pins s σ H Q I q => (po_some ih).run pins s σ H Q I (t_bd1 q)⟩
  | _ :: _ :: _, E, X, sc, own, e, O, h => by simp [chkB] at h
theorem chkIfs_ok : ∀ (bs : List IE) {E : XK} {X : Cx} {sc : Scope} {own : Option Scope} (es : List Expr), XOk g N sc own Φ E X → chkIfs g N bs sc es = true → PTs X es (tIfs X.K Φ E bs)
  | [], E, X, sc, own, es, O, h => by
    simp only [chkIfs] at h
    cases es with
    | nil => exact pts_nil.imp fun σ H Q q => t_ifs0 q
    | cons _ _ => simp at h
  | [a], E, X, sc, own, es, O, h => by
    simp only [chkIfs] at h
    split at h
    · rename_i e
      simp only [Bool.and_eq_true] at h
      exact (pts_one ((chk_ok a true e O h.2).tst rfl h.1).1).imp fun σ H Q q => t_ifs1 q
    · cases h
  | _ :: _ :: _, E, X, sc, own, es, O, h => by simp [chkIfs] at h
theorem chkIt_ok : ∀ (it : It) {E : XK} {X : Cx} {sc : Scope} {own : Option Scope} (tg iter : Expr), XOk g N sc own Φ E X → chkIt g N it sc tg iter = true → PI X tg iter (tIt X.K Φ E it)
  | .seq es, E, X, sc, own, tg, iter, O, h => chk_it (es := es) (.inl rfl) O (fun es' h => chkOs_ok es es' O h) h
  | .range es, E, X, sc, own, tg, iter, O, h => chk_it (es := es) (.inr (.inl rfl)) O (fun es' h => chkOs_ok es es' O h) h
  | .enum es, E, X, sc, own, tg, iter, O, h => chk_it (es := es) (.inr (.inr (.inl rfl))) O (fun es' h => chkOs_ok es es' O h) h
  | .zip es, E, X, sc, own, tg, iter, O, h => chk_it (es := es) (.inr (.inr (.inr rfl))) O (fun es' h => chkOs_ok es es' O h) h
end
end Mi
end

section
set_option Elab.async false
set_option linter.all false
set_option maxRecDepth 100000
/-! The check of statements. -/
namespace Mi
open PySem PySem.Spec PyProof.Rows L2
variable [LT] [fr : Fr]
variable {Φ : Fns} {E : XK} {X : Cx} {g : Gx} {N : List Str} {sc : Scope} {lkN : List Nat}
def isComp : Expr → Bool
  | .ListComp _ _ _ _ => true
  | .SetComp _ _ _ _ => true
  | .DictComp _ _ _ _ _ => true
  | _ => false
theorem sw_plain {e : Expr} {t : Option Expr} {l : Nat} {env : PySem.Env} (h : isComp e = false) : swapsWith e t l env = pure false := by
  cases e <;> first | rfl | (simp [isComp] at h; done)
/-- the names that a, b = x, y stores from the right -/
def parName (sc : Scope) (line : Nat) : Expr → Option Str
  | .Name id pos => if sc.names.lookup id == some .local && pos.line == line then some id else none
  | _ => none
def parNames (sc : Scope) (ts : List Expr) : List Str := ts.filterMap (parName sc ((ts.head?.map (·.pos.line)).getD 0))
theorem parNames_of {ts : List Expr} (f : Expr → Option Str) (h : ∀ e, f e = parName sc ((ts.head?.map (·.pos.line)).getD 0) e) : ts.filterMap f = parNames sc ts := by
  unfold parNames
  rw [funext h]
def parOk (sc : Scope) (ts vs : List Expr) : Bool := decide (sc.kind = .function) && (ts.length == 2 || ts.length == 3) && vs.length == ts.length && noStar vs && (parNames sc ts).length == ts.length && (parNames sc ts).eraseDups.length == (parNames sc ts).length && !vs.all (foldedForSure 8) && !vs.all (constantsAlone 8)
def parNot (sc : Scope) (ts vs : List Expr) : Bool := decide (sc.kind = .function) && (vs.all (foldedForSure 8) || (!(ts.length == 2 || ts.length == 3) || vs.length != ts.length || (parNames sc ts).length != ts.length))
theorem starred_any {vs : List Expr} (f : Expr → Bool) (hf : ∀ e, f e = isStarred e) (h : noStar vs = true) : vs.any f = false := by
  rw [funext hf]
  induction vs with
  | nil => rfl
  | cons e es ih =>
    obtain ⟨h1, h2⟩ := noStar_cons h
    rw [List.any_cons, ih h2, h1]
    rfl
theorem par_some {ts vs : List Expr} {kt k2 : Nat} {pt pt2 : Pos} {env : PySem.Env} (he : env.scope = sc) (h : parOk sc ts vs = true) : swappedStores [.Tuple ts kt pt] (.Tuple vs k2 pt2) env = pure (some (parNames sc ts)) := by
  unfold parOk at h
  simp only [Bool.and_eq_true, Bool.not_eq_true', decide_eq_true_eq] at h
  obtain ⟨⟨⟨⟨⟨⟨⟨h1, h2⟩, h3⟩, h4⟩, h5⟩, h6⟩, h7⟩, h8⟩ := h
  have hb : env.blockKind = .function := by unfold Env.blockKind; rw [he, h1]; rfl
  have hk : ∀ x, env.kindOf x = sc.names.lookup x := fun x => by unfold Env.kindOf; rw [he]
  unfold swappedStores
  have e3 : (vs.length != ts.length) = false := by rw [bne, h3]; rfl
  have e5 : ((parNames sc ts).length != ts.length) = false := by rw [bne, h5]; rfl
  have e6 : ((parNames sc ts).eraseDups.length != (parNames sc ts).length) = false := by rw [bne, h6]; rfl
  simp only [pure_bind]
  rw [parNames_of (sc := sc) (ts := ts) _ (fun e => by cases e <;> first | rfl | (simp only [hk]; rfl))]
  simp only [hb, h2, e3, e5, e6, h7, h8]
  rw [starred_any _ (fun e => by cases e <;> rfl) h4]
  rfl
theorem par_none {ts vs : List Expr} {kt k2 : Nat} {pt pt2 : Pos} {env : PySem.Env} (he : env.scope = sc) (h : parNot sc ts vs = true) : swappedStores [.Tuple ts kt pt] (.Tuple vs k2 pt2) env = pure none := by
  unfold parNot at h
  simp only [Bool.and_eq_true, decide_eq_true_eq] at h
  obtain ⟨h1, h2⟩ := h
  have hb : env.blockKind = .function := by unfold Env.blockKind; rw [he, h1]; rfl
  have hk : ∀ x, env.kindOf x = sc.names.lookup x := fun x => by unfold Env.kindOf; rw [he]
  unfold swappedStores
  simp only [pure_bind]
  rw [parNames_of (sc := sc) (ts := ts) _ (fun e => by cases e <;> first | rfl | (simp only [hk]; rfl))]
  simp only [hb]
  rw [Bool.or_eq_true] at h2
  rcases h2 with h2 | h2
  · split
    · rfl
    · split
      · rfl
      · split
        · rfl
        · simp only [h2, if_true]
  rw [Bool.or_eq_true] at h2
  rcases h2 with h2 | h2
  · have e : (!(ts.length == 2 || ts.length == 3) || vs.length != ts.length || (ScopeKind.function != ScopeKind.function)) = true := by rw [h2]; rfl
    simp only [e, if_true]
  · split
    · rfl
    · split
      · rfl
      · have e : ((parNames sc ts).length != ts.length || (parNames sc ts).eraseDups.length != (parNames sc ts).length) = true := by rw [h2]; rfl
        simp only [e, if_true]
def isTupE : Expr → Bool
  | .Tuple _ _ _ => true
  | .List _ _ => true
  | _ => false
theorem swp_plain {tg e : Expr} {env : PySem.Env} (h : isTupE tg = false ∨ isTup e = false) : swappedStores [tg] e env = pure none := by
  rcases h with h | h
  · cases tg <;> first | rfl | (simp [isTupE] at h; done)
  · cases e <;> first | (cases tg <;> rfl) | (simp [isTup] at h; done)
/-- name = [.. for ..]: does the store come ahead of the block's end -/
def swB (sc : Scope) (y : Str) (pyl : Nat) (scope : Scope) (pl : Nat) : Bool := sc.names.lookup y == some .local && pyl == pl && !(scope.names.any fun (n, k) => n == y && (k == .local || k == .cell))
theorem sw_is {elt : Expr} {gs : List Comprehension} {scope : Scope} {pos py : Pos} {y : Str} {l : Nat} {env : PySem.Env} (he : env.scope = sc) (hk : sc.kind = .function) : swapsWith (.ListComp elt gs scope pos) (some (.Name y py)) l env = pure (swB sc y py.line scope pos.line) := by
  have ky : env.kindOf y = sc.names.lookup y := by unfold Env.kindOf; rw [he]
  have hb : env.blockKind = .function := by unfold Env.blockKind; rw [he, hk]; rfl
  unfold swapsWith swB
  simp only [hb, ky, Expr.pos]
  rfl
def slotName (N : List Str) (sc : Scope) (i : Nat) : Expr → Bool
  | .Name x _ => N[i]? == some x && (sc.names.lookup x == some .local || sc.names.lookup x == some .cell)
  | _ => false
def allIx (N : List Str) : List Nat → List Str → Bool
  | [], [] => true
  | i :: is, n :: ns => N[i]? == some n && allIx N is ns
  | _, _ => false
theorem allIx_ok : ∀ {is : List Nat} {ns : List Str}, allIx N is ns = true → is.length = ns.length ∧ ∀ (j : Nat) n, ns[j]? = some n → ∃ i, is[j]? = some i ∧ N[i]? = some n
  | [], [], _ => ⟨rfl, fun j n h => by simp at h⟩
  | i :: is, n :: ns, h => by
    simp only [allIx, Bool.and_eq_true] at h
    obtain ⟨h1, h2⟩ := allIx_ok h.2
    refine ⟨by simp [h1], fun j m hj => ?_⟩
    cases j with
    | zero =>
      simp at hj
      subst hj
      exact ⟨i, rfl, by simpa using h.1⟩
    | succ j =>
      obtain ⟨k, e1, e2⟩ := h2 j m (by simpa using hj)
      exact ⟨k, by simpa using e1, e2⟩
  | [], _ :: _, h => by simp [allIx] at h
  | _ :: _, [], h => by simp [allIx] at h
theorem parNames_local {ts : List Expr} {x : Str} (h : x ∈ parNames sc ts) : sc.names.lookup x = some .local := by
  unfold parNames at h
  obtain ⟨e, he, hx⟩ := List.mem_filterMap.mp h
  unfold parName at hx
  split at hx
  · split at hx
    · rename_i hc
      cases hx
      simp only [Bool.and_eq_true] at hc
      simpa using hc.1
    · cases hx
  · cases hx
def augB (sub : Bool) : Operator → Bool
  | .Add => !sub
  | .Sub => sub
  | _ => false
def isSlot : Tg → Bool
  | .slot _ => true
  | _ => false
def isLc : IE → Bool
  | .lc _ _ _ _ _ => true
  | _ => false
mutual
def chkS (g : Gx) (N : List Str) (sc : Scope) : IS → Stmt → Bool
  | .ex e, st => match st with
    | .Expr x _ => !isComp x && isVal e && chk g N e false sc x
    | _ => false
  | .asg tg e, st => match st with
    | .Assign [t] x pos => match x with
      | .ListComp elt gs scope p => match t with
        | .Name y py => decide (sc.kind = .function) && chkG N sc none tg t && isVal e && chk g N e false sc x && isSlot tg && isLc e
        | _ => false
      | .Tuple vs _ _ => match t with
        | .Tuple ts _ _ => noStar ts && parNot sc ts vs && chkG N sc none tg t && isVal e && chk g N e false sc x
        | .Name _ _ => chkG N sc none tg t && isVal e && chk g N e false sc x
        | _ => false
      | _ => !isComp x && !isTup x && !isStarred t && chkG N sc none tg t && isVal e && chk g N e false sc x
    | _ => false
  | .par is es, st => match st with
    | .Assign [.Tuple ts _ _] (.Tuple vs _ _) _ => parOk sc ts vs && allIx N is (parNames sc ts) && chkOs g N es sc vs
    | _ => false
  | .seti i e ix, st => match st with
    | .Assign [.Subscript o x _] v _ => plainIx x && !isComp v && varB N sc i o && isVal e && isVal ix && chk g N e false sc v && chk g N ix false sc x
    | _ => false
  | .app i e, st => match st with
    | .Expr (.Call (.Attribute o n apos) [a] [] cpos) _ => decide (n = Str.ofString "append") && varB N sc i o && (match o with | .Name _ _ => true | _ => false) && (apos.endLine == cpos.line) && !isStarred a && isVal e && chk g N e false sc a
    | _ => false
  | .appi i ix e, st => match st with
    | .Expr (.Call (.Attribute (.Subscript o x _) n apos) [a] [] cpos) _ => decide (n = Str.ofString "append") && plainIx x && varB N sc i o && (apos.endLine == cpos.line) && !isStarred a && isVal ix && isVal e && chk g N ix false sc x && chk g N e false sc a
    | _ => false
  | .ext i e, st => match st with
    | .Expr (.Call (.Attribute o n apos) [a] [] cpos) _ => decide (n = Str.ofString "extend") && varB N sc i o && (match o with | .Name _ _ => true | _ => false) && (apos.endLine == cpos.line) && !isStarred a && isVal e && chk g N e false sc a
    | _ => false
  | .aug i sub e, st => match st with
    | .AugAssign t op x _ => augB sub op && slotName N sc i t && isVal e && chk g N e false sc x
    | _ => false
  | .augi i sub ix e, st => match st with
    | .AugAssign (.Subscript o x _) op v _ => plainIx x && augB sub op && varB N sc i o && isVal ix && isVal e && chk g N ix false sc x && chk g N e false sc v
    | _ => false
  | .raise c e, st => match st with
    | .Raise (some (.Call (.Name x _) [a] [] _)) none _ => decide (x = Str.ofString c) && glB sc x && nmB x && g.exs.contains c && isVal e && chk g N e false sc a && !isStarred a
    | _ => false
  | .ret e, st => match st with
    | .Return (some x) _ => isVal e && chk g N e false sc x
    | _ => false
  | .ifs c a b, st => match st with
    | .If t p q _ => isVal c && chk g N c true sc t && chkSs g N sc a p && chkSs g N sc b q
    | _ => false
  | .for_ tg it body, st => match st with
    | .For t iter p [] _ => plainIter iter && chkG N sc none tg t && chkIt g N it sc t iter && chkSs g N sc body p
    | _ => false
  | .while_ c body, st => match st with
    | .While t p [] _ => isVal c && chk g N c true sc t && chkSs g N sc body p
    | _ => false
  | .tryA ex k b i j, st => match st with
    | .Try [.Assign [.Name y py] (.Call (.Name a p1) [] [] p2) _] [.ExceptHandler (some (.Name x _)) (some n) [.Assign [.Name y2 py2] (.Name z p3) _] _] [] [] _ =>
      !ex.isEmpty && ex.all (fun c => g.exs.contains c) && decide (x = Str.ofString "FireError") && nmB x && glB sc x && varB N sc k (.Name a p1) && slotName N sc b (.Name y py) && N[i]? == some n && sc.names.lookup n == some .local && slotName N sc j (.Name y2 py2) && varB N sc i (.Name z p3)
    | _ => false
  | .tryR ex k i, st => match st with
    | .Try [.Expr (.Call (.Name a p1) [] [] p2) _] [.ExceptHandler (some (.Name x _)) (some n) [.Return (some (.Name z p3)) _] _] [] [] _ =>
      !ex.isEmpty && ex.all (fun c => g.exs.contains c) && decide (x = Str.ofString "FireError") && nmB x && glB sc x && varB N sc k (.Name a p1) && N[i]? == some n && sc.names.lookup n == some .local && varB N sc i (.Name z p3)
    | _ => false
  | .never, _ => true
def chkSs (g : Gx) (N : List Str) (sc : Scope) : List IS → List Stmt → Bool
  | [], sts => sts.isEmpty
  | s :: r, sts => match sts with
    | st :: sts => chkS g N sc s st && chkSs g N sc r sts
    | [] => false
end
end Mi
end

section
set_option Elab.async false
set_option linter.all false
set_option maxRecDepth 100000
namespace Mi
open PySem PySem.Spec PyProof.Rows L2
variable [LT] [fr : Fr]
variable {Φ : Fns} {E : XK} {X : Cx} {g : Gx} {N : List Str} {sc : Scope} {lkN : List Nat}
structure SOk (g : Gx) (N : List Str) (sc : Scope) (Φ : Fns) (E : XK) (X : Cx) : Prop where
  ok : XOk g N sc none Φ E X
  po : PassesOwn (model X.prog X.w) X.A X.env X.xe
  tk : Takes X (fun cls d _ H => E cls d H)
  room : Room 2 X.A
  exs : ∀ c ∈ g.exs, X.mg (Str.ofString c) = some (.ref (He.ga X.K (Str.ofString c))) ∧ FireC X.K X.mg X.prog (He.ga X.K (Str.ofString c))
  hs : X.stack = X.env :: X.outer
  hf : X.env.frame = some X.env.locals
  hx : X.ex = []
  lam : ∃ kk, Room kk X.A ∧ ∀ j params e scope q, LT.ok j params e scope q → LamP X.prog X.w X.K X.mg X.base kk j (spI X.K Φ j)
  fe : ∀ c ∈ g.exs, X.mg (Str.ofString "FireError") = some (.ref (He.ga X.K (Str.ofString "FireError"))) ∧ PySem.W.exmOne X.K (.ref (He.ga X.K (Str.ofString c))) (.ref (He.ga X.K (Str.ofString "FireError"))) = some true
theorem tI_mono {K : PySem.W.Frag} {ie : IE} {σ : L2.St} {H : Hp} {Q Q' : VK} (h : tI K Φ E ie σ H Q) (hq : ∀ x H, Q x H → Q' x H) : tI K Φ E ie σ H Q' := by
  obtain ⟨B, lk, F, ρ, fps, ts, S, o⟩ := h
  exact ⟨B, lk, F, ρ, fps, ts, S, o.imp fun d ρ' q v fp F' H' fps' S' => hq _ _ (q v fp F' H' fps' S')⟩
theorem asg_one {t : Expr} {env : PySem.Env} (h : isStarred t = false) : (assignEach [t] env).map (·.2) = [assign t env] := by
  rw [asg_each h]
  rfl
theorem swSole {t x : Expr} {l : Nat} {env : PySem.Env} : swapsWithSole [t] x l env = swapsWith x (some t) l env := rfl
theorem chk_pe (S : SOk g N sc Φ E X) {e : IE} {x : Expr} (hv : isVal e = true) (h : chk g N e false sc x = true) : PE X x (tI X.K Φ E e) := ((chk_ok e false x S.ok h).val rfl).vl hv
theorem chk_pt (S : SOk g N sc Φ E X) {e : IE} {x : Expr} (hv : isVal e = true) (h : chk g N e true sc x = true) : PT X x (tT X.K Φ E e) := ((chk_ok e true x S.ok h).tst rfl hv).1
theorem chkG_nostar {tg : Tg} {t : Expr} (h : chkG N sc none tg t = true) : isStarred t = false := by
  cases t <;> first | rfl | (cases tg <;> simp [chkG] at h)
theorem plain_asg (S : SOk g N sc Φ E X) {tg : Tg} {e : IE} {t x : Expr} {pos : Pos} (hc : isComp x = false) (hw : swappedStores [t] x X.env = pure none) (hg : chkG N sc none tg t = true) (hv : isVal e = true) (h : chk g N e false sc x = true) : PS X (.Assign [t] x pos) (tS X.K Φ E lkN (.asg tg e)) :=
  (ps_asg (chk_pe S hv h) (chkG_ok (lkN := lkN) S.ok tg t hg) (by rw [swSole, sw_plain hc]) hw (asg_one (chkG_nostar hg))).imp fun D' σ H q => ts_asg q
theorem chkS_asg (S : SOk g N sc Φ E X) {tg : Tg} {e : IE} {st : Stmt} (h : chkS g N sc (.asg tg e) st = true) : PS X st (tS X.K Φ E lkN (.asg tg e)) := by
  simp only [chkS] at h
  split at h
  · rename_i t x pos
    split at h
    · rename_i elt gs scope p
      split at h
      · rename_i y py
        simp only [Bool.and_eq_true, decide_eq_true_eq] at h
        obtain ⟨⟨⟨⟨⟨h1, h2⟩, h3⟩, h4⟩, h5⟩, h6⟩ := h
        have hs := sw_is (elt := elt) (gs := gs) (scope := scope) (pos := p) (py := py) (y := y) (l := pos.line) S.ok.hsc h1
        cases hb : swB sc y py.line scope p.line with
        | false =>
          rw [hb] at hs
          exact (ps_asg (chk_pe S h3 h4) (chkG_ok (lkN := lkN) S.ok tg _ h2) (by rw [swSole]; exact hs) (swp_plain (.inl rfl)) (asg_one rfl)).imp fun D' σ H q => ts_asg q
        | true =>
          rw [hb] at hs
          unfold swB at hb
          simp only [Bool.and_eq_true] at hb
          have hy : sc.names.lookup y = some .local := by simpa using hb.1.1
          cases e <;> try (simp [isLc] at h6; done)
          rename_i vs tg' it ifs elt'
          cases tg <;> try (simp [isSlot] at h5; done)
          rename_i i
          simp only [chkG, Bool.and_eq_true] at h2
          have hi : N[i]? = some y := by simpa using h2.1
          obtain ⟨_, elt2, gen, scope2, pos2, e1, a0, bk, pl, p1, p2, p3, p4, ev, hsl⟩ := chk_lc S.ok (fun tg iter h => chkIt_ok it tg iter S.ok h) (fun O' h => chkIfs_ok ifs _ O' h) (fun O' h => chk_ok elt' false _ O' h) h4
          cases e1
          obtain ⟨tgt, iter, ifs2, a⟩ := gen
          subst a0
          subst ev
          refine (ps_setLc S.ok.calm (by rw [S.ok.hN]; exact S.ok.nd) (by rw [S.ok.hN]; exact hi) (by rw [S.ok.hsc]; exact hy) hs p1 bk p2 p3 p4 (plainIter_ok pl)).imp fun D' σ H q => ?_
          exact t_lc hsl (tI_mono (ts_asg q) fun x H1 q => g_slot q)
      · cases h
    · rename_i vs k2 pt2
      split at h
      · rename_i ts kt pt
        simp only [Bool.and_eq_true] at h
        obtain ⟨⟨⟨⟨h1, h2⟩, h3⟩, h4⟩, h5⟩ := h
        exact plain_asg S rfl (par_none S.ok.hsc h2) h3 h4 h5
      · simp only [Bool.and_eq_true] at h
        obtain ⟨⟨h3, h4⟩, h5⟩ := h
        exact plain_asg S rfl (swp_plain (.inl rfl)) h3 h4 h5
      · cases h
    · simp only [Bool.and_eq_true, Bool.not_eq_true'] at h
      obtain ⟨⟨⟨⟨⟨h1, h2⟩, h3⟩, h4⟩, h5⟩, h6⟩ := h
      exact plain_asg S h1 (swp_plain (.inr h2)) h4 h5 h6
  · cases h
theorem chkS_par (S : SOk g N sc Φ E X) {is : List Nat} {es : List IE} {st : Stmt} (h : chkS g N sc (.par is es) st = true) : PS X st (tS X.K Φ E lkN (.par is es)) := by
  simp only [chkS] at h
  split at h
  · rename_i ts kt pt vs k2 pt2 pos
    simp only [Bool.and_eq_true] at h
    obtain ⟨⟨h1, h2⟩, h3⟩ := h
    obtain ⟨l1, l2⟩ := allIx_ok h2
    have pa := pa_of (chkOs_ok es vs S.ok h3)
    have hl : vs.length = (parNames sc ts).length := by
      unfold parOk at h1
      simp only [Bool.and_eq_true] at h1
      obtain ⟨⟨⟨⟨⟨⟨⟨_, _⟩, e1⟩, _⟩, e2⟩, _⟩, _⟩, _⟩ := h1
      have e1 : vs.length = ts.length := by simpa using e1
      have e2 : (parNames sc ts).length = ts.length := by simpa using e2
      rw [e1, e2]
    refine (ps_parN S.ok.calm (by rw [S.ok.hN]; exact S.ok.nd) l1 hl (fun j n hj => ?_) pa (par_some S.ok.hsc h1) (by rw [swSole]; rfl)).imp fun D' σ H q => ts_par q
    obtain ⟨i, e1, e2⟩ := l2 j n hj
    refine ⟨i, e1, by rw [S.ok.hN]; exact e2, ?_⟩
    rw [S.ok.hsc]
    exact parNames_local (List.mem_of_getElem? hj)
  · cases h
theorem chkS_seti (S : SOk g N sc Φ E X) {i : Nat} {e ix : IE} {st : Stmt} (h : chkS g N sc (.seti i e ix) st = true) : PS X st (tS X.K Φ E lkN (.seti i e ix)) := by
  simp only [chkS] at h
  split at h
  · rename_i o x sp v pos
    simp only [Bool.and_eq_true, Bool.not_eq_true'] at h
    obtain ⟨⟨⟨⟨⟨⟨h0, h1⟩, h2⟩, h3⟩, h4⟩, h5⟩, h6⟩ := h
    exact (ps_asg (chk_pe S h3 h5) (pg_sub (varB_ok S.ok h2).1 (chk_pe S h4 h6) set_list (fun v => by cases x <;> first | rfl | (simp [plainIx] at h0; done))) (by rw [swSole, sw_plain h1]) (swp_plain (.inl rfl)) (asg_one rfl)).imp fun D' σ H q => ts_seti q
  · cases h
theorem base_name {o : Expr} {n : Str} {env : PySem.Env} (h : (match o with | .Name _ _ => true | _ => false) = true) : attributeBase o n env (eval o env) = eval o env := by
  cases o <;> first | rfl | (simp at h; done)
theorem few_one {a : Expr} {cpos : Pos} {env : PySem.Env} (h : isStarred a = false) : ((backTo cpos (starEach [a] env)).all (fun x => !x.1) && (backToKw cpos (keywordEach [] env)).all (fun x => x.1.isSome)
      && decide ([a].length + ([] : List Keyword).length + (if ([] : List Keyword).isEmpty then 0 else 1) < 30)) = true := by
  rw [star_each h]
  rfl
theorem chkS_app (S : SOk g N sc Φ E X) {i : Nat} {e : IE} {st : Stmt} (h : chkS g N sc (.app i e) st = true) : PS X st (tS X.K Φ E lkN (.app i e)) := by
  simp only [chkS] at h
  split at h
  · rename_i o n apos a cpos pos
    simp only [Bool.and_eq_true, Bool.not_eq_true', decide_eq_true_eq] at h
    obtain ⟨⟨⟨⟨⟨⟨rfl, h2⟩, h3⟩, h4⟩, h5⟩, h6⟩, h7⟩ := h
    exact (ps_expr (pe_bm PySem.F.plainAttrs_list PySem.F.slot_list_append PySem.F.type_list_append mt_append (varB_ok S.ok h2).1 (pa_cons (chk_pe S h6 h7) pa_nil (star_each h5)) (base_name h3) (few_one h5) h4 (star_each h5) rfl) rfl).imp fun D' σ H q => ts_app q
  · cases h
theorem chkS_raise (S : SOk g N sc Φ E X) {c : String} {e : IE} {st : Stmt} (h : chkS g N sc (.raise c e) st = true) : PS X st (tS X.K Φ E lkN (.raise c e)) := by
  simp only [chkS] at h
  split at h
  · rename_i x p a cpos pos
    simp only [Bool.and_eq_true, Bool.not_eq_true', decide_eq_true_eq] at h
    obtain ⟨⟨⟨⟨⟨⟨rfl, h1⟩, h2⟩, h3⟩, h4⟩, h5⟩, h6⟩ := h
    have hc : c ∈ g.exs := by simpa using h3
    obtain ⟨hm, T⟩ := S.exs c hc
    have hdb : (Str.ofString c == ("__debug__" : Str)) = false := by
      unfold nmB at h2
      simp only [Bool.and_eq_true, Bool.not_eq_true'] at h2
      exact h2.1.1
    exact (ps_raise S.ok.calm S.tk (pmk_fire T S.room (glB_ok S.ok h1) hm (pa_cons (chk_pe S h4 h5) pa_nil (star_each h6)) hdb (star_each h6))).imp fun D' σ H q => ts_raise q
  · cases h
theorem chkS_appi (S : SOk g N sc Φ E X) {i : Nat} {ix e : IE} {st : Stmt} (h : chkS g N sc (.appi i ix e) st = true) : PS X st (tS X.K Φ E lkN (.appi i ix e)) := by
  simp only [chkS] at h
  split at h
  · rename_i o x sp n apos a cpos pos
    simp only [Bool.and_eq_true, Bool.not_eq_true', decide_eq_true_eq] at h
    obtain ⟨⟨⟨⟨⟨⟨⟨⟨rfl, h0⟩, h2⟩, h4⟩, h5⟩, h6⟩, h7⟩, h8⟩, h9⟩ := h
    exact (ps_expr (pe_bm PySem.F.plainAttrs_list PySem.F.slot_list_append PySem.F.type_list_append mt_append (pe_ix ix_list (varB_ok S.ok h2).1 (chk_pe S h6 h8) (plainIx_ok h0)) (pa_cons (chk_pe S h7 h9) pa_nil (star_each h5)) rfl (few_one h5) h4 (star_each h5) rfl) rfl).imp fun D' σ H q => ts_appi q
  · cases h
theorem chkS_ext (S : SOk g N sc Φ E X) {i : Nat} {e : IE} {st : Stmt} (h : chkS g N sc (.ext i e) st = true) : PS X st (tS X.K Φ E lkN (.ext i e)) := by
  simp only [chkS] at h
  split at h
  · rename_i o n apos a cpos pos
    simp only [Bool.and_eq_true, Bool.not_eq_true', decide_eq_true_eq] at h
    obtain ⟨⟨⟨⟨⟨⟨rfl, h2⟩, h3⟩, h4⟩, h5⟩, h6⟩, h7⟩ := h
    exact (ps_expr (pe_bm PySem.F.plainAttrs_list PySem.F.slot_list_extend PySem.F.type_list_extend mt_extend (varB_ok S.ok h2).1 (pa_cons (chk_pe S h6 h7) pa_nil (star_each h5)) (base_name h3) (few_one h5) h4 (star_each h5) rfl) rfl).imp fun D' σ H q => ts_ext q
  · cases h
theorem ip_of {sub : Bool} {op : Operator} (h : augB sub op = true) : PIp X op (ipI fun a b => if sub then a - b else a + b) := by
  unfold augB at h
  split at h
  · have e : sub = false := by simpa using h
    subst e
    exact ip_add
  · subst h
    exact ip_sub
  · cases h
theorem chkS_aug (S : SOk g N sc Φ E X) {i : Nat} {sub : Bool} {e : IE} {st : Stmt} (h : chkS g N sc (.aug i sub e) st = true) : PS X st (tS X.K Φ E lkN (.aug i sub e)) := by
  simp only [chkS] at h
  split at h
  · rename_i t op x pos
    simp only [Bool.and_eq_true] at h
    obtain ⟨⟨⟨h1, h2⟩, h3⟩, h4⟩ := h
    unfold slotName at h2
    split at h2
    · rename_i y p
      simp only [Bool.and_eq_true] at h2
      have hi : N[i]? = some y := by simpa using h2.1
      have hl : L2.Loc X.env.scope y := by
        rw [S.ok.hsc]
        have := h2.2
        simpa [L2.Loc] using this
      exact (ps_aug (by rw [S.ok.hN]; exact S.ok.nd) (by rw [S.ok.hN]; exact hi) hl (chk_pe S h3 h4) (ip_of h1) (.inl (S.ok.fnm y rfl))).imp fun D' σ H q => ts_aug q
    · cases h2
  · cases h
theorem chkS_augi (S : SOk g N sc Φ E X) {i : Nat} {sub : Bool} {ix e : IE} {st : Stmt} (h : chkS g N sc (.augi i sub ix e) st = true) : PS X st (tS X.K Φ E lkN (.augi i sub ix e)) := by
  simp only [chkS] at h
  split at h
  · rename_i o x sp op v pos
    simp only [Bool.and_eq_true] at h
    obtain ⟨⟨⟨⟨⟨⟨h0, h1⟩, h2⟩, h3⟩, h4⟩, h5⟩, h6⟩ := h
    exact (ps_augS (varB_ok S.ok h2).1 (chk_pe S h3 h5) pget_list (chk_pe S h4 h6) (ip_of h1) set_list (fun ov iv new => by cases x <;> first | rfl | (simp [plainIx] at h0; done))).imp fun D' σ H q => ts_augi q
  · cases h
theorem var_is (S : SOk g N sc Φ E X) {i : Nat} {a : Str} {p : Pos} (h : varB N sc i (.Name a p) = true) : X.N[i]? = some a ∧ Vis X.env.scope a ∧ (a == ("__debug__" : Str)) = false ∧ (a == ("__classdict__" : Str)) = false := by
  simp only [varB, Bool.and_eq_true] at h
  obtain ⟨⟨h1, h2⟩, h3⟩ := h
  obtain ⟨n1, n2, n3⟩ := nmB_ok h3
  exact ⟨by rw [S.ok.hN]; simpa using h1, by rw [S.ok.hsc]; exact visB_ok h2, n1, n2⟩
theorem slot_is (S : SOk g N sc Φ E X) {i : Nat} {y : Str} {p : Pos} (h : slotName N sc i (.Name y p) = true) : X.N[i]? = some y ∧ L2.Loc X.env.scope y ∧ X.fn y = true := by
  simp only [slotName, Bool.and_eq_true] at h
  refine ⟨by rw [S.ok.hN]; simpa using h.1, ?_, S.ok.fnm y rfl⟩
  rw [S.ok.hsc]
  have := h.2
  simpa [L2.Loc] using this
theorem fire_is (S : SOk g N sc Φ E X) {ex : List String} {x : Str} (h1 : ex.isEmpty = false) (h2 : ex.all (fun c => g.exs.contains c) = true) (hx : x = Str.ofString "FireError") (h3 : nmB x = true) (h4 : glB sc x = true) :
    Names X x (.ref (He.ga X.K (Str.ofString "FireError"))) ∧ ∀ c ∈ ex, PySem.W.exmOne X.K (.ref (He.ga X.K (Str.ofString c))) (.ref (He.ga X.K (Str.ofString "FireError"))) = some true := by
  subst hx
  have hc := fun c hc => S.fe c (all_mem h2 c hc)
  refine ⟨⟨glB_ok S.ok h4, (nmB_ok h3).1, .inl ?_⟩, fun c h => (hc c h).2⟩
  cases ex with
  | nil => simp at h1
  | cons c r => exact (hc c (List.mem_cons_self ..)).1
theorem chkS_tryA (S : SOk g N sc Φ E X) {ex : List String} {k b i j : Nat} {st : Stmt} (h : chkS g N sc (.tryA ex k b i j) st = true) : PS X st (tS X.K Φ E lkN (.tryA ex k b i j)) := by
  simp only [chkS] at h
  split at h
  · simp only [Bool.and_eq_true, Bool.not_eq_true', decide_eq_true_eq] at h
    obtain ⟨⟨⟨⟨⟨⟨⟨⟨⟨⟨h1, h2⟩, h3⟩, h4⟩, h5⟩, h6⟩, h7⟩, h8⟩, h9⟩, h10⟩, h11⟩ := h
    obtain ⟨nm, hc⟩ := fire_is S h1 h2 h3 h4 h5
    obtain ⟨a1, a2, a3, a4⟩ := var_is S h6
    obtain ⟨b1, b2, b3⟩ := slot_is S h7
    obtain ⟨c1, c2, c3⟩ := slot_is S h10
    obtain ⟨d1, d2, d3, d4⟩ := var_is S h11
    obtain ⟨kk, hr, hL⟩ := S.lam
    have nd : X.N.Nodup := by rw [S.ok.hN]; exact S.ok.nd
    refine (ps_try_keep (i := i) (tb := tbA k b (spI X.K Φ)) (ts := tsA i j) S.hs S.hf S.hx nd (by rw [S.ok.hN]; simpa using h8) (by unfold Env.kindOf; rw [S.ok.hsc]; simpa using h9) nm S.tk
      (fun W pn xe tkW => pss_one (ps_asg (pe_actC (X := X.tr pn xe) (W := W) hL hr S.ok.gds tkW (fun σ cls d H h => h) a1 a2 a3 a4) (pg_name (X := X.tr pn xe) nd b1 b2 (.inl b3))))
      (fun a oe cls d pn _ _ => pss_one (ps_asg (pe_var (X := X.suite a ((a, oe) :: pn)) d1 d2 d3 d4) (pg_name (X := X.suite a ((a, oe) :: pn)) nd c1 c2 (.inl c3))))).imp fun D' σ H q => ts_tryA hc q
  · cases h
theorem chkS_tryR (S : SOk g N sc Φ E X) {ex : List String} {k i : Nat} {st : Stmt} (h : chkS g N sc (.tryR ex k i) st = true) : PS X st (tS X.K Φ E lkN (.tryR ex k i)) := by
  simp only [chkS] at h
  split at h
  · simp only [Bool.and_eq_true, Bool.not_eq_true', decide_eq_true_eq] at h
    obtain ⟨⟨⟨⟨⟨⟨⟨⟨h1, h2⟩, h3⟩, h4⟩, h5⟩, h6⟩, h8⟩, h9⟩, h11⟩ := h
    obtain ⟨nm, hc⟩ := fire_is S h1 h2 h3 h4 h5
    obtain ⟨a1, a2, a3, a4⟩ := var_is S h6
    obtain ⟨d1, d2, d3, d4⟩ := var_is S h11
    obtain ⟨kk, hr, hL⟩ := S.lam
    have nd : X.N.Nodup := by rw [S.ok.hN]; exact S.ok.nd
    refine (ps_try_keep (i := i) (tb := tbR k (spI X.K Φ)) (ts := tsR i) S.hs S.hf S.hx nd (by rw [S.ok.hN]; simpa using h8) (by unfold Env.kindOf; rw [S.ok.hsc]; simpa using h9) nm S.tk
      (fun W pn xe tkW => pss_one (ps_expr (pe_actC (X := X.tr pn xe) (W := W) hL hr S.ok.gds tkW (fun σ cls d H h => h) a1 a2 a3 a4)))
      (fun a oe cls d pn _ _ => pss_one (ps_ret (pe_var (X := X.suite a ((a, oe) :: pn)) d1 d2 d3 d4)))).imp fun D' σ H q => ts_tryR hc q
  · cases h
mutual
theorem chkS_ok (S : SOk g N sc Φ E X) : ∀ (s : IS) (st : Stmt), chkS g N sc s st = true → PS X st (tS X.K Φ E lkN s)
  | .ex e, st, h => by
    simp only [chkS] at h
    split at h
    · simp only [Bool.and_eq_true, Bool.not_eq_true'] at h
      exact (ps_expr (chk_pe S h.1.2 h.2) (sw_plain h.1.1)).imp fun D' σ H q => ts_ex q
    · cases h
  | .asg tg e, st, h => chkS_asg S h
  | .par is es, st, h => chkS_par S h
  | .seti i e ix, st, h => chkS_seti S h
  | .app i e, st, h => chkS_app S h
  | .appi i ix e, st, h => chkS_appi S h
  | .ext i e, st, h => chkS_ext S h
  | .aug i sub e, st, h => chkS_aug S h
  | .augi i sub ix e, st, h => chkS_augi S h
  | .raise c e, st, h => chkS_raise S h
  | .ret e, st, h => by
    simp only [chkS] at h
    split at h
    · simp only [Bool.and_eq_true] at h
      exact (ps_ret (chk_pe S h.1 h.2)).imp fun D' σ H q => ts_ret q
    · cases h
  | .ifs c a b, st, h => by
    simp only [chkS] at h
    split at h
    · rename_i t p q pos
      simp only [Bool.and_eq_true] at h
      obtain ⟨⟨⟨h1, h2⟩, h3⟩, h4⟩ := h
      exact (ps_if (chk_pt S h1 h2) (chkSs_ok S a p h3) (chkSs_ok S b q h4)).imp fun D' σ H q => ts_if q
    · cases h
  | .for_ tg it body, st, h => by
    simp only [chkS] at h
    split at h
    · rename_i t iter p pos
      simp only [Bool.and_eq_true] at h
      obtain ⟨⟨⟨h1, h2⟩, h3⟩, h4⟩ := h
      exact (ps_for S.po S.ok.calm (chkIt_ok it t iter S.ok h3) (chkG_ok (lkN := lkN) S.ok tg t h2) (chkSs_ok S body p h4) (plainIter_ok h1)).imp fun D' σ H q => ts_for q
    · cases h
  | .while_ c body, st, h => by
    simp only [chkS] at h
    split at h
    · rename_i t p pos
      simp only [Bool.and_eq_true] at h
      obtain ⟨⟨h1, h2⟩, h3⟩ := h
      exact (ps_while S.po (chk_pt S h1 h2) (chkSs_ok S body p h3)).imp fun D' σ H q => ts_while q
    · cases h
  | .tryA ex k b i j, st, h => chkS_tryA S h
  | .tryR ex k i, st, h => chkS_tryR S h
  | .never, st, _ => ps_never.imp fun D' σ H q => ts_never q
theorem chkSs_ok (S : SOk g N sc Φ E X) : ∀ (s : List IS) (sts : List Stmt), chkSs g N sc s sts = true → PSs X sts (tSs X.K Φ E lkN s)
  | [], sts, h => by
    simp only [chkSs] at h
    cases sts with
    | nil => exact pss_nil.imp fun D' σ H q => ts_nil q
    | cons _ _ => simp at h
  | s :: r, sts, h => by
    cases sts with
    | nil => simp [chkSs] at h
    | cons st sts =>
      simp only [chkSs, Bool.and_eq_true] at h
      exact (pss_cons (chkS_ok S s st h.1) (chkSs_ok S r sts h.2)).imp fun D' σ H q => ts_cons q
end
end Mi
end

section
set_option Elab.async false
set_option linter.all false
set_option maxRecDepth 100000
/-! A def's body against its function of the small language; all defs of a text. -/
namespace Mi
open PySem PySem.Spec PyProof.Rows L2
variable [LT] [fr : Fr]
variable {K : PySem.W.Frag} {Φ : Fns} {E : XK} {B : Bs} {lk : List (Nat × V)} {F F' H H' : Hp} {σ : L2.St} {ρ : Env} {fps : List (List Addr)} {ts : List (V × Tm)} {Q : VK} {g : Gx}

theorem frz_sta : ∀ (fz : List Nat) {F : Hp} {ρ : Env} {fps : List (List Addr)}, Sta K B lk F H σ ρ fps [] → ∃ F' fps', Same F F' ∧ Sta K B lk F' H σ (frzEnv fz ρ) fps' []
  | [], F, ρ, fps, S => ⟨F, fps, Same.refl _, S⟩
  | i :: fz, F, ρ, fps, S => by
    simp only [frzEnv]
    cases e : getE ρ i with
    | none => exact frz_sta fz S
    | some d =>
      obtain ⟨v, F1, _, s1, _, S1⟩ := S.freeze e
      obtain ⟨F2, fps2, s2, S2⟩ := frz_sta fz S1
      exact ⟨F2, fps2, Same.trans s1 s2, S2⟩
theorem getE_idx {ρ : Env} {i : Nat} {d : D} : getE ρ i = some d ↔ ρ[i]? = some (some d) := by
  unfold getE
  cases e : ρ[i]? with
  | none => simp
  | some o => simp
theorem frzEnv_frozen : ∀ (fz : List Nat) {ρ : Env} {i : Nat} {d : D}, getE (frzEnv fz ρ) i = some d → i ∈ fz → d.own = false
  | j :: fz, ρ, i, d, e, h => by
    simp only [frzEnv] at e
    by_cases hi : i ∈ fz
    · split at e
      · exact frzEnv_frozen fz e hi
      · exact frzEnv_frozen fz e hi
    · have hij : i = j := by
        rcases List.mem_cons.mp h with h | h
        · exact h
        · exact absurd h hi
      subst hij
      split at e
      · rename_i d0 e0
        have hl := getE_lt e0
        have key := frzEnv_off fz hi (ρ := ρ.set i (some d0.frz))
        rw [key, getE_set_same hl] at e
        cases e
        exact D.frz_own d0
      · rename_i e0
        have key := frzEnv_off fz hi (ρ := ρ)
        rw [key, e0] at e
        cases e
where
  frzEnv_off : ∀ (fz : List Nat) {ρ : Env} {i : Nat}, i ∉ fz → getE (frzEnv fz ρ) i = getE ρ i
    | [], ρ, i, _ => rfl
    | j :: fz, ρ, i, h => by
      simp only [List.mem_cons, not_or] at h
      simp only [frzEnv]
      split
      · rw [frzEnv_off fz h.2, getE_set_ne (Ne.symm h.1)]
      · exact frzEnv_off fz h.2
theorem frzEnv_len : ∀ (fz : List Nat) (ρ : Env), (frzEnv fz ρ).length = ρ.length
  | [], ρ => rfl
  | i :: fz, ρ => by
    simp only [frzEnv]
    split
    · rw [frzEnv_len fz]; simp
    · exact frzEnv_len fz ρ
theorem out_rep {fz : List Nat} : ∀ {n i : Nat} {ρ0 ρ : Env} {fps : List (List Addr)} {vs : List V} {xs : List D}, vs.length = n → n ≤ fps.length →
    (∀ (j : Nat) d, j < n → fz.contains (i + j) = true → ρ0[j]? = some (some d) → ∃ v, vs[j]? = some v ∧ Rep K F H d v []) → (∀ (j : Nat) d, j < n → fz.contains (i + j) = false → ρ[j]? = some (some d) → ∃ v, vs[j]? = some v ∧ Rep K F H d v (fps.getD j [])) →
    outAt fz i n ρ0 ρ = some xs → ∃ fs, RepP K F H xs vs fs ∧ SubP fs.flatten fps.flatten
  | 0, i, ρ0, ρ, fps, vs, xs, hv, hn, h0, h1, e => by
    obtain rfl : vs = [] := List.eq_nil_of_length_eq_zero hv
    simp only [outAt] at e
    cases e
    exact ⟨[], trivial, ⟨fps.flatten, by simp⟩⟩
  | n + 1, i, ρ0, ρ, fps, vs, xs, hv, hn, h0, h1, e => by
    match ρ0, ρ, e with
    | [], _, e => simp [outAt] at e
    | _ :: _, [], e => simp [outAt] at e
    | x0 :: ρ0, x :: ρ, e =>
    match vs, fps, hv, hn, h0, h1 with
    | v :: vs, f :: fps, hv, hn, h0, h1 =>
      simp only [outAt] at e
      cases e2 : outAt fz (i + 1) n ρ0 ρ with
      | none => rw [e2] at e; split at e <;> first | (cases e; done) | (rename_i h; cases h)
      | some ds =>
        rw [e2] at e
        obtain ⟨fs, r, s⟩ := out_rep (fps := fps) (vs := vs) (by simpa using hv) (by simpa using hn)
          (fun j d hj hc hd => by
            have := h0 (j + 1) d (by omega) (by rw [← hc]; congr 1; omega) (by simpa using hd)
            simpa using this)
          (fun j d hj hc hd => by
            have := h1 (j + 1) d (by omega) (by rw [← hc]; congr 1; omega) (by simpa using hd)
            simpa using this) e2
        cases hc : fz.contains i with
        | true =>
          simp only [hc, if_true] at e
          cases x0 with
          | none => cases e
          | some d =>
            simp only at e
            cases e
            obtain ⟨w, e3, r3⟩ := h0 0 d (by omega) (by simpa using hc) rfl
            simp at e3
            subst e3
            refine ⟨[] :: fs, ⟨r3, r⟩, ?_⟩
            simp only [List.flatten_cons, List.nil_append]
            exact SubP.trans s (SubP.right f _)
        | false =>
          simp only [hc, Bool.false_eq_true, if_false] at e
          cases x with
          | none => cases e
          | some d =>
            simp only at e
            cases e
            obtain ⟨w, e3, r3⟩ := h1 0 d (by omega) (by simpa using hc) rfl
            simp at e3
            subst e3
            refine ⟨f :: fs, ⟨by simpa using r3, r⟩, ?_⟩
            simp only [List.flatten_cons]
            exact SubP.app s f
theorem start_sta {ds : List D} {vs : List V} {N : List Str} (sF : Same F H) (rp : RepP K F H ds vs fps) (nd : fps.flatten.Nodup) (dj : ∀ a ∈ fps.flatten, F a = none) (hn : vs.length ≤ N.length) (lv : ∀ a ∈ fps.flatten, ∃ xs, H a = some (.lst xs)) (hlk : ∀ p ∈ lk, vs[p.1]? = some p.2) (tb : LamX.Tabs LT.T H) (nof : ∀ b ps, F b ≠ some (.tbl ps)) (op : Opn F) :
    Sta K ⟨F, H, fps.flatten⟩ lk F H (start N vs) (ds.map some ++ List.replicate (N.length - vs.length) none) (fps ++ List.replicate (N.length - vs.length) []) [] := by
  obtain ⟨l1, l2⟩ := rp.length
  have hfl : (fps ++ List.replicate (N.length - vs.length) ([] : List Addr)).flatten = fps.flatten := by rw [List.flatten_append, flat_rep, List.append_nil]
  refine ⟨?_, ?_, ?_, fun i d e => ?_, (fun t ht => nomatch ht), fun p hp => ?_, tb, op⟩
  · simp only [tfp, List.nil_append]
    rw [hfl]
    exact ⟨sF, Same.refl _, fun b o e _ _ => e, fun b ps e => ⟨ps, e⟩, nof, id, fun a ha => .inl ha, fun b o e => .inl e, nd, dj, lv⟩
  · simp [L2.start]; omega
  · simp; omega
  · rw [getE_idx] at e
    have hi : i < ds.length := by
      by_cases hi : i < ds.length
      · exact hi
      · rw [List.getElem?_append_right (by simpa using hi), List.getElem?_replicate] at e
        split at e <;> cases e
    rw [List.getElem?_append_left (by simpa using hi), List.getElem?_map] at e
    have e' : ds[i]? = some d := by
      cases q : ds[i]? with
      | none => rw [q] at e; cases e
      | some x => rw [q] at e; cases e; rfl
    obtain ⟨v, e2, r⟩ := rp.get e'
    refine ⟨v, ?_, ?_⟩
    · unfold L2.start
      rw [List.getElem?_append_left (by rw [List.length_map]; omega), List.getElem?_map, e2]
      rfl
    · have : (fps ++ List.replicate (N.length - vs.length) ([] : List Addr)).getD i [] = fps.getD i [] := by
        rw [List.getD_eq_getElem?_getD, List.getD_eq_getElem?_getD, List.getElem?_append_left (by omega)]
      rw [this]
      exact r
  · have := hlk p hp
    have hi : p.1 < vs.length := (List.getElem?_eq_some_iff.mp this).1
    unfold L2.start
    rw [List.getElem?_append_left (by rw [List.length_map]; exact hi), List.getElem?_map, this]
    rfl
theorem repP_lists : ∀ {ds : List D} {vs : List V} {fs : List (List Addr)}, RepP K F H ds vs fs → ∀ a ∈ fs.flatten, ∃ xs, H a = some (.lst xs)
  | [], [], [], _, a, ha => by simp at ha
  | d :: ds, v :: vs, f :: fs, h, a, ha => by
    rw [List.flatten_cons] at ha
    rcases List.mem_append.mp ha with ha | ha
    · exact Rep.lists _ _ _ h.1 a ha
    · exact repP_lists h.2 a ha
  | [], _ :: _, _, h, _, _ => h.elim
  | [], [], _ :: _, h, _, _ => h.elim
  | _ :: _, [], _, h, _, _ => h.elim
  | _ :: _, _ :: _, [], h, _, _ => h.elim
/-- a call's promise is the body's reading -/
theorem body_core {fd : Fd} {ds : List D} {vs : List V} {N : List Str} (hns : fd.ns = N.length) (hnp : fd.np ≤ N.length) (sF : Same F H) (rp : RepP K F H ds vs fps) (nd : fps.flatten.Nodup) (dj : ∀ a ∈ fps.flatten, F a = none) (tb : LamX.Tabs LT.T H) (nof : ∀ b ps, F b ≠ some (.tbl ps)) (op : Opn F)
    (w : match callF0 Φ fd ds with
      | .ok d as => ∀ v F' H' fp fps', OwnOk ⟨F, H, fps.flatten⟩ F' H' (fp ++ fps'.flatten) → Opn F' → Rep K F' H' d v fp → RepP K F' H' as vs fps' → Q v H'
      | .exc c d as => ∀ cls dx F' H' fps', OwnOk ⟨F, H, fps.flatten⟩ F' H' fps'.flatten → Opn F' → RepX K F' H' c d cls dx → RepP K F' H' as vs fps' → E cls dx H'
      | .stk => False) :
    tSs K Φ E (lockOf fd) fd.body { nx := fun _ H' => Q .non H', rt := Q } (start N vs) H := by
  unfold callF0 at w
  by_cases hlen : ds.length = fd.np
  · simp only [if_pos hlen] at w
    obtain ⟨l1, l2⟩ := rp.length
    have hvn : vs.length = fd.np := by rw [l1, hlen]
    let lk : List (Nat × V) := (lockOf fd).filterMap fun i => (vs[i]?).map fun v => (i, v)
    have hlk : ∀ p ∈ lk, vs[p.1]? = some p.2 := fun p hp => by
      obtain ⟨j, _, e⟩ := List.mem_filterMap.mp hp
      cases q : vs[j]? with
      | none => rw [q] at e; cases e
      | some v => rw [q] at e; cases e; exact q
    have hLk : Lks lk (lockOf fd) := fun p hp => by
      obtain ⟨j, hj, e⟩ := List.mem_filterMap.mp hp
      cases q : vs[j]? with
      | none => rw [q] at e; cases e
      | some v => rw [q] at e; cases e; simpa using hj
    have S0 := start_sta (lk := lk) (N := N) sF rp nd dj (by rw [hvn]; exact hnp) (repP_lists rp) hlk tb nof op
    obtain ⟨F1, fps1, s1, S1⟩ := frz_sta fd.fz S0
    have eρ : frzEnv fd.fz (ds.map some ++ List.replicate (N.length - vs.length) none) = startE fd ds := by
      unfold startE
      rw [hns, hvn]
    rw [eρ] at S1
    have S1b := S1.rebase
    have hl1 : (startE fd ds).length = N.length := by
      unfold startE
      rw [frzEnv_len]
      simp
      omega
    -- what the arguments are worth at the end
    have fin : ∀ {ρ' : Env} {xs : List D} {F' H' : Hp} {σ' : L2.St} {fps' : List (List Addr)} {us : List (V × Tm)}, outAt fd.fz 0 fd.np (startE fd ds) ρ' = some xs → Sta K ⟨F1, H, tfp ([] : List (V × Tm)) ++ fps1.flatten⟩ lk F' H' σ' ρ' fps' us →
        ∃ fs, RepP K F' H' xs vs fs ∧ OwnOk ⟨F, H, fps.flatten⟩ F' H' (tfp us ++ fs.flatten) := fun {ρ' xs F' H' σ' fps' us} e S' => by
      have hlρ : ρ'.length = fps'.length := S'.lenF.symm
      have sF1 : Same F1 F' := S'.own.base
      have hlen' : fd.np ≤ fps'.length := by
        rw [← hlρ]
        clear S' sF1 hlρ w
        have : ∀ {n i : Nat} {a b : Env} {xs : List D}, outAt fd.fz i n a b = some xs → n ≤ b.length := by
          intro n
          induction n with
          | zero => intros; omega
          | succ n ih =>
            intro i a b xs h
            match a, b, h with
            | [], _, h => simp [outAt] at h
            | _ :: _, [], h => simp [outAt] at h
            | x0 :: a, x :: b, h =>
              simp only [outAt] at h
              cases q : outAt fd.fz (i + 1) n a b with
              | none => rw [q] at h; split at h <;> first | (cases h; done) | (rename_i h2; cases h2)
              | some ds =>
                have := ih q
                simp
                omega
        exact this e
      obtain ⟨fs, r, sb⟩ := out_rep (K := K) (F := F') (H := H') (fz := fd.fz) (fps := fps') hvn hlen'
        (fun j d hj hc hd => by
          have hd' : getE (startE fd ds) j = some d := getE_idx.mpr hd
          obtain ⟨v, e2, r2⟩ := S1.slots j d hd'
          have ho := frzEnv_frozen fd.fz (ρ := ds.map some ++ List.replicate (fd.ns - fd.np) none) hd' (by simpa using hc)
          have hv : vs[j]? = some v := by
            unfold L2.start at e2
            rw [List.getElem?_append_left (by rw [List.length_map]; omega), List.getElem?_map] at e2
            cases q : vs[j]? with
            | none => rw [q] at e2; cases e2
            | some x => rw [q] at e2; cases e2; rfl
          exact ⟨v, hv, Rep.mono sF1 _ _ _ (fun _ h => nomatch h) (Rep.nil ho r2)⟩)
        (fun j d hj hc hd => by
          obtain ⟨v, e2, r2⟩ := S'.slots j d (getE_idx.mpr hd)
          have hv0 : vs[j]? = some (vs[j]'(by omega)) := by simp [show j < vs.length by omega]
          have hm : (j, vs[j]'(by omega)) ∈ lk := by
            refine List.mem_filterMap.mpr ⟨j, ?_, by rw [hv0]; rfl⟩
            unfold lockOf
            rw [List.mem_filter]
            refine ⟨by simpa using hj, ?_⟩
            have hc : fd.fz.contains j = false := by simpa using hc
            rw [hc]
            rfl
          have := S'.locks _ hm
          have this : σ'[j]? = some (some (vs[j]'(by omega))) := this
          rw [e2] at this
          cases this
          exact ⟨_, hv0, r2⟩) e
      refine ⟨fs, r, ?_⟩
      have o1 : OwnOk ⟨F, H, fps.flatten⟩ F1 H ((tfp ([] : List (V × Tm)) ++ fps1.flatten) ++ []) := by
        have := S1.own
        rw [List.append_nil]
        exact this
      have o2 := (o1.call S'.own).1
      rw [List.append_nil] at o2
      exact o2.less (SubP.app sb _)
    refine ⟨_, lk, F1, startE fd ds, fps1, S1b, hLk, ?_⟩
    cases e : exSs Φ (lockOf fd) fd.body (startE fd ds) with
    | stk => rw [e] at w; exact w.elim
    | nx ρ' =>
      rw [e] at w
      intro F' H' σ' fps' S'
      cases e2 : outAt fd.fz 0 fd.np (startE fd ds) ρ' with
      | none => simp only [e2] at w
      | some xs =>
        simp only [e2] at w
        obtain ⟨fs, r, o⟩ := fin e2 S'
        exact w .non F' H' [] fs (by simpa [tfp] using o) S'.opn (by simp [Rep]) r
    | ret d ρ' =>
      rw [e] at w
      intro v fp F' H' σ' fps' S'
      cases e2 : outAt fd.fz 0 fd.np (startE fd ds) ρ' with
      | none => simp only [e2] at w
      | some xs =>
        simp only [e2] at w
        obtain ⟨fs, r, o⟩ := fin e2 S'
        exact w v F' H' fp fs (by simpa [tfp, Tm.fp] using o) S'.opn (S'.temps (v, .own d fp) (List.mem_cons_self ..)) r
    | exc c d ρ' =>
      rw [e] at w
      intro σ' cls dx F' H' fps' S' rx
      cases e2 : outAt fd.fz 0 fd.np (startE fd ds) ρ' with
      | none => simp only [e2] at w
      | some xs =>
        simp only [e2] at w
        obtain ⟨fs, r, o⟩ := fin e2 S'
        exact w cls dx F' H' fs (by simpa [tfp] using o) S'.opn rx r
  · simp only [if_neg hlen] at w
/-- the way out of a frame that made lambdas -/
theorem Mg.exit {A Z : List Addr} (i : OwnOk ⟨F, H, A⟩ F' H' Z) : Mg F H A F H F' H' H' where
  m1 := fun b u e _ => e
  s2 := fun b u e _ => i.sub b u e
  s3 := fun b u e t n => i.frame b u e t n
  s4 := fun b ps e => i.tbl b ps e
  s5 := i.tabs
  s6 := fun b e _ => e
  s7 := fun b φ e => e
  s8 := fun b xs e => e
theorem closed_merge (h : Closed F) : Closed (merge F F') := fun f LF e pm ctv q => by
  rcases merge_of q with q | ⟨_, _, hs⟩
  · exact CellsF.mono (fun b u e => merge_old e) (h f LF e pm ctv q)
  · exact (not_soft_lam hs).elim
theorem opn_closed0 (h : @Opn Fr0 F) : Closed F := fun f LF e pm ctv q => by
  rcases h f LF e pm ctv q with z | z
  · exact z
  · exact fun y c hy => by have := z y c hy; cases this
/-- a call's promise is the body's reading -/
theorem body_of {P : List Fd} {k i : Nat} {fd : Fd} {vs : List V} {N : List Str} (hP : P[i]? = some fd) (hns : fd.ns = N.length) (hnp : fd.np ≤ N.length) (hfr : fd.mkr = false → fr = Fr0) (h : spI K (runN P (k + 1)) i vs H Q E) :
    tSs K (runN P k) E (lockOf fd) fd.body { nx := fun _ H' => Q .non H', rt := Q } (start N vs) H := by
  obtain ⟨F, ds, fps, sF, rp, nd, dj, ⟨tb, nof, cl⟩, w⟩ := h
  simp only [runN, hP] at w
  unfold callF at w
  cases hm : fd.mkr with
  | false =>
    obtain rfl := hfr hm
    letI : Fr := Fr0
    rw [hm] at w
    simp only [Bool.false_eq_true, if_false] at w
    refine body_core hns hnp sF rp nd dj tb nof (fun f LF e pm ctv q => .inl (cl f LF e pm ctv q)) ?_
    cases e : callF0 (runN P k) fd ds with
    | stk => rw [e] at w; exact w
    | ok d as =>
      rw [e] at w
      exact fun v F' H' fp fps' o op r rp' => w v F' H' fp fps' o (opn_closed0 op) r rp'
    | exc c d as =>
      rw [e] at w
      exact fun cls dx F' H' fps' o op rx rp' => w cls dx F' H' fps' o (opn_closed0 op) rx rp'
  | true =>
    rw [hm] at w
    simp only [if_true] at w
    cases hp : plainL ds with
    | false => rw [hp] at w; exact w.elim
    | true =>
    rw [hp] at w
    simp only [if_true] at w
    refine body_core hns hnp sF (thin_repP (fun b u e _ => e) hp rp) nd dj tb nof (fun f LF e pm ctv q => .inl (cl f LF e pm ctv q)) ?_
    have o0 : OwnOk ⟨F, H, fps.flatten⟩ F H (fps.flatten ++ []) := by
      rw [List.append_nil]
      exact ⟨sF, Same.refl _, fun b o e _ _ => e, fun b ps e => ⟨ps, e⟩, nof, id, fun a ha => .inl ha, fun b o e => .inl e, nd, dj, repP_lists (thin_repP (fr2 := fr) (F' := F) (fun b u e _ => e) hp rp)⟩
    cases e : callF0 (runN P k) fd ds with
    | stk => rw [e] at w; exact w
    | ok d as =>
      rw [e] at w
      simp only [noLam] at w
      intro v F' H' fp fps' i op r rp'
      split at w
      · rename_i hd as2 hq
        split at hq
        · rename_i hpl
          cases hq
          simp only [Bool.and_eq_true] at hpl
          have m := Mg.exit i
          obtain ⟨ow', _, _⟩ := merge_own o0 i m
          refine w v (merge F F') H' fp fps' (by simpa using ow') (closed_merge cl) (merge_rep ow' i m hpl.1 (fun a ha => List.mem_append_left _ ha) r) (merge_repP ow' i m hpl.2 (fun a ha => List.mem_append_right _ ha) rp')
        · cases hq
      · rename_i hq
        split at hq <;> cases hq
      · exact w.elim
    | exc c d as =>
      rw [e] at w
      simp only [noLam] at w
      intro cls dx F' H' fps' i op rx rp'
      split at w
      · rename_i hq
        split at hq <;> cases hq
      · rename_i hq
        split at hq
        · rename_i hpl
          cases hq
          simp only [Bool.and_eq_true] at hpl
          have m := Mg.exit i
          obtain ⟨ow', _, _⟩ := merge_own o0 i m
          exact w cls dx (merge F F') H' fps' (by simpa using ow') (closed_merge cl) (merge_repX ow' i m hpl.1 rx) (merge_repP ow' i m hpl.2 (fun a ha => ha) rp')
        · cases hq
      · exact w.elim
end Mi
end

section
set_option Elab.async false
set_option linter.all false
set_option maxRecDepth 100000
/-! All defs of a text. -/
namespace Mi
open PySem PySem.Spec PyProof.Rows L2
variable [LT]

/-- a def of the text: its names, its scope, its body, what it is in the small language -/
structure Fi where
  name : Str
  ps : List Str
  N : List Str
  sc : Scope
  params : Arguments
  body : List Stmt
  fd : Fd
def scopeB (N ps : List Str) (sc : Scope) : Bool := decide (sc.kind = .function) && !sc.isCoroutine && !sc.isGenerator && decide N.Nodup && decide (N.take ps.length = ps) && ps.all (fun x => sc.names.lookup x == some .local || sc.names.lookup x == some .cell) && sc.names.all fun y => !(y.2 == .free)
theorem scopeB_ok {N ps : List Str} {sc : Scope} (h : scopeB N ps sc = true) : FnScope N ps sc := by
  unfold scopeB at h
  simp only [Bool.and_eq_true, decide_eq_true_eq, Bool.not_eq_true'] at h
  obtain ⟨⟨⟨⟨⟨⟨h1, h2⟩, h3⟩, h4⟩, h5⟩, h6⟩, h7⟩ := h
  refine ⟨h1, h2, h3, h4, h5, fun x hx => ?_, fun y hy => ?_⟩
  · simpa using List.all_eq_true.mp h6 x hx
  · simpa using List.all_eq_true.mp h7 y hy
/-- a lambda: what it captures, what it returns -/
structure Li where
  caps : List Str
  ie : IE
def Li.fd (l : Li) : Fd := { np := l.caps.length, ns := l.caps.length, fz := [], body := [.ret l.ie] }
/-- all functions: the text's defs, then the lambdas -/
def allFd (fs : List Fi) (ls : List Li) : List Fd := fs.map (·.fd) ++ ls.map Li.fd
def capsOf (n : Nat) (ls : List Li) (k : Nat) : List Str := match ls[k - n]? with
  | some l => l.caps
  | none => []
def noPar : Arguments → Bool
  | ⟨[], [], none, [], [], none, []⟩ => true
  | _ => false
/-- the k-th function is this lambda -/
def lamC (g : Gx) (n : Nat) (ls : List Li) (k : Nat) (params : Arguments) (e : Expr) (scope : Scope) : Bool := decide (n ≤ k) && match ls[k - n]? with
  | some l => noPar params && NdefX.nscB l.caps [] l.caps scope && isVal l.ie && chk g.base l.caps l.ie false scope e
  | none => false
def gOf (g : Gx) (n : Nat) (ls : List Li) (f : Fi) : Gx := if f.fd.mkr then { g.base with
  mkr := true
  lsn := f.sc.names.length
  caps := capsOf n ls
  lamOk := lamC g n ls
  blkOk := fun N ie sc e => isVal ie && chk g.base N ie false sc e } else g.base
def Fi.ok (g : Gx) (n : Nat) (ls : List Li) (f : Fi) : Bool := scopeB f.N f.ps f.sc && decide (f.fd.ns = f.N.length) && decide (f.fd.np = f.ps.length) && chkSs (gOf g n ls f) f.N f.sc f.fd.body f.body
/-- the whole text is checked -/
def okAll (g : Gx) (fs : List Fi) (ls : List Li) : Bool := decide (g.fns = fs.map fun f => (f.name, f.ps)) && fs.all fun f => f.ok g fs.length ls
/-- what the lambdas are -/
structure LtOk (g : Gx) (n : Nat) (ls : List Li) : Prop where
  ok : ∀ k params e scope q, LT.ok k params e scope q ↔ lamC g n ls k params e scope = true
  caps : ∀ k, LT.caps k = capsOf n ls k
/-- how a def's arguments are bound -/
structure BindOk (g : Gx) (i : Nat) (f : Fi) : Prop where
  pos : ∀ (kV doc pm cdv ct : Value) (an : Option Addr) (us : List Value), us.length = f.ps.length → bindArgs (PySem.W.fnOf f.name f.name f.params f.body f.sc .none kV doc pm an cdv ct) ⟨us, []⟩ = pure (f.ps.zip us)
  kw : ∀ ks perm, (i, ks, perm) ∈ g.kws → ∀ (kV doc pm cdv ct : Value) (an : Option Addr) (us : List Value), us.length = ks.length → bindArgs (PySem.W.fnOf f.name f.name f.params f.body f.sc .none kV doc pm an cdv ct) ⟨[], ks.zip us⟩ = pure (f.ps.zip (permL perm us))
/-- a lambda's name -/
def lamQ (name : Str) : Str := name ++ ".<locals>." ++ "<lambda>"
/-- what the module holds -/
structure ModOk (P : Program) (K : PySem.W.Frag) (mg : Str → Option Value) (g : Gx) (fs : List Fi) : Prop where
  fns : ∀ (i : Nat) f, fs[i]? = some f → ∃ fa fd, mg f.name = some (.ref fa) ∧ FunD K f.name f.name f.params f.body f.sc [] [] fa fd
  cns : ∀ p ∈ g.cns, ∃ v u, mg p.1 = some u ∧ RelV v u ∧ ∀ (fr' : Fr) F H, @Rep _ fr' K F H p.2 v []
  blt : ∀ x ∈ g.blt, mg x = none
  bnd : ∀ (i : Nat) f, fs[i]? = some f → BindOk g i f
  exs : ∀ c ∈ g.exs, mg (Str.ofString c) = some (.ref (He.ga K (Str.ofString c))) ∧ FireC K mg P (He.ga K (Str.ofString c))
  exk : ∀ c ∈ g.exs, ExK K (He.ga K (Str.ofString c)) ∧ ∀ c' ∈ g.exs, PySem.W.kitOne K (.ref (He.ga K (Str.ofString c))) (.ref (He.ga K (Str.ofString c'))) = some (c == c')
  fe : ∀ c ∈ g.exs, mg (Str.ofString "FireError") = some (.ref (He.ga K (Str.ofString "FireError"))) ∧ PySem.W.exmOne K (.ref (He.ga K (Str.ofString c))) (.ref (He.ga K (Str.ofString "FireError"))) = some true
/-- where the makers' tables are -/
def TabOk (K : PySem.W.Frag) (mg : Str → Option Value) (base : Heap) (fs : List Fi) : Prop := ∀ (i : Nat) f, fs[i]? = some f → f.fd.mkr = true → ∀ fa oc od fd osl, mg f.name = some (.ref fa) → K.lookup fa = some ⟨oc, od, .func fd, osl⟩ →
  ∃ c P, fd.code = .ref c ∧ LamX.TabB base mg c P ∧ (P, lamQ f.name) ∈ LT.T ∧ ∀ p ∈ LT.T, p.1 = P → p.2 = lamQ f.name
theorem gOf_fns {g : Gx} {n : Nat} {ls : List Li} {f : Fi} : (gOf g n ls f).fns = g.fns ∧ (gOf g n ls f).kws = g.kws ∧ (gOf g n ls f).cns = g.cns ∧ (gOf g n ls f).blt = g.blt ∧ (gOf g n ls f).exs = g.exs ∧ (gOf g n ls f).base = g.base ∧ (gOf g n ls f).mkr = f.fd.mkr := by
  unfold gOf
  cases e : f.fd.mkr <;> exact ⟨rfl, rfl, rfl, rfl, rfl, rfl, rfl⟩
theorem noPar_eq {p : Arguments} (h : noPar p = true) : p = ⟨[], [], none, [], [], none, []⟩ := by
  unfold noPar at h
  split at h
  · rfl
  · cases h
section
variable {P : Program} {w : World} {K : PySem.W.Frag} {mg : Str → Option Value} {base : Heap} {g : Gx} {fs : List Fi} {ls : List Li} {k : Nat}
/-- what the functions promise, k calls deep -/
def FnsAt (P : Program) (w : World) (K : PySem.W.Frag) (mg : Str → Option Value) (base : Heap) (fs : List Fi) (ls : List Li) (k : Nat) : Prop := ∀ (i : Nat) f, fs[i]? = some f → ∃ fa fd, mg f.name = some (.ref fa) ∧ FunD K f.name f.name f.params f.body f.sc [] [] fa fd ∧ FnG P w K mg base (CX P w) (k + 2) fa fd f.ps (spI K (runN (allFd fs ls) k) i)
def LamsAt (P : Program) (w : World) (K : PySem.W.Frag) (mg : Str → Option Value) (base : Heap) (fs : List Fi) (ls : List Li) (k : Nat) : Prop := ∀ j params e scope q, LT.ok j params e scope q → LamP P w K mg base (k + 2) j (spI K (runN (allFd fs ls) k) j)
theorem fns_xo {X : Cx} {E : XK} (M : ModOk P K mg g fs) (hg : g.fns = fs.map fun f => (f.name, f.ps)) (hP : X.prog = P) (hw : X.w = w) (hK : X.K = K) (hm : X.mg = mg) (hb : X.base = base) (hr : Room (k + 2) X.A) (tk : Takes X (fun cls d _ H => E cls d H)) (ih : FnsAt P w K mg base fs ls k) :
    ∀ (i : Nat) p, g.fns[i]? = some p → ∃ k' CX f fd, FnG X.prog X.w X.K X.mg X.base CX k' f fd p.2 (spI X.K (runN (allFd fs ls) k) i) ∧ Room k' X.A ∧ X.mg p.1 = some (.ref f) ∧ PySem.W.keepIn X.K (.ref f) = true ∧
    (∀ us : List Value, us.length = p.2.length → bindArgs fd ⟨us, []⟩ = pure (p.2.zip us)) ∧ (∀ ks perm, (i, ks, perm) ∈ g.kws → ∀ us : List Value, us.length = ks.length → bindArgs fd ⟨[], ks.zip us⟩ = pure (p.2.zip (permL perm us))) ∧
    Passes CX X E ∧ ∀ l H s e s', ¬ CX l H s noX e s' := by
  subst hP hw hK hm hb
  intro j p hp
  rw [hg, List.getElem?_map] at hp
  cases hq : fs[j]? with
  | none => rw [hq] at hp; cases hp
  | some f2 =>
    rw [hq] at hp
    cases hp
    obtain ⟨fa2, fd2, m2, D2, G2⟩ := ih j f2 hq
    have B2 := M.bnd j f2 hq
    refine ⟨k + 2, CX X.prog X.w, fa2, fd2, G2, hr, m2, D2.kp, fun us hl => ?_, fun ks perm hk us hl => ?_, passes_call tk fun _ _ _ _ h => h, fun l H s e s' c => ?_⟩
    · obtain ⟨oc, od, dV, kV, doc, pm, an, cdv, ct, osl, rfl, lk, hcd, hdv, _⟩ := D2.ex
      rcases hdv with ⟨_, rfl⟩ | ⟨h, _⟩
      · exact B2.pos kV doc pm cdv ct an us hl
      · exact absurd rfl h
    · obtain ⟨oc, od, dV, kV, doc, pm, an, cdv, ct, osl, rfl, lk, hcd, hdv, _⟩ := D2.ex
      rcases hdv with ⟨_, rfl⟩ | ⟨h, _⟩
      · exact B2.kw ks perm hk kV doc pm cdv ct an us hl
      · exact absurd rfl h
    · obtain ⟨_, _, _, _, _, _, _, _, _, _, _, _, h⟩ := c
      exact h
/-- a lambda's body -/
theorem lam_step (M : ModOk P K mg g fs) (hg : g.fns = fs.map fun f => (f.name, f.ps)) (hlt : LtOk g fs.length ls) (ih : FnsAt P w K mg base fs ls k) : LamsAt P w K mg base fs ls (k + 1) := by
  intro j params e scope q hok
  have hok0 := hok
  rw [hlt.ok] at hok
  unfold lamC at hok
  simp only [Bool.and_eq_true, decide_eq_true_eq] at hok
  obtain ⟨hj, hok⟩ := hok
  cases hl : ls[j - fs.length]? with
  | none => rw [hl] at hok; cases hok
  | some l =>
  have hcap : LT.caps j = l.caps := by rw [hlt.caps]; unfold capsOf; rw [hl]
  have hPj : (allFd fs ls)[j]? = some l.fd := by
    unfold allFd
    rw [List.getElem?_append_right (by simpa using hj), List.length_map, List.getElem?_map, hl]
    rfl
  refine lamP_of (fun params e scope q hk => ?_) fun A outer s H f LF e vs Q E hr hgd hk hlen hsp => ?_
  · rw [hlt.ok] at hk
    unfold lamC at hk
    rw [hl] at hk
    simp only [Bool.and_eq_true, decide_eq_true_eq] at hk
    rw [hcap]
    refine ⟨NdefX.nscope_by hk.2.1.1.2, fun cl pm cv ctv => ?_⟩
    rw [noPar_eq hk.2.1.1.1]
    rfl
  · rw [hlt.ok] at hk
    unfold lamC at hk
    rw [hl] at hk
    simp only [Bool.and_eq_true, decide_eq_true_eq] at hk
    obtain ⟨_, ⟨⟨h1, h2⟩, h3⟩, h4⟩ := hk
    have NS := NdefX.nscope_by h2
    rw [hcap] at hlen ⊢
    letI : Fr := Fr0
    have tk : Takes (NdefX.ncx (CX P w) P w K mg base l.caps LF f A outer s H E) (fun cls d _ H => E cls d H) := takes_of rfl rfl rfl rfl
    have O : XOk g.base l.caps LF.scope (some LF.scope) (runN (allFd fs ls) k) E (NdefX.ncx (CX P w) P w K mg base l.caps LF f A outer s H E) :=
      ⟨⟨rfl, NS.nd, rfl, rfl, (by have := hr.un; show (A.deeper _).units + 200 < cLine; omega), hgd, (fun x hx => absurd (show LF.scope.names.lookup x = some .cell by simpa [ownFn] using hx) fun z => NS.nocell _ (PySem.mem_of_lookup z) rfl), (fun s e x hx => by cases e; exact hx), fns_xo (g := g) (X := NdefX.ncx (CX P w) P w K mg base l.caps LF f A outer s H E) M hg rfl rfl rfl rfl rfl hr tk ih, M.cns, M.blt, (fun _ => rfl), (fun c hc => ⟨(M.exs c hc).1, M.exk c hc⟩), (fun z => nomatch z)⟩, (fun ie e _ z => nomatch z), (fun z => nomatch z)⟩
    refine ⟨_, ((chk_ok l.ie false e O h4).val rfl).vl h3, ?_⟩
    have b := body_of (N := l.caps) hPj rfl (Nat.le_refl _) (fun _ => rfl) hsp
    have eσ : L2.start l.caps vs = vs.map some := by
      unfold L2.start
      simp [hlen]
    rw [eσ] at b
    exact ts_ret (ts_cons b)
section
local instance iFr0_Mi23_1 : Fr := Fr0
theorem bk_base {N : List Str} {sc : Scope} {own : Option Scope} {Φ : Fns} {E : XK} {X : Cx} {ie : IE} {e : Expr} (o : XO g.base N sc own Φ E X) (h : (isVal ie && chk g.base N ie false sc e) = true) : PE X e (tI X.K Φ E ie) := by
  simp only [Bool.and_eq_true] at h
  exact ((chk_ok ie false e ⟨o, (fun ie e _ z => nomatch z), (fun z => nomatch z)⟩ h.2).val rfl).vl h.1
end
/-- all defs of the text -/
theorem fn_step (M : ModOk P K mg g fs) (T : TabOk K mg base fs) (hlt : LtOk g fs.length ls) (hc : okAll g fs ls = true) (ih : FnsAt P w K mg base fs ls k) (ihL : LamsAt P w K mg base fs ls k) : FnsAt P w K mg base fs ls (k + 1) := by
  unfold okAll at hc
  simp only [Bool.and_eq_true, decide_eq_true_eq] at hc
  obtain ⟨hg, hall⟩ := hc
  intro i f hf
  obtain ⟨fa, fd, m, D⟩ := M.fns i f hf
  refine ⟨fa, fd, m, D, ?_⟩
  obtain ⟨oc, od, dV, kV, doc, pm, an, cdv, ct, osl, rfl, lk, hcd, hdv, _⟩ := D.ex
  have hfo := List.all_eq_true.mp hall f (List.mem_of_getElem? hf)
  unfold Fi.ok at hfo
  simp only [Bool.and_eq_true, decide_eq_true_eq] at hfo
  obtain ⟨⟨⟨c1, c2⟩, c3⟩, c4⟩ := hfo
  have S := scopeB_ok c1
  have hP : (allFd fs ls)[i]? = some f.fd := by
    unfold allFd
    rw [List.getElem?_append_left (by rw [List.length_map]; exact (List.getElem?_eq_some_iff.mp hf).1), List.getElem?_map, hf]
    rfl
  have hnp : f.fd.np ≤ f.N.length := by
    rw [c3]
    have := congrArg List.length S.pre
    rw [List.length_take] at this
    omega
  refine fn_ofG lk hcd S (fun vs H Q E h => ?_) fun A outer s H vs Q E hr hgd h => ?_
  · obtain ⟨F, ds, fps, _, rp, _, _, _, w⟩ := h
    simp only [runN, hP] at w
    unfold callF at w
    by_cases hlen : ds.length = f.fd.np
    · rw [(@RepP.length _ Fr0 _ _ _ _ _ _ rp).1, hlen, c3]
    · have e0 : callF0 (runN (allFd fs ls) k) f.fd ds = .stk := by unfold callF0; rw [if_neg hlen]
      have e1 : (if f.fd.mkr = true then (if plainL ds = true then noLam (callF0 (runN (allFd fs ls) k) f.fd ds) else .stk) else callF0 (runN (allFd fs ls) k) f.fd ds) = .stk := by
        rw [e0]
        split
        · split <;> rfl
        · rfl
      rw [e1] at w
      exact w.elim
  · obtain ⟨gf, gk, gc, gb, ge, gB, gm⟩ := gOf_fns (g := g) (n := fs.length) (ls := ls) (f := f)
    letI fr : Fr := if f.fd.mkr then ⟨(envOfC f.name f.sc s.heap.objs.size fa cdv).cells⟩ else Fr0
    have tk : Takes (cxOf (CX P w) P w K mg base f.N f.name f.sc fa cdv A outer s H E) (fun cls d _ H => E cls d H) := takes_of rfl rfl rfl rfl
    refine ⟨_, ?_, body_of hP c2 hnp (fun z => by show (if f.fd.mkr then _ else _) = _; rw [z]; rfl) h⟩
    refine chkSs_ok (g := gOf g fs.length ls f) (N := f.N) (sc := f.sc) ⟨⟨⟨rfl, S.nd, rfl, rfl, (by have := hr.un; show (A.deeper _).units + 200 < cLine; omega), hgd, (fun x _ => rfl), (fun s e => nomatch e), ?_, by rw [gc]; exact M.cns, by rw [gb]; exact M.blt, fun z => ?_, by rw [ge]; exact fun c hc => ⟨(M.exs c hc).1, M.exk c hc⟩, fun z1 z2 => ?_⟩, fun ie e o z => ?_, fun z k => ?_⟩,
      passes_of rfl, tk, hr.mono (by omega), by rw [ge]; exact M.exs, rfl, rfl, rfl, ⟨k + 2, hr, ihL⟩, by rw [ge]; exact M.fe⟩ f.fd.body f.body c4
    · rw [gf, gk]
      exact fns_xo (g := g) (X := cxOf (CX P w) P w K mg base f.N f.name f.sc fa cdv A outer s H E) M hg rfl rfl rfl rfl rfl hr tk ih
    · rw [gm] at z
      show (if f.fd.mkr then _ else _) = _
      rw [z]
      rfl
    · have zm := gm ▸ z1
      obtain ⟨c, P', e1, TB, t1, t2⟩ := T i f hf zm fa _ _ _ _ m lk
      refine ⟨rfl, ?_, ⟨c, P', TB, e1, t1, t2⟩, fun y hy => Option.isSome_iff_exists.mp (PySem.W.cellsFrom_some _ _ _ (.inl hy)), fun k params body scope hk => ?_⟩
      · show (if f.fd.mkr then _ else _ : Fr).cells = _
        rw [zm]
        rfl
      · have hk2 : lamC g fs.length ls k params body scope = true := by
          unfold gOf at hk
          rw [zm] at hk
          exact hk
        refine ⟨(hlt.ok _ _ _ _ _).mpr hk2, ?_, ?_⟩
        · unfold lamC at hk2
          simp only [Bool.and_eq_true] at hk2
          cases hl : ls[k - fs.length]? with
          | none => rw [hl] at hk2; cases hk2.2
          | some l =>
            rw [hl] at hk2
            simp only [Bool.and_eq_true] at hk2
            rw [noPar_eq hk2.2.1.1.1]
            rfl
        · rw [hlt.caps]
          unfold gOf
          rw [zm]
          rfl
    · rw [gB] at o
      cases zm : f.fd.mkr with
      | false =>
        unfold gOf at z
        rw [zm] at z
        cases z
      | true =>
        unfold gOf at z
        rw [zm] at z
        have z : (isVal ie && chk g.base _ ie false _ e) = true := z
        exact bk_base o z
    · have zm := gm ▸ z
      rw [hlt.caps]
      unfold gOf
      rw [zm]
      rfl
theorem all_fns (M : ModOk P K mg g fs) (T : TabOk K mg base fs) (hlt : LtOk g fs.length ls) (hc : okAll g fs ls = true) : ∀ k : Nat, FnsAt P w K mg base fs ls k ∧ LamsAt P w K mg base fs ls k
  | 0 => by
    have no : ∀ i vs H Q E, ¬ spI K (runN (allFd fs ls) 0) i vs H Q E := fun i vs H Q E h => by
      obtain ⟨_, _, _, _, _, _, _, _, w⟩ := h
      exact w
    refine ⟨fun i f hf => ?_, fun j params e scope q hok A outer s H f LF e pm ctv vs Q E hr hg e0 hf hcd hk C hsp => (no _ _ _ _ _ hsp).elim⟩
    obtain ⟨fa, fd, m, D⟩ := M.fns i f hf
    exact ⟨fa, fd, m, D, fun vs H Q E h => (no _ _ _ _ _ h).elim, fun A outer s H args us vs Q E _ _ _ _ _ h => (no _ _ _ _ _ h).elim⟩
  | k + 1 => by
    obtain ⟨ih, ihL⟩ := all_fns M T hlt hc k
    have hg : g.fns = fs.map fun f => (f.name, f.ps) := by
      unfold okAll at hc
      simp only [Bool.and_eq_true, decide_eq_true_eq] at hc
      exact hc.1
    exact ⟨fn_step M T hlt hc ih ihL, lam_step M hg hlt ih⟩
end
end Mi
end

section
set_option Elab.async false
set_option linter.all false
set_option maxRecDepth 100000
set_option maxHeartbeats 2000000
/-! What the head tells of the exceptions' classes. -/
namespace Mi
open PySem PySem.Spec PyProof.Rows L2
/-- the base's __init__, from the text -/
structure InitP where
  params : Arguments
  body : List Stmt
  scope : Scope
  q : Str
abbrev InitV : Type := Option (Str × Arguments × FuncBody × Scope × Addr × List Str × Value × Addr)
def initA (K : PySem.W.Frag) : Addr := He.ma K (He.ga K "FireError") "__init__"
def initW (K : PySem.W.Frag) : InitV := match K.lookup (initA K) with
  | some ⟨_, _, .func fd, _⟩ => some (fd.qualname, fd.params, fd.body, fd.scope, fd.globals, fd.closure.map (·.1), fd.defaults, fd.builtins)
  | _ => none
def InitP.val (I : InitP) : InitV := some (I.q, I.params, .stmts I.body, I.scope, mainGlobals, [("__class__" : Str)], Value.none, builtinsNs)
def codB (K : PySem.W.Frag) (prog : Program) (q : Str) (v : Value) : Bool := PySem.W.codeIn K v q && match v with
  | .ref c => (match K.lookup c with
    | some ⟨_, _, .fields vs, _⟩ => (match (vs[2]? : Option Value) with
      | some (Value.str file _) => (prog.main.file : Str) == file
      | _ => false)
    | _ => false)
  | _ => false
def celB (K : PySem.W.Frag) (D : Addr) : List (Str × Addr) → Bool
  | [(_, cc)] => (match K.lookup cc with
    | some ⟨_, _, .cell (some (.ref D')), _⟩ => decide (D' = D)
    | _ => false)
  | _ => false
def initB (K : PySem.W.Frag) (prog : Program) : Bool := He.eqO (PySem.W.nsIn K mainGlobals "super") (some none) && He.eqO (PySem.W.nsIn K cStatics "thirdparty.any") (some none) && (PySem.W.clsIn K (He.ga K "FireError")).isSome && match K.lookup (initA K) with
  | some ⟨_, _, .func fd, _⟩ => codB K prog fd.qualname fd.code && celB K (He.ga K "FireError") fd.closure
  | _ => false
def oexB (K : PySem.W.Frag) (C : Addr) : Bool := match K.lookup C with
  | some ⟨.type t, _, .cls cd, sl⟩ => t == "type" && (match cd.mro, sl.toList with
    | .ref C' :: bm, [_, _, _, _, some (.builtin n), _] => C' == C && n == "ValueError.__new__" && !cd.hasDel && cd.hasDict && PySem.HandSPX.refsVE bm
    | _, _ => false)
  | _ => false
theorem oexB_ok {K : PySem.W.Frag} {C : Addr} (h : oexB K C = true) : ∃ nm q N bs bm sn sub ab col dd k0 k1 k2 k3 k5, K.lookup C = some (excClassObj nm q C N bs bm true sn sub ab col dd k0 k1 k2 k3 k5 "ValueError.__new__") ∧ PySem.HandSPX.refsVE bm = true := by
  unfold oexB at h
  split at h
  · rename_i t dd cd sl ho
    simp only [Bool.and_eq_true, beq_iff_eq] at h
    obtain ⟨rfl, h⟩ := h
    split at h
    · rename_i C' bm k0 k1 k2 k3 n k5 hm hs
      simp only [Bool.and_eq_true, beq_iff_eq, Bool.not_eq_true'] at h
      obtain ⟨⟨⟨⟨rfl, rfl⟩, hdel⟩, hdict⟩, hv⟩ := h
      obtain ⟨nm, bs, mro, ns, qn, hd, sn, sub, ab, col, del⟩ := cd
      dsimp only at hm hdel hdict
      subst hm hdel hdict
      have hsl : sl = #[k0, k1, k2, k3, some (.builtin "ValueError.__new__"), k5] := by
        obtain ⟨l⟩ := sl
        simp only at hs
        rw [hs]
      subst hsl
      exact ⟨nm, qn, ns, bs, bm, sn, sub, ab, col, dd, k0, k1, k2, k3, k5, ho, hv⟩
    · cases h
  · cases h
def fireB (K : PySem.W.Frag) (x : Str) : Bool := oexB K (He.ga K x) && He.eqO (PySem.W.nsIn K mainGlobals x) (some (some (.ref (He.ga K x)))) && He.eqO (PySem.W.findIn K (.ref (He.ga K x)) "__setattr__") (some (some (.builtin "object.__setattr__"))) &&
  decide (PySem.W.mroIn K (He.ga K x) (.ref (He.ga K "FireError")) = some true) && decide (PySem.W.ks_superIn K (He.ga K x) (He.ga K "FireError") "__init__" = some (some (.builtin "ValueError.__init__"))) &&
  decide (PySem.W.subIn K (.ref (He.ga K x)) (.type "ValueError") = some true) && He.eqO (PySem.W.findIn K (.ref (He.ga K x)) "value") (some none) && He.eqO (PySem.W.findIn K (.ref (He.ga K x)) "__init__") (some (some (.ref (initA K)))) &&
  decide (PySem.W.typeIn K (.ref (initA K)) = some (.type "function")) && decide (PySem.W.subIn K (.ref (He.ga K x)) (.type "BaseException") = some true) && decide (PySem.W.typeIn K (.ref (He.ga K x)) = some (.type "type")) && PySem.W.keepIn K (.ref (He.ga K x))
/-- what the text itself says -/
structure InitOk (prog : Program) (I : InitP) : Prop where
  body : ∃ p1 p2 p3 p4 p5 p6 p7 p8 p9 p10, I.body = [.Expr (.Call (.Attribute (.Call (.Name "super" p1) [] [] p2) "__init__" p3) [.Name "value" p4] [] p5) p6, .Assign [.Attribute (.Name "self" p7) "value" p8] (.Name "value" p9) p10] ∧
    (∃ pl : Sem Bool, ∀ env : PySem.Env, eval (.Call (.Attribute (.Call (.Name "super" p1) [] [] p2) "__init__" p3) [.Name "value" p4] [] p5) env = (do
      let ov ← attributeBase (.Call (.Name "super" p1) [] [] p2) "__init__" env (eval (.Call (.Name "super" p1) [] [] p2) env)
      standAt p3.atName
      let (f, first) ← holding [ov] (getMethod ov "__init__" pl)
      callWith p5 f first (backTo p5 (starEach [.Name "value" p4] env)) []))
  par : ∃ ar, (I.params.posonlyargs ++ I.params.args).head? = some ar ∧ ar.arg = "self"
  kind : I.scope.kind = .function
  co : I.scope.isCoroutine = false
  gen : I.scope.isGenerator = false
  ncell : ∀ x ∈ I.scope.names, x.2 ≠ .cell
  sSelf : I.scope.names.lookup ("self" : Str) = some NameKind.«local»
  sVal : I.scope.names.lookup ("value" : Str) = some NameKind.«local»
  sSup : I.scope.names.lookup ("super" : Str) = some NameKind.globalImplicit
  sCls : I.scope.names.lookup ("__class__" : Str) = some NameKind.free
  top : (prog.main.scope.names.lookup ("super" : Str)).isSome = false
  bind : ∀ (nm q : Str) (body : FuncBody) (scope : Scope) (gl bl : Addr) (cl : List (Str × Addr)) (kV doc pm cdv ct : Value) (an : Option Addr) (e v : Value), bindArgs ⟨nm, q, I.params, body, scope, gl, cl, .none, kV, doc, pm, an, cdv, ct, bl⟩ ⟨[e, v], []⟩ = pure [(("self" : Str), e), (("value" : Str), v)]
theorem fire_of {K : PySem.W.Frag} {h : Heap} {mg : Str → Option Value} {prog : Program} {I : InitP} {x : Str} (X : K.In h) (G : h.Ns mainGlobals mg) (O : InitOk prog I) (ho : initW K = I.val) (hb : initB K prog = true) (hc : fireB K x = true) :
    mg x = some (.ref (He.ga K x)) ∧ FireC K mg prog (He.ga K x) := by
  unfold fireB at hc
  simp only [Bool.and_eq_true, decide_eq_true_eq] at hc
  obtain ⟨⟨⟨⟨⟨⟨⟨⟨⟨⟨⟨c1, c2⟩, c3⟩, c4⟩, c5⟩, c6⟩, c7⟩, c8⟩, c9⟩, c10⟩, c11⟩, c12⟩ := hc
  unfold initB at hb
  simp only [Bool.and_eq_true] at hb
  obtain ⟨⟨⟨b1, b2⟩, b3⟩, b4⟩ := hb
  refine ⟨PySem.W.mg_of X G (He.eqO_ok c2), ?_, c10, c11, c12⟩
  unfold initW at ho
  unfold InitP.val at ho
  cases q : K.lookup (initA K) with
  | none => rw [q] at ho; cases ho
  | some o =>
    obtain ⟨oc, od, dt, osl⟩ := o
    rw [q] at ho b4
    cases dt with
    | func fd =>
      obtain ⟨n1, n2, n3, n4, n5, n6, n7, n8, n9, n10, n11, n12, n13, n14, n15⟩ := fd
      simp only [Option.some.injEq, Prod.mk.injEq] at ho
      obtain ⟨rfl, rfl, rfl, rfl, rfl, h6, rfl, rfl⟩ := ho
      simp only [Bool.and_eq_true] at b4
      obtain ⟨k1, k2⟩ := b4
      obtain ⟨p1, p2, p3, p4, p5, p6, p7, p8, p9, p10, hbody, hcall⟩ := O.body
      unfold codB at k1
      simp only [Bool.and_eq_true] at k1
      obtain ⟨k1a, k1b⟩ := k1
      cases n13 <;> try (cases k1b; done)
      rename_i cda
      simp only at k1b
      split at k1b
      · rename_i ccl cdd vs ccs lkc
        split at k1b
        · rename_i file tf hvs
          cases n7 with
          | nil => cases k2
          | cons a r =>
            obtain ⟨y, cc⟩ := a
            cases r with
            | cons _ _ => cases k2
            | nil =>
              simp only [List.map_cons, List.map_nil, List.cons.injEq, and_true] at h6
              subst h6
              simp only [celB] at k2
              split at k2
              · rename_i ccl2 ccd2 D' csl lkcell
                have eD := of_decide_eq_true k2
                subst eD
                obtain ⟨cdD, hD⟩ := Option.isSome_iff_exists.mp b3
                refine ⟨initA K, _, cc, cda, _, I.scope, I.q, p1, p2, p3, p4, p5, p6, p7, p8, p9, p10, ⟨⟨oc, od, osl, q⟩, ?_, rfl, rfl, rfl, rfl, rfl, rfl, O.par, k1a, ⟨ccl, cdd, vs, ccs, file, tf, lkc, hvs, k1b⟩, ⟨ccl2, ccd2, csl, lkcell⟩, ⟨cdD, hD⟩, O.kind, O.co, O.gen, O.ncell, O.sSelf, O.sVal, O.sSup, O.sCls, O.top, PySem.W.mg_none_of X G (He.eqO_ok b1), He.eqO_ok b2⟩,
                  ⟨oexB_ok c1, He.eqO_ok c3, c4, c5, c6, He.eqO_ok c7⟩, He.eqO_ok c8, c9, hcall, fun s e v => .of_eq (O.bind _ _ _ _ _ _ _ _ _ _ _ _ _ e v)⟩
                show FuncBody.stmts I.body = _
                rw [hbody]
              · cases k2
        · cases k1b
      · cases k1b
    | _ => cases ho
end Mi
namespace Mi
open PySem PySem.Spec PyProof.Rows L2
/-! ### caught exceptions' classes -/
def exkB (K : PySem.W.Frag) (C : Addr) : Bool := (PySem.W.clsIn K C).isSome && He.eqO (PySem.W.findIn K (.ref C) "__getattribute__") (some (some (.builtin "BaseException.__getattribute__"))) && He.eqO (PySem.W.findIn K (.ref C) "__getattr__") (some none) && decide (PySem.W.subIn K (.ref C) (.type "BaseException") = some true) && PySem.W.hasDictIn K C &&
  He.eqO (PySem.W.findIn K (.ref C) "__class__") (some (some (.builtin "object.__class__"))) && He.eqO (PySem.W.specialIn K (.builtin "object.__class__") "__get__") (some (some (.builtin "getset_descriptor.__get__"))) && decide (PySem.W.takesIn K (.builtin "object.__class__") = some true) && decide (PySem.W.mroIn K C (.type "object") = some true) && He.eqO (PySem.W.findIn K (.ref C) "value") (some none)
theorem exkB_ok {K : PySem.W.Frag} {C : Addr} (h : exkB K C = true) : ExK K C := by
  unfold exkB at h
  simp only [Bool.and_eq_true, decide_eq_true_eq] at h
  obtain ⟨⟨⟨⟨⟨⟨⟨⟨⟨h1, h2⟩, h3⟩, h4⟩, h5⟩, h6⟩, h7⟩, h8⟩, h9⟩, h10⟩ := h
  exact ⟨h1, He.eqO_ok h2, He.eqO_ok h3, h4, h5, He.eqO_ok h6, He.eqO_ok h7, h8, h9, He.eqO_ok h10⟩
def gaS (K : PySem.W.Frag) (c : String) : Addr := He.ga K (Str.ofString c)
def kitB (K : PySem.W.Frag) (exs : List String) : Bool := exs.all fun c => exs.all fun c' => decide (PySem.W.kitOne K (.ref (gaS K c)) (.ref (gaS K c')) = some (c == c'))
def feB (K : PySem.W.Frag) (exs : List String) : Bool := exs.all fun c => He.eqO (PySem.W.nsIn K mainGlobals (Str.ofString "FireError")) (some (some (.ref (gaS K "FireError")))) && decide (PySem.W.exmOne K (.ref (gaS K c)) (.ref (gaS K "FireError")) = some true)
/-- what is known of the classes -/
structure ExF (P : Program) (K : PySem.W.Frag) (mg : Str → Option Value) (xs : List String) : Prop where
  exs : ∀ c ∈ xs, mg (Str.ofString c) = some (.ref (He.ga K (Str.ofString c))) ∧ FireC K mg P (He.ga K (Str.ofString c))
  exk : ∀ c ∈ xs, ExK K (He.ga K (Str.ofString c)) ∧ ∀ c' ∈ xs, PySem.W.kitOne K (.ref (He.ga K (Str.ofString c))) (.ref (He.ga K (Str.ofString c'))) = some (c == c')
  fe : ∀ c ∈ xs, mg (Str.ofString "FireError") = some (.ref (He.ga K (Str.ofString "FireError"))) ∧ PySem.W.exmOne K (.ref (He.ga K (Str.ofString c))) (.ref (He.ga K (Str.ofString "FireError"))) = some true
/-! ### the Hook -/
def asX (g : Addr → Option Obj) : Nat → List Addr
  | 0 => [mainGlobals, cStatics]
  | n + 1 => He.growD g (asX g n)
/-- the tables of some defs -/
def tabsX (K : PySem.W.Frag) (ms : List Str) : List Addr := ms.map fun m => (He.cT K (m, none)).2
def nodupA : List Addr → Bool
  | [] => true
  | a :: r => !r.contains a && nodupA r
theorem nodupA_ok : ∀ {l : List Addr}, nodupA l = true → l.Nodup
  | [], _ => .nil
  | a :: r, h => by
    simp only [nodupA, Bool.and_eq_true, Bool.not_eq_true', List.contains_eq_mem, decide_eq_false_iff_not] at h
    exact List.nodup_cons.mpr ⟨h.1, nodupA_ok h.2⟩
abbrev AlX : Type := He.AlD × InitV × Bool
def obsX (fa : List He.Fa) (fn : List He.DefD) (exs : List String) (ms : List Str) (prog : Program) (K : PySem.W.Frag) : AlX := (He.obsD fa fn K, initW K, (initB K prog && exs.all fun c => fireB K (Str.ofString c)) && ((exs.all fun c => exkB K (Str.ofString c |> He.ga K)) && kitB K exs && feB K exs) && nodupA (tabsX K ms))
def obsXG (n : Nat) (fa : List He.Fa) (fn : List He.DefD) (exs : List String) (ms : List Str) (prog : Program) (g : Addr → Option Obj) : AlX := obsX fa fn exs ms prog (He.frT g (asX g n))
def SaysX (fa : List He.Fa) (fn : List He.DefD) (exs : List String) (ms : List Str) (prog : Program) (I : InitP) (K : PySem.W.Frag) : Prop := obsX fa fn exs ms prog K = (He.valD fn, I.val, true) ∧ ∀ a o, K.lookup a = some o → He.emptyTab o = false
def hookX (n : Nat) (fa : List He.Fa) (fn : List He.DefD) (exs : List String) (ms : List Str) (prog : Program) (I : InitP) : PySem.W.Hook where
  α := AlX
  obs := fun s => obsXG n fa fn exs ms prog s.heap.get?
  val := fun _ => (He.valD fn, I.val, true)
  says := fun _ h => ∃ K : PySem.W.Frag, K.In h ∧ SaysX fa fn exs ms prog I K
  of := fun _ _ e => ⟨_, He.frT_in, e, fun _ _ z => (He.frT_mem z).2⟩
  keeps := fun _ _ _ ⟨K, hK, c⟩ k => ⟨K, PySem.W.Frag.In.keeps hK k, c⟩
theorem obsXG_eq {n : Nat} {fa : List He.Fa} {fn : List He.DefD} {exs : List String} {ms : List Str} {prog : Program} {I : InitP} {g : Addr → Option Obj} {s : Shared} (h : ∀ a, g a = s.heap.get? a) : obsXG n fa fn exs ms prog g = (hookX n fa fn exs ms prog I).obs s := by
  have e : g = s.heap.get? := funext h
  rw [e] <;> rfl
theorem SaysX.d {fa : List He.Fa} {fn : List He.DefD} {exs : List String} {ms : List Str} {prog : Program} {I : InitP} {K : PySem.W.Frag} (c : SaysX fa fn exs ms prog I K) : He.SaysD fa fn K := congrArg (fun z : AlX => z.1) c.1
theorem SaysX.nd {fa : List He.Fa} {fn : List He.DefD} {exs : List String} {ms : List Str} {prog : Program} {I : InitP} {K : PySem.W.Frag} (c : SaysX fa fn exs ms prog I K) : (tabsX K ms).Nodup := by
  have c2 := congrArg (fun z : AlX => z.2.2) c.1
  have c2 : ((initB K prog && exs.all fun c => fireB K (Str.ofString c)) && ((exs.all fun c => exkB K (Str.ofString c |> He.ga K)) && kitB K exs && feB K exs) && nodupA (tabsX K ms)) = true := c2
  simp only [Bool.and_eq_true] at c2
  exact nodupA_ok c2.2
theorem SaysX.x {fa : List He.Fa} {fn : List He.DefD} {exs : List String} {ms : List Str} {prog : Program} {I : InitP} {K : PySem.W.Frag} {h : Heap} {mg : Str → Option Value} (c : SaysX fa fn exs ms prog I K) (X : K.In h) (G : h.Ns mainGlobals mg) (O : InitOk prog I) : ExF prog K mg exs := by
  have c1 : initW K = I.val := congrArg (fun z : AlX => z.2.1) c.1
  have c2 : ((initB K prog && exs.all fun c => fireB K (Str.ofString c)) && ((exs.all fun c => exkB K (Str.ofString c |> He.ga K)) && kitB K exs && feB K exs) && nodupA (tabsX K ms)) = true := congrArg (fun z : AlX => z.2.2) c.1
  simp only [Bool.and_eq_true] at c2
  obtain ⟨⟨⟨c3, c4⟩, ⟨⟨c5, c6⟩, c7⟩⟩, _⟩ := c2
  refine ⟨fun x hx => fire_of X G O c1 c3 (List.all_eq_true.mp c4 x hx), fun x hx => ⟨exkB_ok (List.all_eq_true.mp c5 x hx), fun y hy => of_decide_eq_true (List.all_eq_true.mp (List.all_eq_true.mp c6 x hx) y hy)⟩, fun x hx => ?_⟩
  have c8 := List.all_eq_true.mp c7 x hx
  simp only [Bool.and_eq_true, decide_eq_true_eq] at c8
  exact ⟨PySem.W.mg_of X G (He.eqO_ok c8.1), c8.2⟩
end Mi
namespace Mi
open PySem
/-- a class's first def -/
def clsFn : Stmt → Stmt
  | .ClassDef _ _ _ body _ _ _ _ _ _ pos => body.getD 0 (.Pass pos)
  | s => s
end Mi
end

section
set_option Elab.async false
set_option linter.all false
set_option maxRecDepth 100000
/-! The law from what the small language computes. -/
namespace Mi
open PySem PySem.Spec PyProof.Rows L2
variable [LT]
def Fi.d (f : Fi) : He.DefD := ⟨(f.name, none), f.name, f.name, f.params, f.body, f.sc, [], []⟩
def cnFa : Str × D → He.Fa
  | (x, .int i) => .int x i
  | (x, .str z) => .str x z
  | (x, _) => .glo x
def cnOk : Str × D → Bool
  | (_, .int _) => true
  | (_, .str _) => true
  | _ => false
/-- what the head tells -/
def faOf (g : Gx) (fs : List Fi) : List He.Fa := fs.map (fun f => He.Fa.glo f.name) ++ g.blt.map He.Fa.free ++ g.cns.map cnFa
theorem modOk_of {K : PySem.W.Frag} {h : Heap} {mg : Str → Option Value} {g : Gx} {fs : List Fi} (X : K.In h) (G : h.Ns mainGlobals mg) (c : He.SaysD (faOf g fs) (fs.map Fi.d) K) (hc : g.cns.all cnOk = true) (hb : ∀ (i : Nat) f, fs[i]? = some f → BindOk g i f) {P : Program} (hx : ExF P K mg g.exs) : ModOk P K mg g fs := by
  have fact : ∀ f ∈ faOf g fs, f.ok K = true := fun f hf => by
    obtain ⟨i, hi⟩ := List.getElem?_of_mem hf
    exact c.fact i hi
  refine ⟨fun i f hf => ?_, fun p hp => ?_, fun x hx => ?_, hb, hx.exs, hx.exk, hx.fe⟩
  · have h1 := fact (.glo f.name) (List.mem_append_left _ (List.mem_append_left _ (List.mem_map.mpr ⟨f, List.mem_of_getElem? hf, rfl⟩)))
    obtain ⟨fd, D⟩ := c.def_ i (d := f.d) (by rw [List.getElem?_map, hf]; rfl)
    exact ⟨He.ga K f.name, fd, He.glo_ok X G h1, D⟩
  · obtain ⟨x, d⟩ := p
    have h1 := fact (cnFa (x, d)) (List.mem_append_right _ (List.mem_map.mpr ⟨(x, d), hp, rfl⟩))
    have h2 := List.all_eq_true.mp hc _ hp
    cases d <;> try (simp [cnOk] at h2; done)
    · rename_i i
      obtain ⟨t, m⟩ := He.int_ok X G h1
      exact ⟨.int i, .int i t, m, ⟨t, rfl⟩, fun _ F H => by simp [Rep]⟩
    · rename_i z
      obtain ⟨t, m⟩ := He.str_ok X G h1
      exact ⟨.str z, .str z t, m, ⟨t, rfl⟩, fun _ F H => by simp [Rep]⟩
  · exact He.free_ok X G (fact (.free x) (List.mem_append_left _ (List.mem_append_right _ (List.mem_map.mpr ⟨x, hx, rfl⟩))))
theorem scr_rep [Fr] {K : PySem.W.Frag} {F H : Hp} : ∀ ns : List Int, RepL K F H (ns.map D.int) (ns.map V.int) []
  | [] => by simp [RepL]
  | n :: ns => by
    simp only [List.map_cons, RepL]
    exact ⟨.int n, ns.map V.int, [], [], rfl, by simp [Rep], scr_rep ns, rfl⟩
/-- a def's code object and table, found in two ways -/
theorem cT_of {q : Program} {K : PySem.W.Frag} {h : Heap} {mg : Str → Option Value} {name : Str} {fa : Addr} {oc : Value} {od : Option Addr} {fd : FuncData} {osl : Array (Option Value)} {e : DefRec} (T : TabAt q mg h) (X : K.In h) (he : e ∈ recsOf q) (hn : e.name = name) (m : mg name = some (.ref fa)) (ga : fa = He.ga K name)
    (lk : K.lookup fa = some ⟨oc, od, .func fd, osl⟩) (hcd : PySem.W.codeIn K fd.code name = true) : fd.code = .ref (He.cT K (name, none)).1 ∧ PySem.W.CodeHd h (He.cT K (name, none)).1 (He.cT K (name, none)).2 ∧ h.get? (He.cT K (name, none)).2 = some tobj := by
  obtain ⟨a, o, fd', c, P, h1, h2, h3, h4, h5, ⟨o2, ws, h6, h7, h8⟩, h9⟩ := T e he
  rw [hn, m] at h1
  cases h1
  have g1 := X _ _ lk
  rw [g1] at h2
  cases h2
  cases h3
  have e1 : He.codeOf K (name, none) = c := He.codeOf_eq (p := (name, none)) (by show K.lookup (He.ga K name) = _; rw [← ga]; exact lk) h4
  rw [h4] at hcd
  have e2 : He.tabOf K c = P := by
    unfold PySem.W.codeIn at hcd
    simp only at hcd
    split at hcd
    · rename_i c1 c2 us c3 hl
      have g2 := X _ _ hl
      rw [g2] at h6
      cases h6
      cases h7
      unfold He.tabOf
      rw [hl]
      simp only
      rw [Array.getD_eq_getD_getElem?, h8]
      rfl
    · cases hcd
  have e3 : He.cT K (name, none) = (c, P) := by unfold He.cT; rw [e1, e2]
  rw [e3]
  exact ⟨h4, h5, h9⟩
def mkrs (fs : List Fi) : List Str := (fs.filter fun f => f.fd.mkr).map (·.name)
theorem nodup_map_inj {α β : Type} {f : α → β} : ∀ {l : List α}, (l.map f).Nodup → ∀ x ∈ l, ∀ y ∈ l, f x = f y → x = y
  | [], _, x, hx, _, _, _ => nomatch hx
  | a :: l, h, x, hx, y, hy, e => by
    rw [List.map_cons, List.nodup_cons] at h
    rcases List.mem_cons.mp hx with hx | hx <;> rcases List.mem_cons.mp hy with hy | hy
    · rw [hx, hy]
    · exact absurd (List.mem_map.mpr ⟨y, hy, by rw [← e, hx]⟩) h.1
    · exact absurd (List.mem_map.mpr ⟨x, hx, by rw [e, hy]⟩) h.1
    · exact nodup_map_inj h.2 x hx y hy e
section
local instance iFr0_Mi24_1 : Fr := Fr0
/-- the law's def meets its script -/
theorem entry {K : PySem.W.Frag} {Φ : Fns} {i : Nat} {H : Hp} {a : Addr} {ns : List Int} {Q : VK} {E : XK} (hT : LamX.Tabs LT.T H) (hS : SqL K H a (ns.map V.int)) (h : match Φ i [.scr (ns.map D.int)] with
  | .ok d as => ∀ (v : V) (F' H' : Hp) (fp : List Addr) (fps' : List (List Addr)), True → Closed F' → Rep K F' H' d v fp → True → Q v H'
  | .exc _ _ _ => False
  | .stk => False) : spI K Φ i [.ref a] H Q E := by
  have key : ∀ F : Hp, Same F H → SqL K F a (ns.map V.int) → (∀ b u, F b = some u → (∃ xs, u = .lst xs) ∨ ∃ o xs, u = .frz o (.lst xs)) → spI K Φ i [.ref a] H Q E := fun F sF sq hu => by
    refine ⟨F, [.scr (ns.map D.int)], [[]], sF, ⟨?_, trivial⟩, by simp, by simp, ⟨hT, fun b ps z => ?_, fun f LF e pm ctv z => ?_⟩, ?_⟩
    · simp only [Rep]
      exact ⟨a, ns.map V.int, rfl, sq, scr_rep ns, trivial⟩
    · rcases hu b _ z with ⟨_, z⟩ | ⟨_, _, z⟩ <;> cases z
    · rcases hu f _ z with ⟨_, z⟩ | ⟨_, _, z⟩
      · unfold LamO at z; cases z
      · unfold LamO tru at z; cases z
    · cases e : Φ i [.scr (ns.map D.int)] with
      | ok d as =>
        rw [e] at h
        exact fun v F' H' fp fps' _ c r _ => h v F' H' fp fps' trivial c r trivial
      | exc _ _ _ => rw [e] at h; exact h.elim
      | stk => rw [e] at h; exact h
  let F1 : Hp := fun b => if b = a then H a else none
  have f1 : ∀ b u, F1 b = some u → b = a ∧ H a = some u := fun b u e => by
    by_cases hb : b = a
    · exact ⟨hb, (if_pos hb).symm.trans e⟩
    · have : F1 b = none := if_neg hb
      rw [this] at e; cases e
  have fa : F1 a = H a := if_pos rfl
  have fs : Same F1 H := fun b u e => by
    obtain ⟨rfl, e⟩ := f1 b u e
    exact e
  rcases hS with (z | ⟨o, z⟩) | z
  · refine key F1 fs (.inl (.inl (fa.trans z))) fun b u e => ?_
    obtain ⟨_, e⟩ := f1 b u e
    rw [z] at e; cases e
    exact .inl ⟨_, rfl⟩
  · refine key F1 fs (.inl (.inr ⟨o, fa.trans z⟩)) fun b u e => ?_
    obtain ⟨_, e⟩ := f1 b u e
    rw [z] at e; cases e
    exact .inr ⟨_, _, rfl⟩
  · exact key (fun _ => none) (fun b u e => nomatch e) (.inr z) fun b u e => nomatch e
end
omit [LT] in
/-- the law's walk, where the small language tells true for each script -/
theorem law_end {l : PySem.W.OpenLaw} {n k : Nat} {q : Program} {loose : List Str} {XP : (Str → Option Value) → Heap → Prop} {d : DefRec} {g : Gx} {fs : List Fi} {ls : List Li} {iL : Nat} {f : Fi}
    (hn : l.most = some n) (hn2 : n ≤ sizeLine) (hdf : d.params.defaults = []) (hr : Room (k + 2) callerA) (hok : okAll g fs ls = true) (hcn : g.cns.all cnOk = true) (hb : ∀ (i : Nat) f, fs[i]? = some f → BindOk g i f) (hL : fs[iL]? = some f) (hname : f.name = d.name) (hps : f.ps = [("script" : Str)])
    (hrec : (mkrs fs).all (fun m => (recsOf q).any fun e => e.name == m) = true)
    (plain : ∀ ns : List Int, ns.length ≤ n → ∃ as, runN (allFd fs ls) k iL [.scr (ns.map D.int)] = .ok (.bl true) as)
    {YP : World → Heap → Prop} (hY : ∀ w h, YP w h → ∃ K : PySem.W.Frag, K.In h ∧ He.SaysD (faOf g fs) (fs.map Fi.d) K ∧ (∀ a o, K.lookup a = some o → He.emptyTab o = false) ∧ (tabsX K (mkrs fs)).Nodup ∧ ∀ mg, h.Ns mainGlobals mg → ExF l.prog K mg g.exs) :
    PySem.W.WalkO q loose XP YP l.row.toRowW d [] (fun f vs => PySem.call f vs) := by
  refine walk_ofT (k := k + 2) (CX := fun w => CX l.prog w) (x := "script") hn hn2 hdf hr (fun w mg fa h y G hm hTA hbm => ?_) fun w H s e s' c => ?_
  · obtain ⟨K, KX, c, ne, nd, hx⟩ := hY w h y
    letI lt : LT := ⟨fun k p e s _ => lamC g fs.length ls k p e s = true, capsOf fs.length ls, (mkrs fs).map fun m => ((He.cT K (m, none)).2, lamQ m)⟩
    have M := modOk_of (P := l.prog) KX G c hcn hb (hx mg G)
    have hlt : LtOk g fs.length ls := ⟨fun _ _ _ _ _ => Iff.rfl, fun _ => rfl⟩
    -- each maker's code object and table
    have mk : ∀ (i : Nat) f, fs[i]? = some f → f.fd.mkr = true → ∀ fa oc od fd osl, mg f.name = some (.ref fa) → K.lookup fa = some ⟨oc, od, .func fd, osl⟩ → fd.code = .ref (He.cT K (f.name, none)).1 ∧ PySem.W.CodeHd h (He.cT K (f.name, none)).1 (He.cT K (f.name, none)).2 ∧ h.get? (He.cT K (f.name, none)).2 = some tobj := by
      intro i f hf hm fa oc od fd osl m lk
      have hmem : f.name ∈ mkrs fs := List.mem_map.mpr ⟨f, List.mem_filter.mpr ⟨List.mem_of_getElem? hf, hm⟩, rfl⟩
      obtain ⟨e, he, hne⟩ := List.any_eq_true.mp (List.all_eq_true.mp hrec _ hmem)
      obtain ⟨fd', D⟩ := c.def_ i (d := f.d) (by rw [List.getElem?_map, hf]; rfl)
      obtain ⟨oc', od', dV, kV, doc, pm, an, cdv, ct, osl', rfl, lk', hcd, _⟩ := D.ex
      have h1 : (He.Fa.glo f.name).ok K = true := by
        obtain ⟨j, hj⟩ := List.getElem?_of_mem (show He.Fa.glo f.name ∈ faOf g fs from List.mem_append_left _ (List.mem_append_left _ (List.mem_map.mpr ⟨f, List.mem_of_getElem? hf, rfl⟩)))
        exact c.fact j hj
      have h2 := He.glo_ok KX G h1
      have ega : fa = He.ga K f.name := by rw [m] at h2; cases h2; rfl
      have lk2 : K.lookup (He.ga K f.name) = _ := lk'
      rw [← ega, lk] at lk2
      cases lk2
      exact cT_of hTA KX he (beq_iff_eq.mp hne) m ega lk hcd
    -- .. by name
    have mn : ∀ m ∈ mkrs fs, PySem.W.CodeHd h (He.cT K (m, none)).1 (He.cT K (m, none)).2 ∧ h.get? (He.cT K (m, none)).2 = some tobj := fun m hm => by
      obtain ⟨f, hf, rfl⟩ := List.mem_map.mp hm
      obtain ⟨h1, h2⟩ := List.mem_filter.mp hf
      obtain ⟨i, hi⟩ := List.getElem?_of_mem h1
      obtain ⟨fa, fd, m1, D⟩ := M.fns i f hi
      obtain ⟨oc', od', dV, kV, doc, pm, an, cdv, ct, osl', rfl, lk', hcd, _⟩ := D.ex
      exact (mk i f hi h2 _ _ _ _ _ m1 lk').2
    have TO : ∀ base : Heap, (∀ p ∈ (mkrs fs).map (fun m => He.cT K (m, none)), LamX.TabB base mg p.1 p.2) → TabOk K mg base fs := fun base hT i f hf hm fa oc od fd osl m lk => by
      have hmem : f.name ∈ mkrs fs := List.mem_map.mpr ⟨f, List.mem_filter.mpr ⟨List.mem_of_getElem? hf, hm⟩, rfl⟩
      refine ⟨_, _, (mk i f hf hm fa oc od fd osl m lk).1, hT _ (List.mem_map.mpr ⟨_, hmem, rfl⟩), List.mem_map.mpr ⟨f.name, hmem, rfl⟩, fun p hp e => ?_⟩
      obtain ⟨m', hm', rfl⟩ := List.mem_map.mp hp
      have := nodup_map_inj nd m' hm' f.name hmem e
      rw [this]
    obtain ⟨fa', fd, m, DD⟩ := M.fns iL f hL
    have ef : fa' = fa := by
      rw [hname, hm] at m
      cases m
      rfl
    subst ef
    refine ⟨K, fd, (mkrs fs).map (fun m => He.cT K (m, none)), spI K (runN (allFd fs ls) k) iL, KX, ⟨fun p hp => ?_, fun p hp => ?_, fun p hp => ?_, hbm⟩, fun s u => ?_, fun H a ns hl hT hS => ?_, fun base hKb hGb hTb => ?_⟩
    · obtain ⟨m', hm', rfl⟩ := List.mem_map.mp hp
      exact (mn m' hm').2
    · obtain ⟨m', hm', rfl⟩ := List.mem_map.mp hp
      cases z : K.lookup (He.cT K (m', none)).2 with
      | none => rfl
      | some o =>
        have z1 := KX _ _ z
        rw [(mn m' hm').2] at z1
        cases z1
        have := ne _ _ z
        cases this
    · obtain ⟨m', hm', rfl⟩ := List.mem_map.mp hp
      exact (mn m' hm').1
    · obtain ⟨oc, od, dV, kV, doc, pm, an, cdv, ct, osl, rfl, lk, hcd, hdv, _⟩ := DD.ex
      rcases hdv with ⟨_, rfl⟩ | ⟨h, _⟩
      · have := (hb iL f hL).pos kV doc pm cdv ct an [u] (by rw [hps]; rfl)
        rw [hps] at this
        exact .of_eq this
      · exact absurd rfl h
    · obtain ⟨as, e⟩ := plain ns hl
      refine entry (fun p hp => ?_) hS (by rw [e]; exact fun v F' H' fp fps' _ _ r _ => (by letI := Fr0; exact rep_bl r))
      obtain ⟨m', hm', rfl⟩ := List.mem_map.mp hp
      exact LamX.TabS.nil (hT _ (List.mem_map.mpr ⟨m', hm', rfl⟩))
    · obtain ⟨fa'', fd'', m'', DD'', G''⟩ := (all_fns (P := l.prog) (w := w) (base := base) M (TO base hTb) hlt hok k).1 iL f hL
      have e1 : fa'' = fa' := by rw [m] at m''; cases m''; rfl
      subst e1
      have e2 : fd'' = fd := by
        obtain ⟨oc, od, dV, kV, doc, pm, an, cdv, ct, osl, _, lk, _⟩ := DD.ex
        obtain ⟨oc', od', dV', kV', doc', pm', an', cdv', ct', osl', _, lk', _⟩ := DD''.ex
        rw [lk] at lk'
        cases lk'
        rfl
      subst e2
      rw [← hps]
      exact G''
  · obtain ⟨_, _, _, _, _, _, _, _, _, _, _, _, h⟩ := c
    exact h
end Mi
end

section
set_option Elab.async false
set_option linter.all false
set_option maxRecDepth 100000
/-! How arguments are bound, all defs in a row. -/
namespace Mi
open PySem PySem.Spec PyProof.Rows L2
def PosOk (f : Fi) : Prop := ∀ (kV doc pm cdv ct : Value) (an : Option Addr) (us : List Value), us.length = f.ps.length → bindArgs (PySem.W.fnOf f.name f.name f.params f.body f.sc .none kV doc pm an cdv ct) ⟨us, []⟩ = pure (f.ps.zip us)
def KwOk (f : Fi) (ks : List Str) (perm : List Nat) : Prop := ∀ (kV doc pm cdv ct : Value) (an : Option Addr) (us : List Value), us.length = ks.length → bindArgs (PySem.W.fnOf f.name f.name f.params f.body f.sc .none kV doc pm an cdv ct) ⟨[], ks.zip us⟩ = pure (f.ps.zip (permL perm us))
def AllP : List Fi → Prop
  | [] => True
  | f :: r => PosOk f ∧ AllP r
def AllK (fs : List Fi) : List (Nat × List Str × List Nat) → Prop
  | [] => True
  | e :: r => (∃ f, fs[e.1]? = some f ∧ KwOk f e.2.1 e.2.2) ∧ AllK fs r
theorem allP_get : ∀ {fs : List Fi} {i : Nat} {f : Fi}, AllP fs → fs[i]? = some f → PosOk f
  | f0 :: r, 0, f, h, e => by simp at e; subst e; exact h.1
  | f0 :: r, i + 1, f, h, e => allP_get h.2 (by simpa using e)
  | [], i, f, _, e => by simp at e
theorem allK_get {fs : List Fi} : ∀ {l : List (Nat × List Str × List Nat)} {e : Nat × List Str × List Nat} {f : Fi}, AllK fs l → e ∈ l → fs[e.1]? = some f → KwOk f e.2.1 e.2.2
  | e0 :: r, e, f, h, hm, hf => by
    rcases List.mem_cons.mp hm with rfl | hm
    · obtain ⟨f', h1, h2⟩ := h.1
      rw [hf] at h1
      cases h1
      exact h2
    · exact allK_get h.2 hm hf
theorem bind_all {g : Gx} {fs : List Fi} (hp : AllP fs) (hk : AllK fs g.kws) (i : Nat) (f : Fi) (h : fs[i]? = some f) : BindOk g i f :=
  ⟨allP_get hp h, fun ks perm hm => allK_get hk hm h⟩
end Mi
end

section
set_option linter.all false
set_option maxRecDepth 100000
/-! Lemmas to reckon with: what the small language computes. -/
namespace Mi
theorem getE_zero (o : Option D) (r : Env) : getE (o :: r) 0 = o := rfl
theorem getE_succ (o : Option D) (r : Env) (n : Nat) : getE (o :: r) (n + 1) = getE r n := rfl
theorem getE_nil (n : Nat) : getE [] n = none := rfl
theorem set_zero (o p : Option D) (r : Env) : List.set (o :: r) 0 p = p :: r := rfl
theorem set_succ (o p : Option D) (r : Env) (n : Nat) : List.set (o :: r) (n + 1) p = o :: List.set r n p := rfl
theorem rb_ok {α β : Type} (a : α) (ρ : Env) (f : α → Env → R β) : (R.ok a ρ).bind f = f a ρ := rfl
theorem rb_exc {α β : Type} (c : String) (d : D) (ρ : Env) (f : α → Env → R β) : (R.exc c d ρ).bind f = .exc c d ρ := rfl
theorem rb_stk {α β : Type} (f : α → Env → R β) : (R.stk).bind f = .stk := rfl
theorem runN_succ (P : List Fd) (k f : Nat) (as : List D) (fd : Fd) (h : P[f]? = some fd) : runN P (k + 1) f as = callF (runN P k) fd as := by
  simp [runN, h]
/-- a comprehension whose steps change nothing but its own names -/
theorem lcLoop_fm {α : Type} (step : D → Env → R (Option D)) (g : α → D) (f : α → Option D) (β : α → Env) (I : Env → Prop) :
    ∀ (ds : List α) (acc : List D) (ρ : Env), I ρ → (∀ d ∈ ds, ∀ ρ, I ρ → step (g d) ρ = .ok (f d) (β d)) → (∀ d ∈ ds, I (β d)) →
      ∃ ρ', lcLoop step (ds.map g) acc ρ = .ok (acc.reverse ++ ds.filterMap f) ρ' ∧ (ρ' = ρ ∨ ∃ d ∈ ds, ρ' = β d)
  | [], acc, ρ, _, _, _ => ⟨ρ, by simp [lcLoop], .inl rfl⟩
  | d :: ds, acc, ρ, h, hs, hi => by
    have h1 := hs d (by simp) ρ h
    cases hf : f d with
    | none =>
      rw [hf] at h1
      obtain ⟨ρ', e, o⟩ := lcLoop_fm step g f β I ds acc (β d) (hi d (by simp)) (fun d hd => hs d (by simp [hd])) (fun d hd => hi d (by simp [hd]))
      refine ⟨ρ', ?_, .inr ?_⟩
      · simp [lcLoop, h1, e, hf]
      · rcases o with o | ⟨d', m, o⟩
        · exact ⟨d, by simp, o⟩
        · exact ⟨d', by simp [m], o⟩
    | some x =>
      rw [hf] at h1
      obtain ⟨ρ', e, o⟩ := lcLoop_fm step g f β I ds (x :: acc) (β d) (hi d (by simp)) (fun d hd => hs d (by simp [hd])) (fun d hd => hi d (by simp [hd]))
      refine ⟨ρ', ?_, .inr ?_⟩
      · simp [lcLoop, h1, e, hf]
      · rcases o with o | ⟨d', m, o⟩
        · exact ⟨d, by simp, o⟩
        · exact ⟨d', by simp [m], o⟩
def lcStep (Φ : Fns) (vs : List Nat) (tg : Tg) (ifs : List IE) (elt : IE) (d : D) (ρ2 : Env) : R (Option D) :=
  match bindT [] tg d (wipeE vs ρ2) with
  | some ρ3 => (evIfs Φ ifs ρ3).bind fun b ρ4 => match b with
    | true => (ev Φ elt ρ4).bind fun e ρ5 => .ok (some e) ρ5
    | false => .ok none ρ4
  | none => .stk
theorem ev_lc (Φ : Fns) (vs : List Nat) (tg : Tg) (it : It) (ifs : List IE) (elt : IE) (ρ ρ1 : Env) (ds : List D) (hit : evIt Φ it ρ = .ok ds ρ1) (hl : ds.length ≤ SZ) (hu : unowned ρ1 vs = true) :
    ev Φ (.lc vs tg it ifs elt) ρ = (lcLoop (lcStep Φ vs tg ifs elt) ds [] ρ1).bind fun es ρ6 => .ok (.lst true es) (backE ρ1 vs ρ6) := by
  simp only [ev, hit, rb_ok, hl, hu, and_self, if_true]
  rfl
theorem ev_lc_fm {α : Type} (Φ : Fns) (vs : List Nat) (tg : Tg) (it : It) (ifs : List IE) (elt : IE) (ρ ρ1 : Env) (ds : List α) (g : α → D) (f : α → Option D) (β : α → Env)
    (hit : evIt Φ it ρ = .ok (ds.map g) ρ1) (hl : ds.length ≤ SZ) (hu : unowned ρ1 vs = true)
    (hs : ∀ d ∈ ds, ∀ ρ2, wipeE vs ρ2 = wipeE vs ρ1 → lcStep Φ vs tg ifs elt (g d) ρ2 = .ok (f d) (β d)) (hw : ∀ d ∈ ds, wipeE vs (β d) = wipeE vs ρ1)
    (hb : ∀ d ∈ ds, backE ρ1 vs (β d) = ρ1) (hb0 : backE ρ1 vs ρ1 = ρ1) :
    ev Φ (.lc vs tg it ifs elt) ρ = .ok (.lst true (ds.filterMap f)) ρ1 := by
  rw [ev_lc Φ vs tg it ifs elt ρ ρ1 (ds.map g) hit (by simpa using hl) hu]
  obtain ⟨ρ', e, o⟩ := lcLoop_fm (lcStep Φ vs tg ifs elt) g f β (fun r => wipeE vs r = wipeE vs ρ1) ds [] ρ1 rfl hs hw
  rw [e]
  simp only [rb_ok, List.reverse_nil, List.nil_append]
  rcases o with o | ⟨d, m, o⟩
  · rw [o, hb0]
  · rw [o, hb d m]
theorem ev_lc_map {α : Type} (Φ : Fns) (vs : List Nat) (tg : Tg) (it : It) (elt : IE) (ρ ρ1 : Env) (ds : List α) (g : α → D) (f : α → D) (β : α → Env)
    (hit : evIt Φ it ρ = .ok (ds.map g) ρ1) (hl : ds.length ≤ SZ) (hu : unowned ρ1 vs = true)
    (hs : ∀ d ∈ ds, bindT [] tg (g d) (wipeE vs ρ1) = some (β d) ∧ ev Φ elt (β d) = .ok (f d) (β d)) (hw : ∀ d ∈ ds, wipeE vs (β d) = wipeE vs ρ1)
    (hb : ∀ d ∈ ds, backE ρ1 vs (β d) = ρ1) (hb0 : backE ρ1 vs ρ1 = ρ1) :
    ev Φ (.lc vs tg it [] elt) ρ = .ok (.lst true (ds.map f)) ρ1 := by
  rw [ev_lc_fm Φ vs tg it [] elt ρ ρ1 ds g (fun d => some (f d)) β hit hl hu ?_ hw hb hb0]
  · simp
  · intro d hd ρ2 h2
    obtain ⟨h3, h4⟩ := hs d hd
    simp only [lcStep, h2, h3, evIfs, rb_ok, h4]
theorem ev_lc_if {α : Type} (Φ : Fns) (vs : List Nat) (tg : Tg) (it : It) (c elt : IE) (ρ ρ1 : Env) (ds : List α) (g : α → D) (p : α → Bool) (f : α → D) (β : α → Env)
    (hit : evIt Φ it ρ = .ok (ds.map g) ρ1) (hl : ds.length ≤ SZ) (hu : unowned ρ1 vs = true)
    (hs : ∀ d ∈ ds, bindT [] tg (g d) (wipeE vs ρ1) = some (β d) ∧ ev Φ c (β d) = .ok (.bl (p d)) (β d) ∧ (p d = true → ev Φ elt (β d) = .ok (f d) (β d))) (hw : ∀ d ∈ ds, wipeE vs (β d) = wipeE vs ρ1)
    (hb : ∀ d ∈ ds, backE ρ1 vs (β d) = ρ1) (hb0 : backE ρ1 vs ρ1 = ρ1) :
    ev Φ (.lc vs tg it [c] elt) ρ = .ok (.lst true ((ds.filter p).map f)) ρ1 := by
  rw [ev_lc_fm Φ vs tg it [c] elt ρ ρ1 ds g (fun d => if p d then some (f d) else none) β hit hl hu ?_ hw hb hb0]
  · congr 2
    clear hl hs hw hb hit
    induction ds with
    | nil => rfl
    | cons d r ih => cases hp : p d <;> simp [hp, ih]
  · intro d hd ρ2 h2
    obtain ⟨h3, h4, h5⟩ := hs d hd
    cases hp : p d with
    | true => rw [hp] at h4; simp [lcStep, h2, h3, evIfs, rb_ok, h4, h5 hp]
    | false => rw [hp] at h4; simp [lcStep, h2, h3, evIfs, rb_ok, h4]
/-- a comprehension that changes what it stands in: all that is known of the state, and of each item -/
theorem lcLoop_st (step : D → Env → R (Option D)) (I : Nat → Env → Prop) (Q : D → Prop) :
    ∀ (ds acc : List D) (n : Nat) (ρ : Env), I n ρ → (∀ d ∈ ds, ∀ n ρ, I n ρ → ∃ e ρ', step d ρ = .ok (some e) ρ' ∧ I (n + 1) ρ' ∧ Q e) →
      ∃ es ρ', lcLoop step ds acc ρ = .ok (acc.reverse ++ es) ρ' ∧ I (n + ds.length) ρ' ∧ es.length = ds.length ∧ ∀ e ∈ es, Q e
  | [], acc, n, ρ, h, _ => ⟨[], ρ, by simp [lcLoop], h, rfl, by simp⟩
  | d :: ds, acc, n, ρ, h, hs => by
    obtain ⟨e, ρ1, h1, h2, h3⟩ := hs d (by simp) n ρ h
    obtain ⟨es, ρ', e2, i2, l2, q2⟩ := lcLoop_st step I Q ds (e :: acc) (n + 1) ρ1 h2 (fun d hd => hs d (by simp [hd]))
    refine ⟨e :: es, ρ', ?_, ?_, by simp [l2], ?_⟩
    · simp [lcLoop, h1, e2]
    · have : n + (d :: ds).length = n + 1 + ds.length := by simp; omega
      rw [this]; exact i2
    · intro x hx
      rcases List.mem_cons.1 hx with rfl | hx
      · exact h3
      · exact q2 x hx
/-- a loop: an invariant by the number of steps -/
theorem forL_inv (lk : List Nat) (tg : Tg) (body : Env → SR) (I : Nat → Env → Prop) :
    ∀ (ds : List D) (n : Nat) (ρ : Env), I n ρ → (∀ j (hj : j < ds.length) ρ, I (n + j) ρ → ∃ ρ1 ρ2, bindT lk tg ds[j] ρ = some ρ1 ∧ body ρ1 = .nx ρ2 ∧ I (n + j + 1) ρ2) →
      ∃ ρ', forL lk tg body ds ρ = .nx ρ' ∧ I (n + ds.length) ρ'
  | [], n, ρ, h, _ => ⟨ρ, rfl, h⟩
  | d :: ds, n, ρ, h, hs => by
    obtain ⟨ρ1, ρ2, h1, h2, h3⟩ := hs 0 (by simp) ρ h
    obtain ⟨ρ', e, i⟩ := forL_inv lk tg body I ds (n + 1) ρ2 h3 (fun j hj ρ hi => by
      have := hs (j + 1) (by simp; omega) ρ (by have : n + (j + 1) = n + 1 + j := by omega
                                                rw [this]; exact hi)
      obtain ⟨a, b, c1, c2, c3⟩ := this
      refine ⟨a, b, by simpa using c1, c2, ?_⟩
      have : n + 1 + j + 1 = n + (j + 1) + 1 := by omega
      rw [this]; exact c3)
    refine ⟨ρ', ?_, ?_⟩
    · simp only [List.getElem_cons_zero] at h1
      simp [forL, h1, h2, e]
    · have : n + (d :: ds).length = n + 1 + ds.length := by simp; omega
      rw [this]; exact i
theorem rangeD_map (n : Nat) : ∀ (i : Int), rangeD n i 1 = (List.range n).map fun j : Nat => D.int (i + (j : Int)) := by
  induction n with
  | zero => intro i; rfl
  | succ n ih =>
    intro i
    rw [List.range_succ_eq_map]
    simp only [rangeD, ih, List.map_cons, List.map_map]
    congr 1
    · simp
    · apply List.map_congr_left
      intro j _
      simp; omega
theorem rangeOf_nat (n : Nat) (h : n ≤ SZ) : rangeOf [.int (n : Int)] = some ((List.range n).map fun j : Nat => D.int (j : Int)) := by
  have h1 : rangeOk (n : Int) = true := by
    unfold SZ at h
    simp [rangeOk]; omega
  simp [rangeOf, h1, h, rangeD_map]
theorem intsOf_mapI (xs : List Int) : intsOf (xs.map D.int) = some xs := by
  induction xs with
  | nil => rfl
  | cons x r ih => simp [intsOf, ih]
theorem boolsOf_mapB (xs : List Bool) : boolsOf (xs.map D.bl) = some xs := by
  induction xs with
  | nil => rfl
  | cons x r ih => simp [boolsOf, ih]
theorem ownL_int (xs : List Int) : ownL (xs.map D.int) = false := by
  induction xs with
  | nil => rfl
  | cons x r ih => simp [ownL, D.own, ih]
theorem frzL_int (xs : List Int) : frzL (xs.map D.int) = xs.map D.int := by
  induction xs with
  | nil => rfl
  | cons x r ih => simp [frzL, D.frz, ih]
theorem isPdL_int (xs : List Int) : isPdL (xs.map D.int) = true := by
  induction xs with
  | nil => rfl
  | cons x r ih => simp [isPdL, D.isPd, ih]
theorem sum_map (xs : List Int) : sumD (.tup (xs.map D.int)) = some (.int xs.sum) := by simp [sumD, seqOf, intsOf_mapI]
theorem suml_map (o : Bool) (xs : List Int) : sumD (.lst o (xs.map D.int)) = some (.int xs.sum) := by simp [sumD, seqOf, intsOf_mapI]
theorem getE_set_eqQ {ρ : Env} {i : Nat} {o : Option D} (h : i < ρ.length) : getE (ρ.set i o) i = o := by simp [getE, h]
theorem getE_set_neQ {ρ : Env} {i j : Nat} {o : Option D} (h : i ≠ j) : getE (ρ.set i o) j = getE ρ j := by simp [getE, List.getElem?_set_ne h]
end Mi
namespace Mi
theorem run_ret {P : List Fd} {k f : Nat} {as : List D} {fd : Fd} {ρ0 ρ1 : Env} {lk : List Nat} {d : D} {xs : List D} (h : P[f]? = some fd) (hl : as.length = fd.np) (hs : startE fd as = ρ0) (hk : lockOf fd = lk)
    (hx : exSs (runN P k) lk fd.body ρ0 = .ret d ρ1) (ho : outAt fd.fz 0 fd.np ρ0 ρ1 = some xs) (hm : fd.mkr = false := by rfl) : runN P (k + 1) f as = .ok d xs := by
  rw [runN_succ P k f as fd h]
  simp only [callF, callF0, hm, hl, if_true, hs, hk, hx, ho, Bool.false_eq_true, if_false]
theorem run_nx {P : List Fd} {k f : Nat} {as : List D} {fd : Fd} {ρ0 ρ1 : Env} {lk : List Nat} {xs : List D} (h : P[f]? = some fd) (hl : as.length = fd.np) (hs : startE fd as = ρ0) (hk : lockOf fd = lk)
    (hx : exSs (runN P k) lk fd.body ρ0 = .nx ρ1) (ho : outAt fd.fz 0 fd.np ρ0 ρ1 = some xs) (hm : fd.mkr = false := by rfl) : runN P (k + 1) f as = .ok .non xs := by
  rw [runN_succ P k f as fd h]
  simp only [callF, callF0, hm, hl, if_true, hs, hk, hx, ho, Bool.false_eq_true, if_false]
/-- .. of a def that makes lambdas -/
theorem run_retM {P : List Fd} {k f : Nat} {as : List D} {fd : Fd} {ρ0 ρ1 : Env} {lk : List Nat} {d : D} {xs : List D} (h : P[f]? = some fd) (hl : as.length = fd.np) (hs : startE fd as = ρ0) (hk : lockOf fd = lk)
    (hx : exSs (runN P k) lk fd.body ρ0 = .ret d ρ1) (ho : outAt fd.fz 0 fd.np ρ0 ρ1 = some xs) (hm : fd.mkr = true) (hp : plainL as = true) (hd : d.plain = true) (hxs : plainL xs = true) : runN P (k + 1) f as = .ok d xs := by
  rw [runN_succ P k f as fd h]
  simp only [callF, callF0, hm, hl, if_true, hs, hk, hx, ho, hp, noLam, hd, hxs, Bool.and_self]
end Mi
namespace Mi
/-- a token that keeps simp from working at what it stands for -/
structure Tok {γ : Type} (f : γ) : Type where
def rb {α β : Type} (r : R α) (f : α → Env → R β) (t : Tok f) : R β := r.bind f
def ofRb {α : Type} (r : R α) (f : α → Env → SR) (t : Tok f) : SR := ofR r f
theorem bind_rb {α β : Type} (r : R α) (f : α → Env → R β) : r.bind f = rb r f ⟨⟩ := rfl
theorem ofR_rb {α : Type} (r : R α) (f : α → Env → SR) : ofR r f = ofRb r f ⟨⟩ := rfl
theorem ofR_ok {α : Type} (a : α) (ρ : Env) (f : α → Env → SR) : ofR (.ok a ρ) f = f a ρ := rfl
end Mi
namespace Mi
theorem isD_tt (xs : List D) : isD (.tup xs) (.typ "tuple") = some (.bl true) := rfl
theorem isD_ti (xs : List D) : isD (.tup xs) (.typ "int") = some (.bl false) := rfl
theorem isD_lt (o : Bool) (xs : List D) : isD (.lst o xs) (.typ "tuple") = some (.bl false) := rfl
theorem isD_li (o : Bool) (xs : List D) : isD (.lst o xs) (.typ "int") = some (.bl false) := rfl
theorem isD_nt : isD .non (.typ "tuple") = some (.bl false) := rfl
theorem isD_ni : isD .non (.typ "int") = some (.bl false) := rfl
theorem isD_nb : isD .non (.typ "bool") = some (.bl false) := rfl
theorem isD_ii (i : Int) : isD (.int i) (.typ "int") = some (.bl true) := rfl
theorem isD_ib (i : Int) : isD (.int i) (.typ "bool") = some (.bl false) := rfl
theorem isD_it (i : Int) : isD (.int i) (.typ "tuple") = some (.bl false) := rfl
theorem isD_bi (b : Bool) : isD (.bl b) (.typ "int") = some (.bl true) := rfl
theorem isD_bb (b : Bool) : isD (.bl b) (.typ "bool") = some (.bl true) := rfl
theorem isD_bt (b : Bool) : isD (.bl b) (.typ "tuple") = some (.bl false) := rfl
end Mi
namespace Mi
theorem intsOf_mapf {α : Type} (xs : List α) (f : α → Int) : intsOf (xs.map fun x => D.int (f x)) = some (xs.map f) := by
  induction xs with
  | nil => rfl
  | cons x r ih => simp [intsOf, ih]
theorem boolsOf_mapf {α : Type} (xs : List α) (f : α → Bool) : boolsOf (xs.map fun x => D.bl (f x)) = some (xs.map f) := by
  induction xs with
  | nil => rfl
  | cons x r ih => simp [boolsOf, ih]
theorem allD_mapf {α : Type} (o : Bool) (xs : List α) (f : α → Bool) : allD (.lst o (xs.map fun x => D.bl (f x))) = some (.bl (xs.all f)) := by
  have : ((xs.map f).all id) = xs.all f := by induction xs <;> simp_all
  simp only [allD, boolsOf_mapf, Option.map_some, this]
theorem frzL_mapi {α : Type} (xs : List α) (f : α → Int) : frzL (xs.map fun x => D.int (f x)) = xs.map fun x => D.int (f x) := by
  induction xs with
  | nil => rfl
  | cons x r ih => simp [frzL, D.frz, ih]
theorem ownL_mapi {α : Type} (xs : List α) (f : α → Int) : ownL (xs.map fun x => D.int (f x)) = false := by
  induction xs with
  | nil => rfl
  | cons x r ih => simp [ownL, D.own, ih]
end Mi
namespace Mi
theorem forL_inv0 (lk : List Nat) (tg : Tg) (body : Env → SR) (I : Nat → Env → Prop) (ds : List D) (n : Nat) (hn : ds.length = n) (ρ : Env) (h : I 0 ρ)
    (hs : ∀ j (hj : j < ds.length) ρ, I j ρ → ∃ ρ1 ρ2, bindT lk tg ds[j] ρ = some ρ1 ∧ body ρ1 = .nx ρ2 ∧ I (j + 1) ρ2) : ∃ ρ', forL lk tg body ds ρ = .nx ρ' ∧ I n ρ' := by
  have := forL_inv lk tg body I ds 0 ρ h (fun j hj ρ hi => by simpa using hs j hj ρ (by simpa using hi))
  subst hn
  simpa using this
end Mi
end

section
set_option linter.all false
set_option maxRecDepth 100000
/-! The language's own equations as rewriting rules that are no mere unfolding (so that simp takes them one by one). -/
namespace Mi
theorem nr {α : Type} {a b : α} (h : a = b) : a = b := by
  cases h; exact Eq.trans (Eq.refl _) (Eq.refl _)
def E_const := fun Φ ρ d => nr (ev.eq_1 Φ ρ d)
def E_glob := fun Φ ρ d => nr (ev.eq_2 Φ ρ d)
def E_var := fun Φ ρ i => nr (ev.eq_3 Φ ρ i)
def E_mov := fun Φ ρ i => nr (ev.eq_4 Φ ρ i)
def E_op := fun Φ ρ o es => nr (ev.eq_8 Φ ρ o es)
def E_isn := fun Φ ρ n es => nr (ev.eq_9 Φ ρ n es)
def E_neg := fun Φ ρ es => nr (ev.eq_10 Φ ρ es)
def E_notE := fun Φ ρ e => nr (ev.eq_11 Φ ρ e)
def E_chain := fun Φ ρ o1 o2 es cs => nr (ev.eq_12 Φ ρ o1 o2 es cs)
def E_andE := fun Φ ρ a b => nr (ev.eq_13 Φ ρ a b)
def E_orE := fun Φ ρ a b => nr (ev.eq_14 Φ ρ a b)
def E_ite := fun Φ ρ c a b => nr (ev.eq_15 Φ ρ c a b)
def E_tup := fun Φ ρ es => nr (ev.eq_16 Φ ρ es)
def E_lst := fun Φ ρ es => nr (ev.eq_17 Φ ρ es)
def E_idx := fun Φ ρ es => nr (ev.eq_18 Φ ρ es)
def E_slc := fun Φ ρ es lo hi => nr (ev.eq_19 Φ ρ es lo hi)
def E_cb := fun Φ ρ p es => nr (ev.eq_20 Φ ρ p es)
def E_call := fun Φ ρ f es => nr (ev.eq_21 Φ ρ f es)
def E_callK := fun Φ ρ f es perm => nr (ev.eq_22 Φ ρ f es perm)
def E_rng := fun Φ ρ tup es => nr (ev.eq_29 Φ ρ tup es)
def E_frz := fun Φ ρ e => nr (ev.eq_30 Φ ρ e)
def E_lam := fun Φ ρ k => nr (ev.eq_23 Φ ρ k)
def E_callM := fun Φ ρ f es => nr (ev.eq_24 Φ ρ f es)
def E_isx := fun Φ ρ ex es => nr (ev.eq_27 Φ ρ ex es)
def E_fld := fun Φ ρ ex e => nr (ev.eq_28 Φ ρ ex e)
def Es_lam := fun Φ ρ k r => nr (evs.eq_5 Φ ρ (IE.lam k) r (fun _ h => nomatch h) (fun _ h => nomatch h) (fun _ h => nomatch h))
def Es_callM := fun Φ ρ f es r => nr (evs.eq_5 Φ ρ (IE.callM f es) r (fun _ h => nomatch h) (fun _ h => nomatch h) (fun _ h => nomatch h))
def Es_isx := fun Φ ρ ex es r => nr (evs.eq_5 Φ ρ (IE.isx ex es) r (fun _ h => nomatch h) (fun _ h => nomatch h) (fun _ h => nomatch h))
def Es_fld := fun Φ ρ ex e r => nr (evs.eq_5 Φ ρ (IE.fld ex e) r (fun _ h => nomatch h) (fun _ h => nomatch h) (fun _ h => nomatch h))
def Es_nil := fun Φ ρ => nr (evs.eq_1 Φ ρ)
def Es_peek := fun Φ ρ i es => nr (evs.eq_2 Φ ρ i es)
def Es_peekF := fun Φ ρ i es => nr (evs.eq_3 Φ ρ i es)
def Es_star := fun Φ ρ e es => nr (evs.eq_4 Φ ρ e es)
def Es_const := fun Φ ρ d_ r => nr (evs.eq_5 Φ ρ (IE.const d_) r (fun _ h => nomatch h) (fun _ h => nomatch h) (fun _ h => nomatch h))
def Es_glob := fun Φ ρ d_ r => nr (evs.eq_5 Φ ρ (IE.glob d_) r (fun _ h => nomatch h) (fun _ h => nomatch h) (fun _ h => nomatch h))
def Es_var := fun Φ ρ i_ r => nr (evs.eq_5 Φ ρ (IE.var i_) r (fun _ h => nomatch h) (fun _ h => nomatch h) (fun _ h => nomatch h))
def Es_mov := fun Φ ρ i_ r => nr (evs.eq_5 Φ ρ (IE.mov i_) r (fun _ h => nomatch h) (fun _ h => nomatch h) (fun _ h => nomatch h))
def Es_op := fun Φ ρ o_ es_ r => nr (evs.eq_5 Φ ρ (IE.op o_ es_) r (fun _ h => nomatch h) (fun _ h => nomatch h) (fun _ h => nomatch h))
def Es_isn := fun Φ ρ n_ es_ r => nr (evs.eq_5 Φ ρ (IE.isn n_ es_) r (fun _ h => nomatch h) (fun _ h => nomatch h) (fun _ h => nomatch h))
def Es_neg := fun Φ ρ es_ r => nr (evs.eq_5 Φ ρ (IE.neg es_) r (fun _ h => nomatch h) (fun _ h => nomatch h) (fun _ h => nomatch h))
def Es_notE := fun Φ ρ e_ r => nr (evs.eq_5 Φ ρ (IE.notE e_) r (fun _ h => nomatch h) (fun _ h => nomatch h) (fun _ h => nomatch h))
def Es_chain := fun Φ ρ o1_ o2_ es_ cs_ r => nr (evs.eq_5 Φ ρ (IE.chain o1_ o2_ es_ cs_) r (fun _ h => nomatch h) (fun _ h => nomatch h) (fun _ h => nomatch h))
def Es_andE := fun Φ ρ a_ b_ r => nr (evs.eq_5 Φ ρ (IE.andE a_ b_) r (fun _ h => nomatch h) (fun _ h => nomatch h) (fun _ h => nomatch h))
def Es_orE := fun Φ ρ a_ b_ r => nr (evs.eq_5 Φ ρ (IE.orE a_ b_) r (fun _ h => nomatch h) (fun _ h => nomatch h) (fun _ h => nomatch h))
def Es_ite := fun Φ ρ c_ a_ b_ r => nr (evs.eq_5 Φ ρ (IE.ite c_ a_ b_) r (fun _ h => nomatch h) (fun _ h => nomatch h) (fun _ h => nomatch h))
def Es_tup := fun Φ ρ es_ r => nr (evs.eq_5 Φ ρ (IE.tup es_) r (fun _ h => nomatch h) (fun _ h => nomatch h) (fun _ h => nomatch h))
def Es_lst := fun Φ ρ es_ r => nr (evs.eq_5 Φ ρ (IE.lst es_) r (fun _ h => nomatch h) (fun _ h => nomatch h) (fun _ h => nomatch h))
def Es_idx := fun Φ ρ es_ r => nr (evs.eq_5 Φ ρ (IE.idx es_) r (fun _ h => nomatch h) (fun _ h => nomatch h) (fun _ h => nomatch h))
def Es_slc := fun Φ ρ es_ lo_ hi_ r => nr (evs.eq_5 Φ ρ (IE.slc es_ lo_ hi_) r (fun _ h => nomatch h) (fun _ h => nomatch h) (fun _ h => nomatch h))
def Es_cb := fun Φ ρ p_ es_ r => nr (evs.eq_5 Φ ρ (IE.cb p_ es_) r (fun _ h => nomatch h) (fun _ h => nomatch h) (fun _ h => nomatch h))
def Es_call := fun Φ ρ f_ es_ r => nr (evs.eq_5 Φ ρ (IE.call f_ es_) r (fun _ h => nomatch h) (fun _ h => nomatch h) (fun _ h => nomatch h))
def Es_callK := fun Φ ρ f_ es_ perm_ r => nr (evs.eq_5 Φ ρ (IE.callK f_ es_ perm_) r (fun _ h => nomatch h) (fun _ h => nomatch h) (fun _ h => nomatch h))
def Es_rng := fun Φ ρ tup_ es_ r => nr (evs.eq_5 Φ ρ (IE.rng tup_ es_) r (fun _ h => nomatch h) (fun _ h => nomatch h) (fun _ h => nomatch h))
def Es_frz := fun Φ ρ e_ r => nr (evs.eq_5 Φ ρ (IE.frz e_) r (fun _ h => nomatch h) (fun _ h => nomatch h) (fun _ h => nomatch h))
def Es_lc := fun Φ ρ vs_ tg_ it_ ifs_ elt_ r => nr (evs.eq_5 Φ ρ (IE.lc vs_ tg_ it_ ifs_ elt_) r (fun _ h => nomatch h) (fun _ h => nomatch h) (fun _ h => nomatch h))
def Eb_nil := fun Φ ρ => nr (evB.eq_1 Φ ρ)
def Eb_one := fun Φ ρ e => nr (evB.eq_2 Φ ρ e)
def Ei_nil := fun Φ ρ => nr (evIfs.eq_1 Φ ρ)
def Ei_cons := fun Φ ρ e es => nr (evIfs.eq_2 Φ ρ e es)
def It_seq := fun Φ ρ es => nr (evIt.eq_1 Φ ρ es)
def It_range := fun Φ ρ es => nr (evIt.eq_2 Φ ρ es)
def It_enum := fun Φ ρ es => nr (evIt.eq_3 Φ ρ es)
def It_zip := fun Φ ρ es => nr (evIt.eq_4 Φ ρ es)
def S_ex := fun Φ lk ρ e => nr (exS.eq_1 Φ lk ρ e)
def S_asg := fun Φ lk ρ tg e => nr (exS.eq_2 Φ lk ρ tg e)
def S_par := fun Φ lk ρ is es => nr (exS.eq_3 Φ lk ρ is es)
def S_seti := fun Φ lk ρ i e ix => nr (exS.eq_4 Φ lk ρ i e ix)
def S_app := fun Φ lk ρ i e => nr (exS.eq_5 Φ lk ρ i e)
def S_ext := fun Φ lk ρ i e => nr (exS.eq_7 Φ lk ρ i e)
def S_aug := fun Φ lk ρ i s e => nr (exS.eq_8 Φ lk ρ i s e)
def S_augi := fun Φ lk ρ i s ix e => nr (exS.eq_9 Φ lk ρ i s ix e)
def S_ret := fun Φ lk ρ e => nr (exS.eq_10 Φ lk ρ e)
def S_ifs := fun Φ lk ρ c a b => nr (exS.eq_12 Φ lk ρ c a b)
def S_for_ := fun Φ lk ρ tg it b => nr (exS.eq_13 Φ lk ρ tg it b)
def S_while_ := fun Φ lk ρ c b => nr (exS.eq_14 Φ lk ρ c b)
def S_never := fun Φ lk ρ => nr (exS.eq_17 Φ lk ρ)
def S_tryA := fun Φ lk ρ ex k b i j => nr (exS.eq_15 Φ lk ρ ex k b i j)
def Ss_nil := fun Φ lk ρ => nr (exSs.eq_1 Φ lk ρ)
def Ss_cons := fun Φ lk ρ s r => nr (exSs.eq_2 Φ lk ρ s r)
def rngK (tup : Bool) (o : Option (List D)) (ρ : Env) : R D := match o with
  | some ds => .ok (if tup then .tup ds else .lst true ds) ρ
  | none => .stk
theorem E_rng2 (Φ : Fns) (ρ : Env) (tup : Bool) (es : List IE) : ev Φ (.rng tup es) ρ = (evs Φ es ρ).bind fun os ρ1 => rngK tup ((getAll ρ1 os).bind rangeOf) ρ1 := nr (ev.eq_29 Φ ρ tup es)
def rngK_t (ds : List D) (ρ : Env) := nr (show rngK true (some ds) ρ = .ok (.tup ds) ρ from rfl)
def rngK_f (ds : List D) (ρ : Env) := nr (show rngK false (some ds) ρ = .ok (.lst true ds) ρ from rfl)
def rbk {α β : Type} (a : α) (ρ : Env) (f : α → Env → R β) (t : Tok f) := nr (show rb (.ok a ρ) f t = f a ρ from rfl)
def ork {α : Type} (a : α) (ρ : Env) (f : α → Env → SR) (t : Tok f) := nr (show ofRb (.ok a ρ) f t = f a ρ from rfl)
def ob_some {α β : Type} (a : α) (f : α → Option β) := nr (Option.bind_some (a := a) (f := f))
def om_some {α β : Type} (a : α) (f : α → β) := nr (Option.map_some (a := a) (f := f))
def oo_some {α : Type} (a : α) (ρ : Env) := nr (show ofOpt (some a) ρ = .ok a ρ from rfl)
end Mi
end

section
set_option linter.all false
set_option maxRecDepth 100000
namespace Mi
theorem sIx_nat (n d k : Nat) : HT.sIx n d (some (k : Int)) = min k n := by
  show (if (k : Int) < 0 then ((k : Int) + (n : Int)).toNat else min (k : Int).toNat n) = min k n
  rw [if_neg (by omega), Int.toNat_natCast]
theorem cut_lo (xs : List D) (j : Nat) : cutD xs (some (j : Int)) none = xs.drop j := by
  unfold cutD
  rw [sIx_nat]
  show (xs.drop (min j xs.length)).take (xs.length - min j xs.length) = xs.drop j
  rw [List.take_of_length_le (by simp)]
  by_cases h : j ≤ xs.length
  · rw [Nat.min_eq_left h]
  · rw [Nat.min_eq_right (by omega), List.drop_eq_nil_of_le (Nat.le_refl _), List.drop_eq_nil_of_le (by omega)]
theorem cut_hi (xs : List D) (j : Nat) : cutD xs none (some (j : Int)) = xs.take j := by
  unfold cutD
  rw [sIx_nat]
  show (xs.drop 0).take (min j xs.length - 0) = xs.take j
  simp only [List.drop_zero, Nat.sub_zero]
  by_cases h : j ≤ xs.length
  · rw [Nat.min_eq_left h]
  · rw [Nat.min_eq_right (by omega), List.take_of_length_le (Nat.le_refl _), List.take_of_length_le (by omega)]
theorem atI_nat {α : Type} (xs : List α) (j : Nat) : L2.atI xs (j : Int) = xs[j]? := by
  unfold L2.atI L2.ixN
  by_cases h : j < xs.length
  · simp [h]
  · simp [h]
theorem ixN_nat (n j : Nat) (h : j < n) : L2.ixN n (j : Int) = some j := by
  unfold L2.ixN
  simp [h]
theorem maxI_le (is : List Int) : ∀ m, m ≤ maxI m is ∧ (∀ x ∈ is, x ≤ maxI m is) ∧ (maxI m is = m ∨ maxI m is ∈ is) := by
  induction is with
  | nil => intro m; simp [maxI]
  | cons x r ih =>
    intro m
    simp only [maxI]
    by_cases h : x > m
    · rw [if_pos h]
      obtain ⟨a, b, c⟩ := ih x
      refine ⟨by omega, ?_, ?_⟩
      · intro y hy; rcases List.mem_cons.1 hy with rfl | hy
        · exact a
        · exact b y hy
      · rcases c with c | c
        · exact .inr (by rw [c]; simp)
        · exact .inr (by simp [c])
    · rw [if_neg h]
      obtain ⟨a, b, c⟩ := ih m
      refine ⟨a, ?_, ?_⟩
      · intro y hy; rcases List.mem_cons.1 hy with rfl | hy
        · omega
        · exact b y hy
      · rcases c with c | c
        · exact .inl c
        · exact .inr (by simp [c])
theorem minI_le (is : List Int) : ∀ m, minI m is ≤ m ∧ (∀ x ∈ is, minI m is ≤ x) ∧ (minI m is = m ∨ minI m is ∈ is) := by
  induction is with
  | nil => intro m; simp [minI]
  | cons x r ih =>
    intro m
    simp only [minI]
    by_cases h : x < m
    · rw [if_pos h]
      obtain ⟨a, b, c⟩ := ih x
      refine ⟨by omega, ?_, ?_⟩
      · intro y hy; rcases List.mem_cons.1 hy with rfl | hy
        · exact a
        · exact b y hy
      · rcases c with c | c
        · exact .inr (by rw [c]; simp)
        · exact .inr (by simp [c])
    · rw [if_neg h]
      obtain ⟨a, b, c⟩ := ih m
      refine ⟨a, ?_, ?_⟩
      · intro y hy; rcases List.mem_cons.1 hy with rfl | hy
        · omega
        · exact b y hy
      · rcases c with c | c
        · exact .inl c
        · exact .inr (by simp [c])
/-- the greatest of a list that is not empty, what is known of it -/
theorem max1_spec (o : Bool) (xs : List Int) (h : xs ≠ []) : ∃ m, max1 (.lst o (xs.map D.int)) = some (.int m) ∧ m ∈ xs ∧ ∀ x ∈ xs, x ≤ m := by
  cases xs with
  | nil => exact absurd rfl h
  | cons x r =>
    obtain ⟨a, b, c⟩ := maxI_le r x
    refine ⟨maxI x r, ?_, ?_, ?_⟩
    · have e := intsOf_mapI (x :: r)
      simp only [max1, max1I, e]
    · rcases c with c | c
      · rw [c]; simp
      · simp [c]
    · intro y hy; rcases List.mem_cons.1 hy with rfl | hy
      · exact a
      · exact b y hy
theorem min1_spec (o : Bool) (xs : List Int) (h : xs ≠ []) : ∃ m, min1 (.lst o (xs.map D.int)) = some (.int m) ∧ m ∈ xs ∧ ∀ x ∈ xs, m ≤ x := by
  cases xs with
  | nil => exact absurd rfl h
  | cons x r =>
    obtain ⟨a, b, c⟩ := minI_le r x
    refine ⟨minI x r, ?_, ?_, ?_⟩
    · have e := intsOf_mapI (x :: r)
      simp only [min1, e]
    · rcases c with c | c
      · rw [c]; simp
      · simp [c]
    · intro y hy; rcases List.mem_cons.1 hy with rfl | hy
      · exact a
      · exact b y hy
theorem getAll_append (ρ : Env) (a b : List OV) : getAll ρ (a ++ b) = (getAll ρ a).bind fun x => (getAll ρ b).map fun y => x ++ y := by
  induction a with
  | nil => simp [getAll]
  | cons o r ih =>
    simp only [List.cons_append, getAll, ih]
    cases o.get ρ with
    | none => simp
    | some d =>
      cases getAll ρ r with
      | none => simp
      | some x => cases getAll ρ b <;> simp
theorem getAll_vals (ρ : Env) (xs : List D) : getAll ρ (xs.map OV.val) = some xs := by
  induction xs with
  | nil => rfl
  | cons x r ih => simp [getAll, OV.get, ih]
end Mi
namespace Mi
theorem sz_0 : (0 ≤ SZ) = True := by simp [SZ]
theorem sz_1 : (1 ≤ SZ) = True := by simp [SZ]
theorem sz_2 : (2 ≤ SZ) = True := by simp [SZ]
theorem sz_3 : (3 ≤ SZ) = True := by simp [SZ]
theorem sz_4 : (4 ≤ SZ) = True := by simp [SZ]
theorem sz_5 : (5 ≤ SZ) = True := by simp [SZ]
theorem sz_6 : (6 ≤ SZ) = True := by simp [SZ]
theorem sz_7 : (7 ≤ SZ) = True := by simp [SZ]
theorem sz_8 : (8 ≤ SZ) = True := by simp [SZ]
theorem sz_9 : (9 ≤ SZ) = True := by simp [SZ]
theorem sz_10 : (10 ≤ SZ) = True := by simp [SZ]
theorem sz_11 : (11 ≤ SZ) = True := by simp [SZ]
theorem sz_12 : (12 ≤ SZ) = True := by simp [SZ]
theorem sz_13 : (13 ≤ SZ) = True := by simp [SZ]
theorem sz_14 : (14 ≤ SZ) = True := by simp [SZ]
theorem sz_15 : (15 ≤ SZ) = True := by simp [SZ]
theorem sz_16 : (16 ≤ SZ) = True := by simp [SZ]
theorem sz_17 : (17 ≤ SZ) = True := by simp [SZ]
theorem sz_18 : (18 ≤ SZ) = True := by simp [SZ]
theorem sz_19 : (19 ≤ SZ) = True := by simp [SZ]
theorem sz_20 : (20 ≤ SZ) = True := by simp [SZ]
end Mi
namespace Mi
theorem max1_is (o : Bool) (xs : List Int) (m : Int) (h : m ∈ xs) (hm : ∀ x ∈ xs, x ≤ m) : max1 (.lst o (xs.map D.int)) = some (.int m) := by
  obtain ⟨a, e, h1, h2⟩ := max1_spec o xs (List.ne_nil_of_mem h)
  have := hm a h1
  have := h2 m h
  rw [e]; congr 2; omega
theorem min1_is (o : Bool) (xs : List Int) (m : Int) (h : m ∈ xs) (hm : ∀ x ∈ xs, m ≤ x) : min1 (.lst o (xs.map D.int)) = some (.int m) := by
  obtain ⟨a, e, h1, h2⟩ := min1_spec o xs (List.ne_nil_of_mem h)
  have := hm a h1
  have := h2 m h
  rw [e]; congr 2; omega
theorem isPdL_map {α : Type} (xs : List α) (f : α → D) (h : ∀ x ∈ xs, (f x).isPd = true) : isPdL (xs.map f) = true := by
  induction xs with
  | nil => rfl
  | cons x r ih => simp only [List.map_cons, isPdL, h x (by simp), Bool.true_and]; exact ih (fun y hy => h y (by simp [hy]))
theorem pdL_map {α : Type} (xs : List α) (f : α → D) : pdL (xs.map f) = xs.map fun x => (f x).pd := by
  induction xs with
  | nil => rfl
  | cons x r ih => simp only [List.map_cons, pdL, ih]
theorem frzL_map {α : Type} (xs : List α) (f : α → D) (h : ∀ x ∈ xs, (f x).frz = f x) : frzL (xs.map f) = xs.map f := by
  induction xs with
  | nil => rfl
  | cons x r ih => simp only [List.map_cons, frzL, h x (by simp)]; rw [ih (fun y hy => h y (by simp [hy]))]
theorem ownL_map {α : Type} (xs : List α) (f : α → D) (h : ∀ x ∈ xs, (f x).own = false) : ownL (xs.map f) = false := by
  induction xs with
  | nil => rfl
  | cons x r ih => simp only [List.map_cons, ownL, h x (by simp), Bool.false_or]; exact ih (fun y hy => h y (by simp [hy]))
theorem canLayAll_map {α : Type} (xs : List α) (f : α → PySem.PyData) (h : ∀ x ∈ xs, (f x).canLay0 = true) : PySem.PyData.canLayAll0 (xs.map f) = true := by
  induction xs with
  | nil => rfl
  | cons x r ih => simp only [List.map_cons, PySem.PyData.canLayAll0, h x (by simp), Bool.true_and]; exact ih (fun y hy => h y (by simp [hy]))
theorem depthAll_map {α : Type} (xs : List α) (f : α → PySem.PyData) (n : Nat) (h : ∀ x ∈ xs, (f x).depth ≤ n) : PySem.PyData.depthAll (xs.map f) ≤ n := by
  induction xs with
  | nil => exact Nat.zero_le _
  | cons x r ih =>
    simp only [List.map_cons, PySem.PyData.depthAll]
    exact Nat.max_le.mpr ⟨h x (by simp), ih (fun y hy => h y (by simp [hy]))⟩
end Mi
namespace Mi
theorem enumD_map {α : Type} (f : α → D) (xs : List α) : ∀ k, enumD k (xs.map f) = (xs.zipIdx k).map fun p => D.tup [.int (p.2 : Int), f p.1] := by
  induction xs with
  | nil => intro k; rfl
  | cons x r ih => intro k; simp [enumD, ih]
theorem rangeOf_two (a b : Int) (ha : rangeOk a = true) (hb : rangeOk b = true) (h : (b - a).toNat ≤ SZ) : rangeOf [.int a, .int b] = some ((List.range (b - a).toNat).map fun j : Nat => D.int (a + (j : Int))) := by
  simp [rangeOf, ha, hb, h, rangeD_map]
theorem getAll_star (ρ : Env) (a : OV) (xs : List D) (d : D) (h : a.get ρ = some d) : getAll ρ (a :: (xs.map OV.val ++ [])) = some (d :: xs) := by
  rw [List.append_nil, getAll, h, getAll_vals]
end Mi
namespace Mi
theorem modD_pos (i j : Int) (h : 0 < j) : modD (.int i) (.int j) = some (.int (i % j)) := by simp [modD, h]
theorem fdivD_pos (i j : Int) (h : 0 < j) (h2 : j < 1073741824) : fdivD (.int i) (.int j) = some (.int (i / j)) := by simp [fdivD, h, h2]
theorem mulD_l (i j : Int) (h : i.natAbs < 18446744073709551616) : mulD (.int i) (.int j) = some (.int (i * j)) := by simp [mulD, mulOk, h]
theorem mulD_r (i j : Int) (h : j.natAbs < 18446744073709551616) : mulD (.int i) (.int j) = some (.int (i * j)) := by simp [mulD, mulOk, h]
theorem pow3D (i : Int) (h : i.natAbs < 2 ^ 1000) : powD (.int i) (.int 3) = some (.int (i ^ 3)) := by
  have h1 : i.natAbs.log2 < 1000 := by
    by_cases h0 : i.natAbs = 0
    · rw [h0]; decide
    · exact (Nat.log2_lt h0).2 h
  have h2 : (0 : Int) ≤ 3 ∧ (3 : Int) ≤ 1000000 ∧ (i.natAbs.log2 + 1) * (3 : Int).toNat ≤ 1000000 := ⟨by decide, by decide, by
    have : (3 : Int).toNat = 3 := rfl
    rw [this]; omega⟩
  rw [powD, if_pos h2]
  rfl
theorem at3_0 (a b c : D) : L2.atI [a, b, c] 0 = some a := rfl
theorem at3_1 (a b c : D) : L2.atI [a, b, c] 1 = some b := rfl
theorem at3_2 (a b c : D) : L2.atI [a, b, c] 2 = some c := rfl
theorem ix3_0 : L2.ixN 3 0 = some 0 := rfl
theorem ix3_1 : L2.ixN 3 1 = some 1 := rfl
theorem ix3_2 : L2.ixN 3 2 = some 2 := rfl
/-- what a law draws its numbers from -/
def potD (a b c : Int) : D := .lst true [.int a, .int b, .int c]
def Pot (n : Nat) (d : D) : Prop := ∃ a b c : Int, d = potD a b c ∧ 0 ≤ a ∧ 0 ≤ b ∧ b < 2305843009213693951 ∧ 0 ≤ c ∧ c ≤ n
theorem Pot.mono {n m : Nat} {d : D} (h : Pot n d) (hm : n ≤ m) : Pot m d := by
  obtain ⟨a, b, c, e, h1, h2, h3, h4, h5⟩ := h
  exact ⟨a, b, c, e, h1, h2, h3, h4, by omega⟩
theorem primes (i a b c d : Int) (ha : 0 < a ∧ a < 2147483648) (hb : 0 < b ∧ b < 2147483648) (hc : 0 < c ∧ c < 2147483648) (hd : 0 < d ∧ d < 2147483648) :
    ∃ P : Int, L2.atI [D.int a, .int b, .int c, .int d] (i % 4) = some (.int P) ∧ 0 < P ∧ P < 2147483648 := by
  have h1 := Int.emod_nonneg i (show (4 : Int) ≠ 0 by decide)
  have h2 := Int.emod_lt_of_pos i (show (0 : Int) < 4 by decide)
  generalize i % 4 = r at h1 h2
  have : r = 0 ∨ r = 1 ∨ r = 2 ∨ r = 3 := by omega
  rcases this with rfl | rfl | rfl | rfl
  · exact ⟨a, rfl, ha⟩
  · exact ⟨b, rfl, hb⟩
  · exact ⟨c, rfl, hc⟩
  · exact ⟨d, rfl, hd⟩
theorem pot_cube (b c k1 k2 : Int) (hb : 0 ≤ b ∧ b < 2305843009213693951) (hc : 0 ≤ c ∧ c ≤ 1099511627776) (h1 : 0 ≤ k1 ∧ k1 ≤ 1000000000) (h2 : 0 ≤ k2 ∧ k2 ≤ 1000000000) : (b + k1 * c * c + k2).natAbs < 2 ^ 1000 := by
  have a1 : k1 * c ≤ 1000000000 * 1099511627776 := Int.mul_le_mul h1.2 hc.2 hc.1 (by decide)
  have a2 : 0 ≤ k1 * c := Int.mul_nonneg h1.1 hc.1
  have a3 : k1 * c * c ≤ 1000000000 * 1099511627776 * 1099511627776 := Int.mul_le_mul a1 hc.2 hc.1 (by decide)
  have a4 : 0 ≤ k1 * c * c := Int.mul_nonneg a2 hc.1
  have a5 : (b + k1 * c * c + k2).natAbs < 2 ^ 200 := by
    generalize k1 * c * c = x at a3 a4
    have : (2 : Nat) ^ 200 = 1606938044258990275541962092341162602522202993782792835301376 := by decide
    rw [this]
    omega
  exact Nat.lt_trans a5 (Nat.pow_lt_pow_right (by decide) (by decide))
end Mi
namespace Mi
/-- a while loop that ends behind T rounds -/
theorem whL_inv (c : Env → R D) (body : Env → SR) (I : Nat → Env → Prop) (T : Nat) (h1 : ∀ t ρ, t < T → I t ρ → ∃ ρ1 ρ2, c ρ = .ok (.bl true) ρ1 ∧ body ρ1 = .nx ρ2 ∧ I (t + 1) ρ2)
    (h2 : ∀ ρ, I T ρ → ∃ ρ1, c ρ = .ok (.bl false) ρ1 ∧ I T ρ1) : ∀ (n t fuel : Nat) (ρ : Env), n = T - t → t ≤ T → n < fuel → I t ρ → ∃ ρ', whL c body fuel ρ = .nx ρ' ∧ I T ρ' := by
  intro n
  induction n with
  | zero =>
    intro t fuel ρ hn ht hf hi
    have : t = T := by omega
    subst this
    obtain ⟨ρ1, e, i⟩ := h2 ρ hi
    cases fuel with
    | zero => omega
    | succ f => exact ⟨ρ1, by simp [whL, e], i⟩
  | succ n ih =>
    intro t fuel ρ hn ht hf hi
    obtain ⟨ρ1, ρ2, e1, e2, i⟩ := h1 t ρ (by omega) hi
    cases fuel with
    | zero => omega
    | succ f =>
      obtain ⟨ρ', e, i2⟩ := ih (t + 1) f ρ2 (by omega) (by omega) (by omega) i
      exact ⟨ρ', by simp [whL, e1, e2, e], i2⟩
theorem whL_run (c : Env → R D) (body : Env → SR) (I : Nat → Env → Prop) (T : Nat) (ρ : Env) (hT : T < FUEL) (hi : I 0 ρ) (h1 : ∀ t ρ, t < T → I t ρ → ∃ ρ1 ρ2, c ρ = .ok (.bl true) ρ1 ∧ body ρ1 = .nx ρ2 ∧ I (t + 1) ρ2)
    (h2 : ∀ ρ, I T ρ → ∃ ρ1, c ρ = .ok (.bl false) ρ1 ∧ I T ρ1) : ∃ ρ', whL c body FUEL ρ = .nx ρ' ∧ I T ρ' :=
  whL_inv c body I T h1 h2 T 0 FUEL ρ (by omega) (by omega) hT hi
theorem zip3_map (as bs cs : List Int) : zip3 (as.map D.int) (bs.map D.int) (cs.map D.int) = (as.zip (bs.zip cs)).map fun p => D.tup [.int p.1, .int p.2.1, .int p.2.2] := by
  induction as generalizing bs cs with
  | nil => cases bs <;> simp [zip3]
  | cons a r ih =>
    cases bs with
    | nil => simp [zip3]
    | cons b bs => cases cs with
      | nil => simp [zip3]
      | cons c cs => simp [zip3, ih]
theorem cut_1 (xs : List D) : cutD xs (some 1) none = xs.drop 1 := cut_lo xs 1
theorem cut_h1 (xs : List D) : cutD xs none (some 1) = xs.take 1 := cut_hi xs 1
end Mi
namespace Mi
theorem intD_i (i : Int) : intD (.int i) = some (.int i) := rfl
end Mi
namespace Mi
theorem ints_of (P : Int → Prop) : ∀ es : List D, (∀ e ∈ es, ∃ i, e = .int i ∧ P i) → ∃ F : List Int, es = F.map D.int ∧ ∀ x ∈ F, P x
  | [], _ => ⟨[], rfl, fun _ h => nomatch h⟩
  | e :: r, h => by
    obtain ⟨i, rfl, hi⟩ := h e (by simp)
    obtain ⟨F, rfl, hF⟩ := ints_of P r (fun e he => h e (by simp [he]))
    exact ⟨i :: F, rfl, fun x hx => by
      rcases List.mem_cons.1 hx with rfl | hx
      · exact hi
      · exact hF x hx⟩
/-- a comprehension that changes the state it stands in -/
theorem ev_lc_st (Φ : Fns) (vs : List Nat) (tg : Tg) (it : It) (elt : IE) (ρ ρ1 : Env) (ds : List D) (I : Nat → Env → Prop) (Q : D → Prop)
    (hit : evIt Φ it ρ = .ok ds ρ1) (hl : ds.length ≤ SZ) (hu : unowned ρ1 vs = true) (h0 : I 0 ρ1)
    (hs : ∀ d ∈ ds, ∀ n ρ2, n < ds.length → I n ρ2 → ∃ ρ3 e ρ4, bindT [] tg d (wipeE vs ρ2) = some ρ3 ∧ ev Φ elt ρ3 = .ok e ρ4 ∧ I (n + 1) ρ4 ∧ Q e) :
    ∃ es ρ6, ev Φ (.lc vs tg it [] elt) ρ = .ok (.lst true es) (backE ρ1 vs ρ6) ∧ I ds.length ρ6 ∧ es.length = ds.length ∧ ∀ e ∈ es, Q e := by
  rw [ev_lc Φ vs tg it [] elt ρ ρ1 ds hit hl hu]
  have key : ∀ (as acc : List D) (n : Nat) (r : Env), n + as.length ≤ ds.length → (∀ d ∈ as, d ∈ ds) → I n r → ∃ es ρ6, lcLoop (lcStep Φ vs tg [] elt) as acc r = .ok (acc.reverse ++ es) ρ6 ∧ I (n + as.length) ρ6 ∧ es.length = as.length ∧ ∀ e ∈ es, Q e := by
    intro as
    induction as with
    | nil => intro acc n r _ _ hi; exact ⟨[], r, by simp [lcLoop], hi, rfl, fun _ h => nomatch h⟩
    | cons a as ih =>
      intro acc n r hn hm hi
      obtain ⟨ρ3, e, ρ4, h1, h2, h3, h4⟩ := hs a (hm a (by simp)) n r (by simp at hn; omega) hi
      obtain ⟨es, ρ6, e1, e2, e3, e4⟩ := ih (e :: acc) (n + 1) ρ4 (by simp at hn; omega) (fun d hd => hm d (by simp [hd])) h3
      refine ⟨e :: es, ρ6, ?_, ?_, by simp [e3], ?_⟩
      · have : lcStep Φ vs tg [] elt a r = .ok (some e) ρ4 := by simp [lcStep, h1, evIfs, R.bind, h2]
        simp [lcLoop, this, e1]
      · have : n + (a :: as).length = n + 1 + as.length := by simp; omega
        rw [this]; exact e2
      · intro x hx
        rcases List.mem_cons.1 hx with rfl | hx
        · exact h4
        · exact e4 x hx
  obtain ⟨es, ρ6, e1, e2, e3, e4⟩ := key ds [] 0 ρ1 (by omega) (fun _ h => h) h0
  refine ⟨es, ρ6, ?_, by simpa using e2, e3, e4⟩
  rw [e1]; simp [R.bind]
end Mi
namespace Mi
theorem lenD_tup (xs : List D) : lenD (.tup xs) = some (.int xs.length) := rfl
end Mi
end

section
set_option linter.all false
set_option maxRecDepth 100000
namespace Mi
open PySem
/-! texts of small data: no strings within, numbers of at most twelve figures -/
mutual
def smallP : PyData → Bool
  | .none => true
  | .bool _ => true
  | .int i => decide (i.natAbs < 1000000000000)
  | .str _ => false
  | .list xs => smallAll xs
  | .tuple xs => smallAll xs
  | .dict _ => false
def smallAll : List PyData → Bool
  | [] => true
  | x :: xs => smallP x && smallAll xs
end
mutual
def nodesP : PyData → Nat
  | .list xs => 1 + nodesAll xs
  | .tuple xs => 1 + nodesAll xs
  | .none => 1
  | .bool _ => 1
  | .int _ => 1
  | .str _ => 1
  | .dict _ => 1
def nodesAll : List PyData → Nat
  | [] => 0
  | x :: xs => nodesP x + nodesAll xs
end
def okS (x : Str) : Prop := ∀ c ∈ x.cps.toList, c < 0x110000
theorem okS_iff (x : Str) : PyData.strOk x = true ↔ okS x := by
  unfold PyData.strOk okS
  rw [Array.all_eq_true_iff_forall_mem]
  constructor
  · intro h c hc
    have := h c (Array.mem_toList_iff.mp hc)
    simpa using this
  · intro h c hc
    have := h c (Array.mem_toList_iff.mpr hc)
    simpa using this
theorem okS_app {x y : Str} (hx : okS x) (hy : okS y) : okS (x ++ y) := by
  intro c hc
  have e : (x ++ y).cps.toList = x.cps.toList ++ y.cps.toList := by
    show (x.cps ++ y.cps).toList = _
    simp
  rw [e] at hc
  rcases List.mem_append.1 hc with h | h
  · exact hx c h
  · exact hy c h
theorem okS_of (s : String) : okS (Str.ofString s) := by
  intro c hc
  rw [Str.ofString_eq_toList] at hc
  simp at hc
  obtain ⟨a, _, rfl⟩ := hc
  have := a.valid
  rcases this with h | h
  · have h' : a.toNat < 0xd800 := h
    omega
  · have h' : a.toNat < 0x110000 := h.2
    omega
theorem okS_join {sep : Str} (hs : okS sep) : ∀ ts : List Str, (∀ t ∈ ts, okS t) → okS (Str.join sep ts)
  | [], _ => by intro c hc; simp [Str.join, Str.empty] at hc
  | [x], h => h x (by simp)
  | x :: y :: r, h => by
    rw [Str.join]
    · exact okS_app (okS_app (h x (by simp)) hs) (okS_join hs (y :: r) (fun t ht => h t (by simp [List.mem_cons.1 ht])))
    · simp
theorem okS_tup {ts : List Str} (h : ∀ t ∈ ts, okS t) : okS (tupleText ts) := by
  unfold tupleText
  refine okS_app (okS_app (okS_of "(") (okS_join (okS_of ", ") ts h)) ?_
  exact okS_of _
theorem okS_from : ∀ (ts : List Str) (k : Nat) (acc : Str), okS acc → (∀ t ∈ ts, okS t) → okS (textFrom k acc ts)
  | [], _, _, ha, _ => ha
  | t :: ts, k, acc, ha, h => okS_from ts (k + 1) _ (okS_app (okS_app ha (okS_of _)) (h t (by simp))) (fun x hx => h x (by simp [hx]))
theorem okS_lst {ts : List Str} (h : ∀ t ∈ ts, okS t) : okS (listText ts) := okS_app (okS_from ts 0 _ (okS_of "[") h) (okS_of "]")
mutual
theorem okS_shown : ∀ d : PyData, smallP d = true → okS d.shown
  | .none, _ => by simp only [PyData.shown]; exact okS_of "None"
  | .bool b, _ => by
    simp only [PyData.shown]
    cases b
    · exact okS_of "False"
    · exact okS_of "True"
  | .int i, _ => by simp only [PyData.shown]; exact okS_of _
  | .str _, h => by simp [smallP] at h
  | .dict _, h => by simp [smallP] at h
  | .list xs, h => by simp only [PyData.shown]; exact okS_lst (okS_shownAll xs (by simpa [smallP] using h))
  | .tuple xs, h => by simp only [PyData.shown]; exact okS_tup (okS_shownAll xs (by simpa [smallP] using h))
theorem okS_shownAll : ∀ xs : List PyData, smallAll xs = true → ∀ t ∈ PyData.shownAll xs, okS t
  | [], _, t, ht => by simp [PyData.shownAll] at ht
  | x :: xs, h, t, ht => by
    have h' : smallP x = true ∧ smallAll xs = true := by simpa [smallAll] using h
    simp only [PyData.shownAll, List.mem_cons] at ht
    rcases ht with rfl | ht
    · exact okS_shown x h'.1
    · exact okS_shownAll xs h'.2 t ht
end
theorem log_small (i : Int) (h : i.natAbs < 1000000000000) : i.natAbs.log2 < 40 := by
  by_cases h0 : i.natAbs = 0
  · rw [h0]; decide
  · exact (Nat.log2_lt h0).2 (by omega)
mutual
theorem small_facts : ∀ d : PyData, smallP d = true → d.canLay0 = true ∧ d.showable = true ∧ d.intsShort 13 = true ∧ d.depth ≤ nodesP d ∧ d.weight + 1 ≤ 50 * nodesP d
  | .none, _ => ⟨rfl, rfl, rfl, by simp [PyData.depth], by simp [PyData.weight, nodesP]⟩
  | .bool b, _ => ⟨rfl, rfl, rfl, by simp [PyData.depth], by simp [PyData.weight, nodesP]⟩
  | .int i, h => by
    have hi : i.natAbs < 1000000000000 := by simpa [smallP] using h
    have hl := log_small i hi
    refine ⟨rfl, ?_, ?_, ?_, ?_⟩
    · simp only [PyData.showable, decide_eq_true_eq]; omega
    · simp only [PyData.intsShort, decide_eq_true_eq]; exact PyData.shown_int_le (by simpa using hi)
    · simp [PyData.depth]
    · simp only [PyData.weight, nodesP]; split <;> omega
  | .str _, h => by simp [smallP] at h
  | .dict _, h => by simp [smallP] at h
  | .list xs, h => by
    obtain ⟨a, b, c, e, f⟩ := small_factsAll xs (by simpa [smallP] using h)
    refine ⟨?_, ?_, ?_, ?_, ?_⟩
    · simpa [PyData.canLay0] using a
    · simpa [PyData.showable] using b
    · simpa [PyData.intsShort] using c
    · simp only [PyData.depth, nodesP]; omega
    · simp only [PyData.weight, nodesP]; omega
  | .tuple xs, h => by
    obtain ⟨a, b, c, e, f⟩ := small_factsAll xs (by simpa [smallP] using h)
    refine ⟨?_, ?_, ?_, ?_, ?_⟩
    · simpa [PyData.canLay0] using a
    · simpa [PyData.showable] using b
    · simpa [PyData.intsShort] using c
    · simp only [PyData.depth, nodesP]; omega
    · simp only [PyData.weight, nodesP]; omega
theorem small_factsAll : ∀ xs : List PyData, smallAll xs = true → PyData.canLayAll0 xs = true ∧ PyData.showableAll xs = true ∧ PyData.intsShortAll 13 xs = true ∧ PyData.depthAll xs ≤ nodesAll xs ∧ PyData.weightAll xs ≤ 50 * nodesAll xs
  | [], _ => ⟨rfl, rfl, rfl, by simp [PyData.depthAll], by simp [PyData.weightAll]⟩
  | x :: xs, h => by
    have h' : smallP x = true ∧ smallAll xs = true := by simpa [smallAll] using h
    obtain ⟨a, b, c, e, f⟩ := small_facts x h'.1
    obtain ⟨a2, b2, c2, e2, f2⟩ := small_factsAll xs h'.2
    refine ⟨?_, ?_, ?_, ?_, ?_⟩
    · simp [PyData.canLayAll0, a, a2]
    · simp [PyData.showableAll, b, b2]
    · simp [PyData.intsShortAll, c, c2]
    · simp only [PyData.depthAll, nodesAll]; exact Nat.max_le.mpr ⟨by omega, by omega⟩
    · simp only [PyData.weightAll, nodesAll]; omega
end
/-- the text of small data -/
def sh (d : D) : Str := d.pd.shown
theorem repr_small (d : D) (h0 : d.isPd = true) (h : smallP d.pd = true) (hn : nodesP d.pd ≤ 60) : reprD d = some (.str (sh d)) := by
  obtain ⟨a, b, c, e, f⟩ := small_facts d.pd h
  have h1 := PyData.shown_fits (B := 13) (by decide) (by decide) (PyData.leavesShort_of_canLay0 13 _ a c) (by omega)
  have h2 : sizeLine = SZ := by unfold sizeLine SZ; decide
  rw [h2] at h1
  simp [reprD, h0, b, h1, sh]
  omega
theorem strOk_small (d : D) (h : smallP d.pd = true) : PyData.strOk (sh d) = true := (okS_iff _).2 (okS_shown d.pd h)
theorem shaped_str (s : Str) (h : PyData.strOk s = true) : PySem.SeqAt.shaped (.str s) = true := by
  unfold PySem.SeqAt.shaped
  simp [PyData.canLay0, h, PyData.depth]
theorem eqD_str (s t : Str) (h1 : PyData.strOk s = true) (h2 : PyData.strOk t = true) : eqD (.str s) (.str t) = some (s == t) := by
  simp [eqD, D.isPd, D.pd, shaped_str s h1, shaped_str t h2, PyData.eqv]
/-- is a text among some texts -/
theorem memD_strs (s : Str) (ss : List Str) (h1 : PyData.strOk s = true) (h2 : ∀ t ∈ ss, PyData.strOk t = true) : memD (.str s) (ss.map D.str) = some (ss.any (· == s)) := by
  have e1 : isPdL (ss.map D.str) = true := isPdL_map _ _ fun _ _ => rfl
  have e2 : pdL (ss.map D.str) = ss.map PyData.str := pdL_map ss D.str
  have e3 : PySem.SeqAt.shaped (.list (pdL (ss.map D.str))) = true := by
    rw [e2]
    have h3 : PyData.canLayAll0 (ss.map PyData.str) = true := canLayAll_map _ _ fun x hx => by simp [PyData.canLay0, h2 x hx]
    have h4 : PyData.depthAll (ss.map PyData.str) ≤ 0 := depthAll_map _ _ 0 fun _ _ => by simp [PyData.depth]
    show (PyData.canLayAll0 _ && decide (PyData.depthAll _ + 1 ≤ 64)) = true
    rw [h3, Bool.true_and, decide_eq_true_eq]; omega
  rw [e2] at e3
  simp only [memD, e1, D.isPd, D.pd, shaped_str s h1, e2, e3, Bool.and_self, if_true, List.any_map]
  rfl
end Mi
end

section
set_option linter.all false
set_option maxRecDepth 100000
namespace Mi
open PySem
/-- a loop whose rounds change the loop's own name alone -/
theorem forL_slot (lk : List Nat) (tg : Tg) (body : Env → SR) (E : Option D → Env) : ∀ (ds : List D) (o : Option D), (∀ d ∈ ds, ∀ o, bindT lk tg d (E o) = some (E (some d)) ∧ body (E (some d)) = .nx (E (some d))) → ∃ o', forL lk tg body ds (E o) = .nx (E o')
  | [], o, _ => ⟨o, rfl⟩
  | d :: ds, o, h => by
    obtain ⟨h1, h2⟩ := h d (by simp) o
    obtain ⟨o', e⟩ := forL_slot lk tg body E ds (some d) (fun d hd => h d (by simp [hd]))
    exact ⟨o', by simp [forL, h1, h2, e]⟩
theorem smallAll_map {α : Type} (xs : List α) (f : α → PyData) (h : ∀ x ∈ xs, smallP (f x) = true) : smallAll (xs.map f) = true := by
  induction xs with
  | nil => rfl
  | cons x r ih => simp only [List.map_cons, smallAll, h x (by simp), Bool.true_and]; exact ih (fun y hy => h y (by simp [hy]))
theorem nodesAll_map {α : Type} (xs : List α) (f : α → PyData) (k : Nat) (h : ∀ x ∈ xs, nodesP (f x) ≤ k) : nodesAll (xs.map f) ≤ k * xs.length := by
  induction xs with
  | nil => simp [nodesAll]
  | cons x r ih =>
    have h1 := h x (by simp)
    have h2 := ih (fun y hy => h y (by simp [hy]))
    simp only [List.map_cons, nodesAll, List.length_cons]
    rw [Nat.mul_add, Nat.mul_one]; omega
theorem op_ne_str (s : Str) (h : PyData.strOk s = true) : op2 .ne (.str s) (.str s) = some (.bl false) := by
  simp [op2, eqD_str s s h h]
theorem op_eq_str (s : Str) (h : PyData.strOk s = true) : op2 .eq (.str s) (.str s) = some (.bl true) := by
  simp [op2, eqD_str s s h h]
theorem inD_strs (neg : Bool) (s : Str) (o : Bool) (ss : List Str) (h1 : PyData.strOk s = true) (h2 : ∀ t ∈ ss, PyData.strOk t = true) : inD neg (.str s) (.lst o (ss.map D.str)) = some (.bl ((ss.any (· == s)) != neg)) := by
  simp [inD, memD_strs s ss h1 h2]
/-- all that is to be known of a value whose text is asked -/
structure Txt (d : D) : Prop where
  r : reprD d = some (.str (sh d))
  k : PyData.strOk (sh d) = true
theorem Txt.mk' {d : D} (h0 : d.isPd = true) (h : smallP d.pd = true) (hn : nodesP d.pd ≤ 60) : Txt d := ⟨repr_small d h0 h hn, strOk_small d h⟩
theorem txt_bl (b : Bool) : Txt (.bl b) := Txt.mk' rfl rfl (by simp [D.pd, nodesP])
theorem txt_non : Txt .non := Txt.mk' rfl rfl (by simp [D.pd, nodesP])
theorem txt_int (i : Int) (h : i.natAbs < 1000000000000) : Txt (.int i) := Txt.mk' rfl (by simp [D.pd, smallP, h]) (by simp [D.pd, nodesP])
end Mi
end

section
set_option linter.all false
set_option maxRecDepth 100000
set_option maxHeartbeats 1000000
namespace LW
open Mi
def exs : List String := ["BadHouse", "BadCrowd", "BadTicks", "BadArrows", "BadRoom", "TooMany"]
def b_is_integer : List IS := [.ret (.andE (.cb .isi [.peek 0, .glob (.typ "int")]) (.notE (.cb .isi [.peek 0, .glob (.typ "bool")])))]
def b_is_between : List IS := [.ret (.andE (.call 0 [.peek 0]) (.chain .le .le [.peek 1, .peek 0] [.peek 2]))]
def b_are_between : List IS := [.ret (.andE (.cb .isi [.peek 0, .glob (.typ "tuple")]) (.cb .all [.lc [3] (.slot 3) (.seq [.peekF 0]) [] (.frz (.call 1 [.peek 3, .peek 1, .peek 2]))]))]
def b_is_ascending : List IS := [.ret (.cb .all [.lc [1, 2] (.tup [(.slot 1), (.slot 2)]) (.zip [.peekF 0, .slc [.peek 0] [.const (.int 1)] []]) [] (.op .lt [.peek 1, .peek 2])])]
def b_is_door : List IS := [.ifs (.orE (.notE (.cb .isi [.peek 1, .glob (.typ "tuple")])) (.orE (.op .ne [.cb .len [.peek 1], .glob (.int 3)]) (.notE (.call 2 [.slc [.peek 1] [] [.const (.int 2)], .const (.int 0), .op .sub [.peek 0, .const (.int 1)]])))) [.ret (.const (.bl false))] [], .ret (.andE (.op .lt [.idx [.peek 1, .const (.int 0)], .idx [.peek 1, .const (.int 1)]]) (.call 1 [.idx [.peek 1, .const (.int 2)], .const (.int 1), .glob (.int 20)]))]
def b_are_doors : List IS := [.ifs (.orE (.notE (.cb .isi [.peek 1, .glob (.typ "tuple")])) (.notE (.cb .all [.lc [4] (.slot 4) (.seq [.peekF 1]) [] (.frz (.call 4 [.peek 0, .peek 4]))]))) [.ret (.const (.bl false))] [], .ret (.cb .all [.lc [2, 3] (.tup [(.slot 2), (.slot 3)]) (.zip [.peekF 1, .slc [.peek 1] [.const (.int 1)] []]) [] (.op .lt [.slc [.peek 2] [] [.const (.int 2)], .slc [.peek 3] [] [.const (.int 2)]])])]
def b_are_rooms : List IS := [.ret (.andE (.call 2 [.peek 1, .const (.int 0), .op .sub [.peek 0, .const (.int 1)]]) (.call 3 [.peek 1]))]
def b_is_house : List IS := [.ifs (.orE (.notE (.cb .isi [.peek 0, .glob (.typ "tuple")])) (.orE (.op .ne [.cb .len [.peek 0], .glob (.int 3)]) (.notE (.call 1 [.idx [.peek 0, .const (.int 0)], .const (.int 1), .glob (.int 10)])))) [.ret (.const (.bl false))] [], .ret (.andE (.call 5 [.idx [.peek 0, .const (.int 0)], .idx [.peek 0, .const (.int 1)]]) (.andE (.call 6 [.idx [.peek 0, .const (.int 0)], .idx [.peek 0, .const (.int 2)]]) (.op .ne [.idx [.peek 0, .const (.int 2)], .tup []])))]
def b_check_house : List IS := [.ifs (.notE (.call 7 [.peek 0])) [.raise "BadHouse" (.var 0)] []]
def b_is_crowd_of : List IS := [.ret (.andE (.call 2 [.peek 1, .const (.int 0), .glob (.int 50)]) (.op .eq [.cb .len [.peek 1], .idx [.peek 0, .const (.int 0)]]))]
def b_check_crowd : List IS := [.ex (.call 8 [.peek 0]), .ifs (.notE (.call 9 [.peek 0, .peek 1])) [.raise "BadCrowd" (.var 1)] []]
def b_check_ticks : List IS := [.ifs (.notE (.call 1 [.peek 0, .const (.int 0), .glob (.int 16)])) [.raise "BadTicks" (.var 0)] []]
def b_near_of : List IS := [.asg (.slot 1) (.lc [5] (.slot 5) (.range [.idx [.peek 0, .const (.int 0)]]) [] (.lst [])), .for_ (.tup [(.slot 2), (.slot 3), (.slot 4)]) (.seq [.idx [.peek 0, .const (.int 1)]]) [.appi 1 (.var 2) (.var 3), .appi 1 (.var 3) (.var 2)], .ret (.mov 1)]
def b_is_arrow : List IS := [.ifs (.isn false [.peek 3]) [.ret (.const (.bl true))] [], .ret (.andE (.call 1 [.peek 3, .const (.int 0), .op .sub [.idx [.peek 0, .const (.int 0)], .const (.int 1)]]) (.andE (.op .nmem [.peek 2, .idx [.peek 0, .const (.int 2)]]) (.op .mem [.peek 3, .idx [.peek 1, .peek 2]])))]
def b_are_arrows_of : List IS := [.ifs (.orE (.notE (.cb .isi [.peek 1, .glob (.typ "tuple")])) (.op .ne [.cb .len [.peek 1], .idx [.peek 0, .const (.int 0)]])) [.ret (.const (.bl false))] [], .asg (.slot 2) (.frz (.call 12 [.peek 0])), .ret (.cb .all [.lc [3, 4] (.tup [(.slot 3), (.slot 4)]) (.enum [.peekF 1]) [] (.frz (.call 13 [.peek 0, .peek 2, .peek 3, .peek 4]))])]
def b_are_arrows : List IS := [.ex (.call 8 [.peek 0]), .ret (.call 14 [.peek 0, .peek 1])]
def b_check_arrows : List IS := [.ifs (.notE (.call 14 [.peek 0, .peek 1])) [.raise "BadArrows" (.var 1)] []]
def b_led_by : List IS := [.asg (.slot 2) (.lst [.var 1]), .while_ (.andE (.isn true [.idx [.peek 0, .idx [.peek 2, .neg [.const (.int 1)]]]]) (.op .nmem [.idx [.peek 0, .idx [.peek 2, .neg [.const (.int 1)]]], .peek 2])) [.app 2 (.idx [.peek 0, .idx [.peek 2, .neg [.const (.int 1)]]])], .ret (.mov 2)]
def b_does_lead : List IS := [.ret (.op .mem [.idx [.call 17 [.peek 1, .peek 2], .neg [.const (.int 1)]], .idx [.peek 0, .const (.int 2)]])]
def b_leads : List IS := [.ex (.call 8 [.peek 0]), .ex (.call 16 [.peek 0, .peek 1]), .ifs (.notE (.call 1 [.peek 2, .const (.int 0), .op .sub [.idx [.peek 0, .const (.int 0)], .const (.int 1)]])) [.raise "BadRoom" (.var 2)] [], .ret (.cb .tuple [.call 17 [.peek 1, .peek 2]])]
def b_arrows_told : List IS := [.ex (.call 8 [.peek 0]), .ex (.call 16 [.peek 0, .peek 1]), .for_ (.slot 2) (.range [.idx [.peek 0, .const (.int 0)]]) [.asg (.slot 3) (.call 17 [.peek 1, .peek 2]), .ifs (.op .nmem [.idx [.peek 3, .neg [.const (.int 1)]], .idx [.peek 0, .const (.int 2)]]) [.ifs (.isn false [.idx [.peek 1, .idx [.peek 3, .neg [.const (.int 1)]]]]) [.ret (.tup [.glob (.str "stuck"), .idx [.peek 3, .neg [.const (.int 1)]]])] [], .never] []], .ret (.tup [.glob (.str "out")])]
def b_is_round : List IS := [.never, .ret (.cb .all [.lc [2, 3] (.tup [(.slot 2), (.slot 3)]) (.zip [.peekF 1, .op .add [.slc [.peek 1] [.const (.int 1)] [], .slc [.peek 1] [] [.const (.int 1)]]]) [] (.op .eq [.idx [.peek 0, .peek 2], .peek 3])])]
def b_shows_arrows : List IS := [.ex (.call 8 [.peek 0]), .ex (.call 16 [.peek 0, .peek 1]), .ifs (.orE (.notE (.cb .isi [.peek 2, .glob (.typ "tuple")])) (.orE (.op .nmem [.cb .len [.peek 2], .tup [.const (.int 1), .const (.int 2)]]) (.notE (.cb .isi [.idx [.peek 2, .const (.int 0)], .glob (.typ "str")])))) [.ret (.const (.bl false))] [], .ifs (.op .eq [.cb .len [.peek 2], .const (.int 1)]) [.ret (.andE (.op .eq [.idx [.peek 2, .const (.int 0)], .glob (.str "out")]) (.cb .all [.lc [3] (.slot 3) (.range [.idx [.peek 0, .const (.int 0)]]) [] (.frz (.call 18 [.peek 0, .peek 1, .peek 3]))]))] [], .ifs (.op .eq [.idx [.peek 2, .const (.int 0)], .glob (.str "stuck")]) [.ret (.andE (.call 1 [.idx [.peek 2, .const (.int 1)], .const (.int 0), .op .sub [.idx [.peek 0, .const (.int 0)], .const (.int 1)]]) (.andE (.op .nmem [.idx [.peek 2, .const (.int 1)], .idx [.peek 0, .const (.int 2)]]) (.isn false [.idx [.peek 1, .idx [.peek 2, .const (.int 1)]]])))] [], .ret (.andE (.op .eq [.idx [.peek 2, .const (.int 0)], .glob (.str "round")]) (.call 21 [.peek 1, .idx [.peek 2, .const (.int 1)]]))]
def b_far_of : List IS := [.asg (.tup [(.slot 2), (.slot 3)]) (.tup [.frz (.call 12 [.peek 0]), .lc [7] (.slot 7) (.range [.idx [.peek 0, .const (.int 0)]]) [] (.ite (.op .mem [.peek 7, .idx [.peek 0, .const (.int 2)]]) (.const (.int 0)) (.const .non))]), .asg (.slot 1) (.cb .list [.idx [.peek 0, .const (.int 2)]]), .while_ (.op .ne [.peek 1, .lst []]) [.asg (.slot 4) (.lst []), .for_ (.slot 5) (.seq [.peekF 1]) [.for_ (.slot 6) (.seq [.lc [7] (.slot 7) (.seq [.idx [.peek 2, .peek 5]]) [.isn false [.idx [.peek 3, .peek 7]]] (.var 7)]) [.seti 3 (.op .add [.idx [.peek 3, .peek 5], .const (.int 1)]) (.var 6), .app 4 (.var 6)]], .asg (.slot 1) (.var 4)], .ret (.mov 3)]
def b_short_by : List IS := [.asg (.tup [(.slot 2), (.slot 3), (.slot 4)]) (.tup [.frz (.call 12 [.peek 0]), .call 23 [.peek 0], .lst []]), .for_ (.slot 1) (.range [.idx [.peek 0, .const (.int 0)]]) [.asg (.slot 5) (.lc [6] (.slot 6) (.seq [.idx [.peek 2, .peek 1]]) [.andE (.isn true [.idx [.peek 3, .peek 1]]) (.op .eq [.idx [.peek 3, .peek 6], .op .sub [.idx [.peek 3, .peek 1], .const (.int 1)]])] (.var 6)), .app 4 (.ite (.andE (.op .ne [.peek 5, .lst []]) (.op .nmem [.peek 1, .idx [.peek 0, .const (.int 2)]])) (.cb .min [.peek 5]) (.const .non))], .ret (.cb .tuple [.peek 4])]
def b_short_arrows : List IS := [.ex (.call 8 [.peek 0]), .ret (.call 24 [.peek 0])]
def b_gone_of : List IS := [.asg (.slot 2) (.op .mul [.lst [.const (.int 0)], .idx [.peek 0, .const (.int 0)]]), .for_ (.tup [(.slot 3), (.tup [(.slot 4), (.slot 5)])]) (.zip [.idx [.peek 0, .const (.int 1)], .peekF 1]) [.augi 2 false (.idx [.peek 3, .const (.int 0)]) (.var 4), .augi 2 false (.idx [.peek 3, .const (.int 1)]) (.var 5)], .ret (.mov 2)]
def b_come_of : List IS := [.asg (.slot 2) (.op .mul [.lst [.const (.int 0)], .idx [.peek 0, .const (.int 0)]]), .for_ (.tup [(.slot 3), (.tup [(.slot 4), (.slot 5)])]) (.zip [.idx [.peek 0, .const (.int 1)], .peekF 1]) [.augi 2 false (.idx [.peek 3, .const (.int 1)]) (.var 4), .augi 2 false (.idx [.peek 3, .const (.int 0)]) (.var 5)], .ret (.mov 2)]
def b_stepped : List IS := [.asg (.slot 3) (.lzip [.peekF 1, .call 26 [.peek 0, .peek 2], .call 27 [.peek 0, .peek 2]]), .ret (.cb .tuple [.lc [4, 5, 6] (.tup [(.slot 4), (.slot 5), (.slot 6)]) (.seq [.peekF 3]) [] (.op .add [.op .sub [.peek 4, .peek 5], .peek 6])])]
def b_way_by : List IS := [.asg (.tup [(.slot 5), (.slot 6), (.slot 7)]) (.var 0), .asg (.slot 3) (.ite (.op .eq [.idx [.peek 2, .peek 5], .peek 6]) (.cb .min [.peek 7, .idx [.peek 1, .peek 5]]) (.const (.int 0))), .asg (.slot 4) (.ite (.op .eq [.idx [.peek 2, .peek 6], .peek 5]) (.cb .min [.op .sub [.peek 7, .peek 3], .idx [.peek 1, .peek 6]]) (.const (.int 0))), .ret (.tup [.var 3, .var 4])]
def b_step_by : List IS := [.ret (.cb .tuple [.lc [3] (.slot 3) (.seq [.idx [.peek 0, .const (.int 1)]]) [] (.frz (.call 29 [.peek 3, .peek 1, .peek 2]))])]
def b_walk_by : List IS := [.asg (.slot 4) (.lst []), .for_ (.slot 5) (.range [.peek 3]) [.app 4 (.frz (.call 30 [.peek 0, .peek 1, .peek 2])), .asg (.slot 1) (.call 28 [.peek 0, .peek 1, .idx [.peek 4, .neg [.const (.int 1)]]])], .ret (.cb .tuple [.peek 4])]
def b_check_led : List IS := [.ex (.call 10 [.peek 0, .peek 1]), .ex (.call 16 [.peek 0, .peek 2])]
def b_arrow_walk : List IS := [.ex (.call 32 [.peek 0, .peek 1, .peek 2]), .ex (.call 11 [.peek 3]), .ret (.call 31 [.peek 0, .peek 1, .peek 2, .peek 3])]
def b_do_come_out : List IS := [.ret (.cb .all [.lc [3, 4] (.tup [(.slot 3), (.slot 4)]) (.enum [.peekF 1]) [] (.orE (.op .eq [.peek 4, .const (.int 0)]) (.call 18 [.peek 0, .peek 2, .peek 3]))])]
def b_crowds_of : List IS := [.asg (.slot 3) (.lst [.var 1]), .while_ (.cb .any [.lc [4, 5] (.tup [(.slot 4), (.slot 5)]) (.enum [.idx [.peek 3, .neg [.const (.int 1)]]]) [] (.andE (.op .gt [.peek 5, .const (.int 0)]) (.op .nmem [.peek 4, .idx [.peek 0, .const (.int 2)]]))]) [.app 3 (.frz (.call 28 [.peek 0, .idx [.peek 3, .neg [.const (.int 1)]], .call 30 [.peek 0, .idx [.peek 3, .neg [.const (.int 1)]], .peek 2]]))], .ret (.mov 3)]
def b_ticks_by : List IS := [.ret (.ite (.call 34 [.peek 0, .peek 1, .peek 2]) (.op .sub [.cb .len [.call 35 [.peek 0, .peek 1, .peek 2]], .const (.int 1)]) (.const .non))]
def b_arrow_ticks : List IS := [.ex (.call 32 [.peek 0, .peek 1, .peek 2]), .ret (.call 36 [.peek 0, .peek 1, .peek 2])]
def b_longest_queue : List IS := [.ex (.call 32 [.peek 0, .peek 1, .peek 2]), .asg (.slot 3) (.lc [7] (.slot 7) (.range [.idx [.peek 0, .const (.int 0)]]) [.op .nmem [.peek 7, .idx [.peek 0, .const (.int 2)]]] (.var 7)), .ifs (.notE (.call 34 [.peek 0, .peek 1, .peek 2])) [.ret (.const .non)] [], .ifs (.op .eq [.peek 3, .lst []]) [.ret (.tup [.const (.int 0), .const (.int 0), .const .non])] [], .asg (.slot 4) (.const .non), .for_ (.tup [(.slot 5), (.slot 6)]) (.enum [.call 35 [.peek 0, .peek 1, .peek 2]]) [.for_ (.slot 7) (.seq [.peekF 3]) [.ifs (.orE (.isn false [.peek 4]) (.op .gt [.idx [.peek 6, .peek 7], .idx [.peek 4, .const (.int 0)]])) [.asg (.slot 4) (.tup [.idx [.peek 6, .peek 7], .var 5, .var 7])] []]], .ret (.mov 4)]
def b_led_through : List IS := [.ret (.cb .sum [.lc [3, 4] (.tup [(.slot 3), (.slot 4)]) (.enum [.peekF 2]) [.op .mem [.peek 1, .call 17 [.peek 0, .peek 3]]] (.var 4)])]
def b_wide_of : List IS := [.ret (.idx [.lc [3, 4, 5] (.tup [(.slot 3), (.slot 4), (.slot 5)]) (.seq [.idx [.peek 0, .const (.int 1)]]) [.op .eq [.tup [.var 3, .var 4], .tup [.cb .min [.peek 1, .peek 2], .cb .max [.peek 1, .peek 2]]]] (.var 5), .const (.int 0)])]
def b_bar_of : List IS := [.asg (.slot 4) (.call 39 [.peek 2, .peek 3, .peek 1]), .ifs (.orE (.op .mem [.peek 3, .idx [.peek 0, .const (.int 2)]]) (.op .eq [.peek 4, .const (.int 0)])) [.ret (.const .non)] [], .ret (.op .sub [.op .add [.op .sub [.const (.int 0), .op .fdiv [.op .sub [.const (.int 0), .peek 4], .call 40 [.peek 0, .peek 3, .idx [.peek 2, .peek 3]]]], .cb .len [.call 17 [.peek 2, .peek 3]]], .const (.int 2)])]
def b_bars_by : List IS := [.asg (.slot 3) (.lc [4] (.slot 4) (.range [.idx [.peek 0, .const (.int 0)]]) [] (.tup [.frz (.call 41 [.peek 0, .peek 1, .peek 2, .peek 4]), .var 4])), .ret (.lc [5] (.slot 5) (.seq [.peekF 3]) [.isn true [.idx [.peek 5, .const (.int 0)]]] (.var 5))]
def b_bar_told : List IS := [.ex (.call 32 [.peek 0, .peek 1, .peek 2]), .ifs (.notE (.call 34 [.peek 0, .peek 1, .peek 2])) [.ret (.const .non)] [], .asg (.slot 3) (.call 42 [.peek 0, .peek 1, .peek 2]), .ret (.ite (.op .ne [.peek 3, .lst []]) (.cb .max [.peek 3]) (.tup [.const (.int 0), .const .non]))]
def b_shows_bar : List IS := [.ex (.call 32 [.peek 0, .peek 1, .peek 2]), .ifs (.notE (.call 34 [.peek 0, .peek 1, .peek 2])) [.ret (.isn false [.peek 3])] [], .asg (.slot 4) (.call 42 [.peek 0, .peek 1, .peek 2]), .ifs (.orE (.notE (.cb .isi [.peek 3, .glob (.typ "tuple")])) (.orE (.op .ne [.cb .len [.peek 3], .const (.int 2)]) (.notE (.call 0 [.idx [.peek 3, .const (.int 0)]])))) [.ret (.const (.bl false))] [], .ifs (.op .eq [.peek 4, .lst []]) [.ret (.andE (.op .eq [.idx [.peek 3, .const (.int 0)], .const (.int 0)]) (.isn false [.idx [.peek 3, .const (.int 1)]]))] [], .ret (.andE (.op .eq [.idx [.peek 3, .const (.int 0)], .idx [.cb .max [.peek 4], .const (.int 0)]]) (.andE (.call 1 [.idx [.peek 3, .const (.int 1)], .const (.int 0), .op .sub [.idx [.peek 0, .const (.int 0)], .const (.int 1)]]) (.op .mem [.peek 3, .peek 4])))]
def b_check_all : List IS := [.ex (.call 10 [.peek 0, .peek 1]), .asg (.slot 2) (.const (.int 1)), .for_ (.tup [(.slot 3), (.slot 4)]) (.enum [.call 12 [.peek 0]]) [.asg (.slot 2) (.op .mul [.peek 2, .ite (.op .nmem [.peek 3, .idx [.peek 0, .const (.int 2)]]) (.cb .max [.const (.int 1), .cb .len [.peek 4]]) (.const (.int 1))])], .ifs (.op .gt [.peek 2, .glob (.int 2000)]) [.raise "TooMany" (.glob (.int 2000))] []]
def b_all_arrows : List IS := [.asg (.slot 1) (.lst [.tup []]), .for_ (.tup [(.slot 2), (.slot 3)]) (.enum [.call 12 [.peek 0]]) [.asg (.slot 4) (.ite (.andE (.op .ne [.peek 3, .lst []]) (.op .nmem [.peek 2, .idx [.peek 0, .const (.int 2)]])) (.cb .sorted [.peek 3]) (.lst [.const .non])), .asg (.slot 5) (.lst []), .for_ (.slot 6) (.seq [.peekF 1]) [.ext 5 (.lc [7] (.slot 7) (.seq [.peekF 4]) [] (.tup [.star (.var 6), .var 7]))], .asg (.slot 1) (.var 5)], .ret (.mov 1)]
def b_is_worth : List IS := [.ret (.andE (.call 34 [.peek 0, .peek 1, .peek 2]) (.cb .all [.lc [4, 5] (.tup [(.slot 4), (.slot 5)]) (.seq [.call 42 [.peek 0, .peek 1, .peek 2]]) [] (.op .lt [.peek 4, .peek 3])]))]
def b_best_by : List IS := [.ifs (.cb .any [.lc [5, 6] (.tup [(.slot 5), (.slot 6)]) (.zip [.peekF 1, .call 23 [.peek 0]]) [] (.andE (.op .gt [.peek 5, .const (.int 0)]) (.isn false [.peek 6]))]) [.ret (.const .non)] [], .asg (.slot 2) (.tup [.frz (.call 36 [.peek 0, .peek 1, .call 24 [.peek 0]]), .frz (.call 24 [.peek 0])]), .for_ (.slot 3) (.seq [.call 46 [.peek 0]]) [.ifs (.call 47 [.peek 0, .peek 1, .peek 3, .idx [.peek 2, .const (.int 0)]]) [.asg (.slot 4) (.call 36 [.peek 0, .peek 1, .peek 3]), .asg (.slot 2) (.ite (.op .lt [.peek 4, .idx [.peek 2, .const (.int 0)]]) (.tup [.var 4, .var 3]) (.var 2))] []], .ret (.mov 2)]
def b_best_arrows : List IS := [.ex (.call 45 [.peek 0, .peek 1]), .ret (.call 48 [.peek 0, .peek 1])]
def b_shows_best_arrows : List IS := [.ex (.call 45 [.peek 0, .peek 1]), .asg (.slot 3) (.call 48 [.peek 0, .peek 1]), .ifs (.orE (.isn false [.peek 3]) (.orE (.notE (.cb .isi [.peek 2, .glob (.typ "tuple")])) (.op .ne [.cb .len [.peek 2], .const (.int 2)]))) [.ret (.andE (.isn false [.peek 3]) (.isn false [.peek 2]))] [], .ifs (.orE (.notE (.call 0 [.idx [.peek 2, .const (.int 0)]])) (.orE (.op .ne [.idx [.peek 2, .const (.int 0)], .idx [.peek 3, .const (.int 0)]]) (.notE (.call 14 [.peek 0, .idx [.peek 2, .const (.int 1)]])))) [.ret (.const (.bl false))] [], .ret (.op .eq [.call 36 [.peek 0, .peek 1, .idx [.peek 2, .const (.int 1)]], .idx [.peek 2, .const (.int 0)]])]
def b__law_pot : List IS := [.asg (.slot 2) (.ite (.op .lt [.peek 1, .cb .len [.peek 0]]) (.idx [.peek 0, .peek 1]) (.op .add [.op .add [.op .mod [.cb .sum [.slc [.peek 0] [] [.const (.int 1)]], .const (.int 1000409)], .op .mul [.const (.int 4507), .peek 1]], .const (.int 719)])), .asg (.slot 3) (.op .mul [.op .mod [.cb .int [.cb .abs [.peek 2]], .op .pow [.op .pow [.const (.int 10), .const (.int 60)], .const (.int 5)]], .cb .int [.op .ge [.cb .abs [.peek 2], .op .pow [.const (.int 10), .const (.int 18)]]]]), .asg (.slot 4) (.op .mod [.cb .int [.peek 2], .const (.int 2305843009213693951)]), .ret (.lst [.var 3, .op .mod [.cb .int [.op .add [.op .add [.op .mul [.peek 4, .const (.int 61837)], .op .mul [.op .mul [.const (.int 7451), .peek 1], .peek 1]], .const (.int 853)]], .const (.int 2305843009213693921)], .const (.int 0)])]
def b__law_take : List IS := [.ifs (.op .gt [.idx [.peek 0, .const (.int 0)], .const (.int 0)]) [.asg (.slot 4) (.op .mod [.cb .int [.idx [.peek 0, .const (.int 0)]], .peek 1]), .seti 0 (.op .fdiv [.idx [.peek 0, .const (.int 0)], .peek 1]) (.const (.int 0)), .ret (.mov 4)] [], .seti 0 (.op .add [.idx [.peek 0, .const (.int 2)], .const (.int 1)]) (.const (.int 2)), .asg (.slot 2) (.idx [.lst [.const (.int 2147481883), .const (.int 2147481863), .const (.int 2147481827), .const (.int 2147481811), .const (.int 2147481797)], .op .mod [.cb .int [.idx [.peek 0, .const (.int 2)]], .const (.int 5)]]), .asg (.slot 3) (.op .mod [.cb .int [.op .pow [.cb .int [.op .add [.op .add [.idx [.peek 0, .const (.int 1)], .op .mul [.op .mul [.const (.int 68059), .idx [.peek 0, .const (.int 2)]], .idx [.peek 0, .const (.int 2)]]], .const (.int 2389)]], .const (.int 3)]], .peek 2]), .asg (.slot 3) (.op .mod [.cb .int [.op .mul [.peek 3, .op .add [.op .mod [.cb .int [.peek 3], .const (.int 7883)], .op .mul [.const (.int 233), .idx [.peek 0, .const (.int 2)]]]]], .const (.int 2305843009213693907)]), .ret (.op .mod [.cb .int [.op .fdiv [.peek 3, .const (.int 131)]], .peek 1])]
def b__law_of : List IS := [.ret (.idx [.peek 1, .call 52 [.peek 0, .cb .len [.peek 1]]])]
def b__law_cells : List IS := [.ret (.rng false [.cb .max [.const (.int 1), .cb .min [.peek 1, .cb .len [.peek 0]]]])]
def b__law_is_int : List IS := [.ret (.andE (.cb .isi [.peek 0, .glob (.typ "int")]) (.andE (.notE (.cb .isi [.peek 0, .glob (.typ "bool")])) (.chain .le .le [.peek 1, .peek 0] [.peek 2])))]
def b__law_caught : List IS := [.asg (.tup [(.slot 1), (.slot 2)]) (.tup [.const .non, .const .non]), .tryA exs 0 2 3 1, .ret (.tup [.var 1, .var 2])]
def b__law_word_of : List IS := [.asg (.slot 1) (.lst [.tup [.const (.str "house"), .isx exs [.peek 0, .glob (.cls "BadHouse")]], .tup [.const (.str "crowd"), .isx exs [.peek 0, .glob (.cls "BadCrowd")]], .tup [.const (.str "arrows"), .isx exs [.peek 0, .glob (.cls "BadArrows")]]]), .asg (.slot 1) (.op .add [.peek 1, .lst [.tup [.const (.str "ticks"), .isx exs [.peek 0, .glob (.cls "BadTicks")]], .tup [.const (.str "room"), .isx exs [.peek 0, .glob (.cls "BadRoom")]]]]), .asg (.slot 2) (.lc [3, 4] (.tup [(.slot 3), (.slot 4)]) (.seq [.peekF 1]) [.var 4] (.var 3)), .ret (.ite (.op .eq [.cb .len [.peek 2], .const (.int 1)]) (.idx [.peek 2, .const (.int 0)]) (.const (.str "other")))]
def b__law_is_due : List IS := [.asg (.slot 2) (.idx [.call 56 [.peek 0], .const (.int 0)]), .asg (.slot 3) (.lc [4, 5, 6] (.tup [(.slot 4), (.slot 5), (.slot 6)]) (.seq [.peekF 1]) [.notE (.var 6)] (.tup [.var 4, .var 5])), .ifs (.op .eq [.peek 3, .lst []]) [.ret (.isn false [.peek 2])] [], .ret (.andE (.isn true [.peek 2]) (.op .eq [.cb .repr [.tup [.frz (.call 57 [.peek 2]), .fld exs (.var 2)]], .cb .repr [.idx [.peek 3, .const (.int 0)]]]))]
def b__law_are_right : List IS := [.asg (.slot 6) (.ite (.var 1) (.idx [.peek 0, .const (.int 0)]) (.const (.int 1))), .asg (.slot 7) (.lst [.tup [.const (.str "house"), .var 0, .var 1]]), .asg (.slot 8) (.op .add [.peek 7, .lst [.tup [.const (.str "crowd"), .var 2, .andE (.var 1) (.andE (.cb .isi [.peek 2, .glob (.typ "tuple")]) (.andE (.op .eq [.cb .len [.peek 2], .peek 6]) (.cb .all [.lc [16] (.slot 16) (.seq [.peekF 2]) [] (.frz (.callM 55 [.peek 16, .const (.int 0), .const (.int 50)]))])))]]]), .asg (.slot 9) (.lst [.tup [.const (.int 3), .tup [.tup [.const (.int 0), .const (.int 1), .const (.int 1)], .tup [.const (.int 1), .const (.int 2), .const (.int 2)]], .tup [.const (.int 2)]], .tup [.const (.int 3), .tup [.tup [.const (.int 0), .const (.int 1), .const (.int 3)], .tup [.const (.int 0), .const (.int 2), .const (.int 2)]], .tup [.const (.int 2)]]]), .asg (.slot 10) (.op .add [.lst [.const (.str "(None, None, None)"), .const (.str "(1, None, None)")], .ite (.andE (.var 1) (.op .eq [.peek 0, .idx [.peek 9, .const (.int 0)]])) (.lst [.const (.str "(1, 2, None)")]) (.lst [])]), .asg (.slot 10) (.op .add [.peek 10, .ite (.andE (.var 1) (.op .eq [.peek 0, .idx [.peek 9, .const (.int 1)]])) (.lst [.const (.str "(2, 0, None)")]) (.lst [])]), .asg (.slot 11) (.lst [.tup [.const (.str "arrows"), .var 3, .andE (.var 1) (.andE (.op .eq [.peek 6, .const (.int 3)]) (.op .mem [.cb .repr [.peek 3], .peek 10]))]]), .asg (.slot 12) (.op .add [.peek 8, .peek 11]), .asg (.slot 13) (.lst []), .app 13 (.tup [.lam 62, .var 7]), .app 13 (.tup [.lam 63, .var 7]), .app 13 (.tup [.lam 64, .frz (.op .add [.op .add [.peek 7, .peek 11], .lst [.tup [.const (.str "room"), .var 5, .andE (.var 1) (.callM 55 [.peek 5, .const (.int 0), .op .sub [.peek 6, .const (.int 1)]])]]])]), .app 13 (.tup [.lam 65, .op .add [.peek 7, .peek 11]]), .app 13 (.tup [.lam 66, .op .add [.peek 7, .peek 11]]), .app 13 (.tup [.lam 67, .frz (.op .add [.peek 12, .lst [.tup [.const (.str "ticks"), .var 4, .frz (.callM 55 [.peek 4, .const (.int 0), .const (.int 16)])]]])]), .app 13 (.tup [.lam 68, .var 12]), .app 13 (.tup [.lam 69, .var 12]), .app 13 (.tup [.lam 70, .var 12]), .app 13 (.tup [.lam 71, .var 12]), .app 13 (.tup [.lam 72, .var 8]), .app 13 (.tup [.lam 73, .var 8]), .ret (.cb .all [.lcM [(62, [0]), (63, [0]), (64, [0, 3, 5]), (65, [0, 3]), (66, [0, 3]), (67, [0, 2, 3, 4]), (68, [0, 2, 3]), (69, [0, 2, 3]), (70, [0, 2, 3]), (71, [0, 2, 3]), (72, [0, 2]), (73, [0, 2])] [14, 15] (.tup [(.slot 14), (.slot 15)]) 13 (.frz (.call 58 [.peek 14, .peek 15]))])]
def b__law_right : List IS := [.asg (.slot 1) (.lst [.tup [.const (.int 3), .tup [.tup [.const (.int 0), .const (.int 1), .const (.int 1)], .tup [.const (.int 1), .const (.int 2), .const (.int 2)]], .tup [.const (.int 2)]], .tup [.const (.int 3), .tup [.tup [.const (.int 0), .const (.int 1), .const (.int 3)], .tup [.const (.int 0), .const (.int 2), .const (.int 2)]], .tup [.const (.int 2)]], .tup [.const (.int 1), .tup [], .tup [.const (.int 0)]]]), .asg (.slot 2) (.lst [.tup [.const (.int 0), .tup [], .tup [.const (.int 0)]], .tup [.const (.int 11), .tup [], .tup [.const (.int 0)]], .tup [.const (.int 3), .tup [.tup [.const (.int 0), .const (.int 1), .const (.int 21)]], .tup [.const (.int 0)]], .tup [.const (.int 3), .tup [.tup [.const (.int 1), .const (.int 0), .const (.int 1)]], .tup [.const (.int 0)]], .tup [.const (.int 3), .tup [], .tup []], .const .non, .frz (.lst [.const (.int 3), .tup [], .tup [.const (.int 0)]]), .tup [.const (.int 3), .tup [], .tup [.const (.int 3)]], .tup [.const (.bl true), .tup [], .tup [.const (.int 0)]]]), .for_ (.slot 3) (.range [.const (.int 8)]) [.asg (.slot 4) (.op .gt [.call 52 [.peek 0, .const (.int 4)], .const (.int 0)]), .asg (.slot 5) (.ite (.var 4) (.call 53 [.peek 0, .peek 1]) (.call 53 [.peek 0, .peek 2])), .asg (.slot 6) (.call 53 [.peek 0, .lst [.tup [.const (.int 1), .const (.int 2), .const (.int 0)], .tup [.const (.int 0)], .tup [.const (.int 50), .const (.int 0), .const (.int 0)], .tup [.const (.int 51), .const (.int 0), .const (.int 0)], .tup [.const (.int 1), .const (.int 2)], .frz (.lst [.const (.int 1), .const (.int 2), .const (.int 0)]), .const .non, .tup [.const (.bl true), .const (.int 0), .const (.int 0)], .tup [.neg [.const (.int 1)], .const (.int 0), .const (.int 0)]]]), .asg (.slot 7) (.lst [.tup [.const .non, .const .non, .const .non], .tup [.const (.int 1), .const (.int 2), .const .non], .tup [.const (.int 1), .const .non, .const .non], .tup [.const (.int 2), .const (.int 0), .const .non], .tup [.const .non, .const .non, .const (.int 1)], .tup [.const .non, .const .non], .frz (.lst [.const (.int 1), .const (.int 2), .const .non]), .const .non]), .asg (.slot 7) (.call 53 [.peek 0, .op .add [.peek 7, .lst [.tup [.const (.bl true), .const .non, .const .non], .tup [.const (.int 0), .const .non, .const .non]]]]), .par [8, 9] [.call 53 [.peek 0, .lst [.const (.int 0), .const (.int 3), .const (.int 16), .const (.int 17), .neg [.const (.int 1)], .const .non, .const (.bl true)]], .call 53 [.peek 0, .lst [.const (.int 0), .const (.int 2), .const (.int 3), .neg [.const (.int 1)], .const .non, .const (.bl true)]]], .ifs (.notE (.call 59 [.peek 5, .peek 4, .peek 6, .peek 7, .peek 8, .peek 9])) [.ret (.const (.bl false))] []], .ret (.const (.bl true))]
def b_law : List IS := [.ret (.cb .all [.lc [1] (.slot 1) (.seq [.call 54 [.peek 0, .const (.int 3)]]) [] (.frz (.call 60 [.call 51 [.peek 0, .peek 1]]))])]
def PQ : List Fd := [⟨1, 1, [], b_is_integer, false⟩, ⟨3, 3, [], b_is_between, false⟩, ⟨3, 4, [], b_are_between, false⟩, ⟨1, 3, [], b_is_ascending, false⟩, ⟨2, 2, [], b_is_door, false⟩, ⟨2, 5, [], b_are_doors, false⟩, ⟨2, 2, [], b_are_rooms, false⟩, ⟨1, 1, [], b_is_house, false⟩, ⟨1, 1, [], b_check_house, false⟩, ⟨2, 2, [], b_is_crowd_of, false⟩, ⟨2, 2, [], b_check_crowd, false⟩, ⟨1, 1, [], b_check_ticks, false⟩, ⟨1, 6, [], b_near_of, false⟩, ⟨4, 4, [], b_is_arrow, false⟩, ⟨2, 5, [], b_are_arrows_of, false⟩, ⟨2, 2, [], b_are_arrows, false⟩, ⟨2, 2, [], b_check_arrows, false⟩, ⟨2, 3, [], b_led_by, false⟩, ⟨3, 3, [], b_does_lead, false⟩, ⟨3, 3, [], b_leads, false⟩, ⟨2, 4, [], b_arrows_told, false⟩, ⟨2, 4, [], b_is_round, false⟩, ⟨3, 4, [], b_shows_arrows, false⟩, ⟨1, 8, [], b_far_of, false⟩, ⟨1, 7, [], b_short_by, false⟩, ⟨1, 1, [], b_short_arrows, false⟩, ⟨2, 6, [], b_gone_of, false⟩, ⟨2, 6, [], b_come_of, false⟩, ⟨3, 7, [], b_stepped, false⟩, ⟨3, 8, [], b_way_by, false⟩, ⟨3, 4, [], b_step_by, false⟩, ⟨4, 6, [1], b_walk_by, false⟩, ⟨3, 3, [], b_check_led, false⟩, ⟨4, 4, [], b_arrow_walk, false⟩, ⟨3, 5, [], b_do_come_out, false⟩, ⟨3, 6, [], b_crowds_of, false⟩, ⟨3, 3, [], b_ticks_by, false⟩, ⟨3, 3, [], b_arrow_ticks, false⟩, ⟨3, 8, [], b_longest_queue, false⟩, ⟨3, 5, [], b_led_through, false⟩, ⟨3, 6, [], b_wide_of, false⟩, ⟨4, 5, [], b_bar_of, false⟩, ⟨3, 6, [], b_bars_by, false⟩, ⟨3, 4, [], b_bar_told, false⟩, ⟨4, 5, [], b_shows_bar, false⟩, ⟨2, 5, [], b_check_all, false⟩, ⟨1, 8, [], b_all_arrows, false⟩, ⟨4, 6, [], b_is_worth, false⟩, ⟨2, 7, [], b_best_by, false⟩, ⟨2, 2, [], b_best_arrows, false⟩, ⟨3, 4, [], b_shows_best_arrows, false⟩, ⟨2, 5, [], b__law_pot, false⟩, ⟨2, 5, [], b__law_take, false⟩, ⟨2, 2, [], b__law_of, false⟩, ⟨2, 2, [], b__law_cells, false⟩, ⟨3, 3, [], b__law_is_int, false⟩, ⟨1, 4, [], b__law_caught, false⟩, ⟨1, 5, [], b__law_word_of, false⟩, ⟨2, 7, [], b__law_is_due, false⟩, ⟨6, 17, [], b__law_are_right, true⟩, ⟨1, 10, [], b__law_right, false⟩, ⟨1, 2, [], b_law, false⟩, ⟨1, 1, [], [.ret (.call 15 [.peek 0, .const .non])], false⟩, ⟨1, 1, [], [.ret (.call 25 [.peek 0])], false⟩, ⟨3, 3, [], [.ret (.call 19 [.peek 0, .peek 1, .peek 2])], false⟩, ⟨2, 2, [], [.ret (.call 20 [.peek 0, .peek 1])], false⟩, ⟨2, 2, [], [.ret (.call 22 [.peek 0, .peek 1, .const .non])], false⟩, ⟨4, 4, [], [.ret (.call 33 [.peek 0, .peek 1, .peek 2, .peek 3])], false⟩, ⟨3, 3, [], [.ret (.call 37 [.peek 0, .peek 1, .peek 2])], false⟩, ⟨3, 3, [], [.ret (.call 38 [.peek 0, .peek 1, .peek 2])], false⟩, ⟨3, 3, [], [.ret (.call 43 [.peek 0, .peek 1, .peek 2])], false⟩, ⟨3, 3, [], [.ret (.call 44 [.peek 0, .peek 1, .peek 2, .const .non])], false⟩, ⟨2, 2, [], [.ret (.call 49 [.peek 0, .peek 1])], false⟩, ⟨2, 2, [], [.ret (.call 50 [.peek 0, .peek 1, .const .non])], false⟩]
end LW
end

section
set_option linter.all false
set_option maxRecDepth 100000
set_option maxHeartbeats 1000000
namespace LW
open Mi
theorem caught_ok (k fc : Nat) (cs as : List D) (d : D) (h : runN PQ k fc cs = .ok d as) (hp : plainL cs = true) (ho : ownL cs = false) (hd : d.plain = true) (hdo : d.own = false) :
    runN PQ (k + 1) 56 [.clo fc (.non :: cs)] = .ok (.tup [.non, d]) [.clo fc (.non :: cs)] := by
  refine run_ret (lk := [0]) (ρ0 := [some (.clo fc (.non :: cs)), none, none, none]) (ρ1 := [some (.clo fc (.non :: cs)), some .non, some d, none]) rfl rfl rfl rfl ?_ rfl
  have e1 : exS (runN PQ k) [0] (.tryA exs 0 2 3 1) [some (.clo fc (.non :: cs)), some .non, some .non, none] = .nx [some (.clo fc (.non :: cs)), some .non, some d, none] := by
    simp [exS, getE, hp, ho, h, hd, hdo]
  simp -dsimp only [b__law_caught, E_lam, E_callM, E_isx, E_fld, Es_lam, Es_callM, Es_isx, Es_fld, E_const, E_glob, E_var, E_mov, E_op, E_isn, E_neg, E_notE, E_chain, E_andE, E_orE, E_ite, E_tup, E_lst, E_idx, E_slc, E_cb, E_call, E_callK, E_rng2, rngK_t, rngK_f, E_frz, Es_nil, Es_peek, Es_peekF, Es_star, Es_const, Es_glob, Es_var, Es_mov, Es_op, Es_isn, Es_neg, Es_notE, Es_chain, Es_andE, Es_orE, Es_ite, Es_tup, Es_lst, Es_idx, Es_slc, Es_cb, Es_call, Es_callK, Es_rng, Es_frz, Es_lc, Eb_nil, Eb_one, Ei_nil, Ei_cons, It_seq, It_range, It_enum, It_zip, S_ex, S_asg, S_par, S_seti, S_app, S_ext, S_aug, S_augi, S_ret, S_ifs, S_for_, S_while_, S_never, Ss_nil, Ss_cons, getE_zero, getE_succ, ↓bind_rb, ↓ofR_rb, ↓rbk, ↓ork, rbk, ork, Bool.false_eq_true, if_false, oo_some, ob_some, om_some, getAll, OV.get, OV.refs, nodupN, putBack, set_zero, set_succ, List.set_cons_zero, List.set_cons_succ, bindT, bindTs, op2, List.contains_nil, List.contains_cons, Nat.reduceBEq, Bool.or_false, Bool.or_self, Bool.not_false, Bool.not_true, Bool.and_true, Bool.true_and, Bool.and_self, List.length_cons, List.length_nil, if_true, List.cons_append, List.nil_append, reduceIte, Nat.reduceLT, Nat.reduceAdd, prD, isD_tt, isD_ti, isD_lt, isD_li, isD_nt, isD_ni, isD_nb, isD_ii, isD_ib, isD_it, isD_bi, isD_bb, isD_bt, sz_0, sz_1, sz_2, sz_3, sz_4, sz_5, sz_6, sz_7, sz_8, sz_9, sz_10, sz_11, sz_12, sz_13, sz_14, sz_15, sz_16, sz_17, sz_18, sz_19, sz_20, ↓e1, hdo, D.own]
theorem caught_exc (k fc : Nat) (cs as : List D) (c : String) (d : D) (h : runN PQ k fc cs = .exc c d as) (hp : plainL cs = true) (ho : ownL cs = false) (hd : d.plain = true) (hdo : d.own = false) (hc : exs.contains c = true) :
    runN PQ (k + 1) 56 [.clo fc (.non :: cs)] = .ok (.tup [.exc c d, .non]) [.clo fc (.non :: cs)] := by
  refine run_ret (lk := [0]) (ρ0 := [some (.clo fc (.non :: cs)), none, none, none]) (ρ1 := [some (.clo fc (.non :: cs)), some (.exc c d), some .non, none]) rfl rfl rfl rfl ?_ rfl
  have e1 : exS (runN PQ k) [0] (.tryA exs 0 2 3 1) [some (.clo fc (.non :: cs)), some .non, some .non, none] = .nx [some (.clo fc (.non :: cs)), some (.exc c d), some .non, none] := by
    have hc' : c ∈ exs := by simpa using hc
    simp [exS, getE, hp, ho, h, hd, hdo, hc']
  simp -dsimp only [b__law_caught, E_lam, E_callM, E_isx, E_fld, Es_lam, Es_callM, Es_isx, Es_fld, E_const, E_glob, E_var, E_mov, E_op, E_isn, E_neg, E_notE, E_chain, E_andE, E_orE, E_ite, E_tup, E_lst, E_idx, E_slc, E_cb, E_call, E_callK, E_rng2, rngK_t, rngK_f, E_frz, Es_nil, Es_peek, Es_peekF, Es_star, Es_const, Es_glob, Es_var, Es_mov, Es_op, Es_isn, Es_neg, Es_notE, Es_chain, Es_andE, Es_orE, Es_ite, Es_tup, Es_lst, Es_idx, Es_slc, Es_cb, Es_call, Es_callK, Es_rng, Es_frz, Es_lc, Eb_nil, Eb_one, Ei_nil, Ei_cons, It_seq, It_range, It_enum, It_zip, S_ex, S_asg, S_par, S_seti, S_app, S_ext, S_aug, S_augi, S_ret, S_ifs, S_for_, S_while_, S_never, Ss_nil, Ss_cons, getE_zero, getE_succ, ↓bind_rb, ↓ofR_rb, ↓rbk, ↓ork, rbk, ork, Bool.false_eq_true, if_false, oo_some, ob_some, om_some, getAll, OV.get, OV.refs, nodupN, putBack, set_zero, set_succ, List.set_cons_zero, List.set_cons_succ, bindT, bindTs, op2, List.contains_nil, List.contains_cons, Nat.reduceBEq, Bool.or_false, Bool.or_self, Bool.not_false, Bool.not_true, Bool.and_true, Bool.true_and, Bool.and_self, List.length_cons, List.length_nil, if_true, List.cons_append, List.nil_append, reduceIte, Nat.reduceLT, Nat.reduceAdd, prD, isD_tt, isD_ti, isD_lt, isD_li, isD_nt, isD_ni, isD_nb, isD_ii, isD_ib, isD_it, isD_bi, isD_bb, isD_bt, sz_0, sz_1, sz_2, sz_3, sz_4, sz_5, sz_6, sz_7, sz_8, sz_9, sz_10, sz_11, sz_12, sz_13, sz_14, sz_15, sz_16, sz_17, sz_18, sz_19, sz_20, ↓e1, hdo, D.own]
/-- a due: what, the value, whether it is right -/
abbrev Due : Type := String × D × Bool
def due (x : Due) : D := .tup [.str x.1, x.2.1, .bl x.2.2]
def DueOk (x : Due) : Prop := x.2.1.own = false ∧ x.2.1.isPd = true ∧ PySem.SeqAt.shaped x.2.1.pd = true
def wrongs (xs : List Due) : List D := (xs.filter fun x => !x.2.2).map fun x => .tup [.str x.1, x.2.1]
theorem ownL_due : ∀ (xs : List Due), (∀ x ∈ xs, DueOk x) → ownL (xs.map due) = false
  | [], _ => rfl
  | x :: xs, h => by
    simp only [List.map_cons, ownL, due, D.own, (h x (by simp)).1, ownL_due xs (fun y hy => h y (by simp [hy])), Bool.or_self]
mutual
theorem frz_idQ : ∀ d : D, d.own = false → d.frz = d
  | .non, _ => rfl
  | .bl _, _ => rfl
  | .int _, _ => rfl
  | .str _, _ => rfl
  | .typ _, _ => rfl
  | .cls _, _ => rfl
  | .tup ds, h => by simp only [D.frz]; rw [frzL_idQ ds (by simpa only [D.own] using h)]
  | .lst o ds, h => by
    simp only [D.own, Bool.or_eq_false_iff] at h
    simp only [D.frz]; rw [frzL_idQ ds h.2, h.1]
  | .dct o ks vs, h => by
    simp only [D.own, Bool.or_eq_false_iff] at h
    simp only [D.frz]; rw [frzL_idQ ks h.2.1, frzL_idQ vs h.2.2, h.1]
  | .exc _ d, h => by simp only [D.frz]; rw [frz_idQ d (by simpa only [D.own] using h)]
  | .clo _ cs, h => by simp only [D.frz]; rw [frzL_idQ cs (by simpa only [D.own] using h)]
  | .scr cs, h => by simp only [D.frz]; rw [frzL_idQ cs (by simpa only [D.own] using h)]
theorem frzL_idQ : ∀ ds : List D, ownL ds = false → frzL ds = ds
  | [], _ => rfl
  | d :: ds, h => by
    simp only [ownL, Bool.or_eq_false_iff] at h
    simp only [frzL]; rw [frz_idQ d h.1, frzL_idQ ds h.2]
end
theorem isPdL_wr : ∀ (xs : List Due), (∀ x ∈ xs, DueOk x) → isPdL (wrongs xs) = true
  | [], _ => rfl
  | x :: xs, h => by
    have ih := isPdL_wr xs (fun y hy => h y (by simp [hy]))
    have h1 := (h x (by simp)).2.1
    unfold wrongs at ih ⊢
    cases hx : x.2.2 <;> simp [hx, isPdL, D.isPd, h1, ih]
theorem ownL_wr : ∀ (xs : List Due), (∀ x ∈ xs, DueOk x) → ownL (wrongs xs) = false
  | [], _ => rfl
  | x :: xs, h => by
    have ih := ownL_wr xs (fun y hy => h y (by simp [hy]))
    have h1 := (h x (by simp)).1
    unfold wrongs at ih ⊢
    cases hx : x.2.2 <;> simp [hx, ownL, D.own, h1, ih]
/-- is_due's list of what is wrong -/
theorem wrong_lc (Φ : Fns) (look : D) (xs : List Due) (hx : ∀ x ∈ xs, DueOk x) (hl : xs.length ≤ SZ) (ct : D) :
    ev Φ (.lc [4, 5, 6] (.tup [(.slot 4), (.slot 5), (.slot 6)]) (.seq [.peekF 1]) [.notE (.var 6)] (.tup [.var 4, .var 5])) [some look, some (.lst false (xs.map due)), some ct, none, none, none, none] = .ok (.lst true (wrongs xs)) [some look, some (.lst false (xs.map due)), some ct, none, none, none, none] := by
  have ho := ownL_due xs hx
  refine ev_lc_if Φ [4, 5, 6] _ _ _ _ _ _ xs due (fun x => !x.2.2) (fun x => .tup [.str x.1, x.2.1]) (fun x => [some look, some (.lst false (xs.map due)), some ct, none, some (.str x.1), some x.2.1, some (.bl x.2.2)]) ?_ hl rfl (fun x hm => ⟨rfl, ?_, fun _ => ?_⟩) (fun d hd => rfl) (fun d hd => rfl) rfl
  · simp -dsimp only [E_lam, E_callM, E_isx, E_fld, Es_lam, Es_callM, Es_isx, Es_fld, E_const, E_glob, E_var, E_mov, E_op, E_isn, E_neg, E_notE, E_chain, E_andE, E_orE, E_ite, E_tup, E_lst, E_idx, E_slc, E_cb, E_call, E_callK, E_rng2, rngK_t, rngK_f, E_frz, Es_nil, Es_peek, Es_peekF, Es_star, Es_const, Es_glob, Es_var, Es_mov, Es_op, Es_isn, Es_neg, Es_notE, Es_chain, Es_andE, Es_orE, Es_ite, Es_tup, Es_lst, Es_idx, Es_slc, Es_cb, Es_call, Es_callK, Es_rng, Es_frz, Es_lc, Eb_nil, Eb_one, Ei_nil, Ei_cons, It_seq, It_range, It_enum, It_zip, S_ex, S_asg, S_par, S_seti, S_app, S_ext, S_aug, S_augi, S_ret, S_ifs, S_for_, S_while_, S_never, Ss_nil, Ss_cons, getE_zero, getE_succ, ↓bind_rb, ↓ofR_rb, ↓rbk, ↓ork, rbk, ork, Bool.false_eq_true, if_false, oo_some, ob_some, om_some, getAll, OV.get, OV.refs, nodupN, putBack, set_zero, set_succ, List.set_cons_zero, List.set_cons_succ, bindT, bindTs, op2, List.contains_nil, List.contains_cons, Nat.reduceBEq, Bool.or_false, Bool.or_self, Bool.not_false, Bool.not_true, Bool.and_true, Bool.true_and, Bool.and_self, List.length_cons, List.length_nil, if_true, List.cons_append, List.nil_append, reduceIte, Nat.reduceLT, Nat.reduceAdd, prD, isD_tt, isD_ti, isD_lt, isD_li, isD_nt, isD_ni, isD_nb, isD_ii, isD_ib, isD_it, isD_bi, isD_bb, isD_bt, sz_0, sz_1, sz_2, sz_3, sz_4, sz_5, sz_6, sz_7, sz_8, sz_9, sz_10, sz_11, sz_12, sz_13, sz_14, sz_15, sz_16, sz_17, sz_18, sz_19, sz_20, D.frz, frzL_idQ _ ho, itemsAll, itemsOf, D.own, ho, seqOf, seqG]
  · cases hb : x.2.2 <;> simp -dsimp only [E_lam, E_callM, E_isx, E_fld, Es_lam, Es_callM, Es_isx, Es_fld, E_const, E_glob, E_var, E_mov, E_op, E_isn, E_neg, E_notE, E_chain, E_andE, E_orE, E_ite, E_tup, E_lst, E_idx, E_slc, E_cb, E_call, E_callK, E_rng2, rngK_t, rngK_f, E_frz, Es_nil, Es_peek, Es_peekF, Es_star, Es_const, Es_glob, Es_var, Es_mov, Es_op, Es_isn, Es_neg, Es_notE, Es_chain, Es_andE, Es_orE, Es_ite, Es_tup, Es_lst, Es_idx, Es_slc, Es_cb, Es_call, Es_callK, Es_rng, Es_frz, Es_lc, Eb_nil, Eb_one, Ei_nil, Ei_cons, It_seq, It_range, It_enum, It_zip, S_ex, S_asg, S_par, S_seti, S_app, S_ext, S_aug, S_augi, S_ret, S_ifs, S_for_, S_while_, S_never, Ss_nil, Ss_cons, getE_zero, getE_succ, ↓bind_rb, ↓ofR_rb, ↓rbk, ↓ork, rbk, ork, Bool.false_eq_true, if_false, oo_some, ob_some, om_some, getAll, OV.get, OV.refs, nodupN, putBack, set_zero, set_succ, List.set_cons_zero, List.set_cons_succ, bindT, bindTs, op2, List.contains_nil, List.contains_cons, Nat.reduceBEq, Bool.or_false, Bool.or_self, Bool.not_false, Bool.not_true, Bool.and_true, Bool.true_and, Bool.and_self, List.length_cons, List.length_nil, if_true, List.cons_append, List.nil_append, reduceIte, Nat.reduceLT, Nat.reduceAdd, prD, isD_tt, isD_ti, isD_lt, isD_li, isD_nt, isD_ni, isD_nb, isD_ii, isD_ib, isD_it, isD_bi, isD_bb, isD_bt, sz_0, sz_1, sz_2, sz_3, sz_4, sz_5, sz_6, sz_7, sz_8, sz_9, sz_10, sz_11, sz_12, sz_13, sz_14, sz_15, sz_16, sz_17, sz_18, sz_19, sz_20, D.own]
  · simp -dsimp only [E_lam, E_callM, E_isx, E_fld, Es_lam, Es_callM, Es_isx, Es_fld, E_const, E_glob, E_var, E_mov, E_op, E_isn, E_neg, E_notE, E_chain, E_andE, E_orE, E_ite, E_tup, E_lst, E_idx, E_slc, E_cb, E_call, E_callK, E_rng2, rngK_t, rngK_f, E_frz, Es_nil, Es_peek, Es_peekF, Es_star, Es_const, Es_glob, Es_var, Es_mov, Es_op, Es_isn, Es_neg, Es_notE, Es_chain, Es_andE, Es_orE, Es_ite, Es_tup, Es_lst, Es_idx, Es_slc, Es_cb, Es_call, Es_callK, Es_rng, Es_frz, Es_lc, Eb_nil, Eb_one, Ei_nil, Ei_cons, It_seq, It_range, It_enum, It_zip, S_ex, S_asg, S_par, S_seti, S_app, S_ext, S_aug, S_augi, S_ret, S_ifs, S_for_, S_while_, S_never, Ss_nil, Ss_cons, getE_zero, getE_succ, ↓bind_rb, ↓ofR_rb, ↓rbk, ↓ork, rbk, ork, Bool.false_eq_true, if_false, oo_some, ob_some, om_some, getAll, OV.get, OV.refs, nodupN, putBack, set_zero, set_succ, List.set_cons_zero, List.set_cons_succ, bindT, bindTs, op2, List.contains_nil, List.contains_cons, Nat.reduceBEq, Bool.or_false, Bool.or_self, Bool.not_false, Bool.not_true, Bool.and_true, Bool.true_and, Bool.and_self, List.length_cons, List.length_nil, if_true, List.cons_append, List.nil_append, reduceIte, Nat.reduceLT, Nat.reduceAdd, prD, isD_tt, isD_ti, isD_lt, isD_li, isD_nt, isD_ni, isD_nb, isD_ii, isD_ib, isD_it, isD_bi, isD_bb, isD_bt, sz_0, sz_1, sz_2, sz_3, sz_4, sz_5, sz_6, sz_7, sz_8, sz_9, sz_10, sz_11, sz_12, sz_13, sz_14, sz_15, sz_16, sz_17, sz_18, sz_19, sz_20, D.own, (hx x hm).1]
theorem eq_nil (Φ : Fns) (ws : List D) (h : isPdL ws = true) (h2 : PySem.SeqAt.shaped (.list (pdL ws)) = true) : op2 .eq (.lst true ws) (.lst true []) = some (.bl ws.isEmpty) := by
  have : PySem.PyData.eqv (.list (pdL ws)) (.list []) = ws.isEmpty := by
    cases ws with
    | nil => rfl
    | cons w r => rfl
  simp [op2, eqD, D.isPd, D.pd, isPdL, pdL, h, h2, this]
  rfl
end LW
end

section
set_option linter.all false
set_option maxRecDepth 100000
set_option maxHeartbeats 1000000
namespace LW
open Mi
/-- a class's word -/
def wordOf : String → Option String
  | "BadHouse" => some "house"
  | "BadCrowd" => some "crowd"
  | "BadArrows" => some "arrows"
  | "BadTicks" => some "ticks"
  | "BadRoom" => some "room"
  | _ => none
theorem word_house (k : Nat) (v : D) : runN PQ (k + 1) 57 [.exc "BadHouse" v] = .ok (.str "house") [.exc "BadHouse" v] := by kernel_rfl
theorem word_crowd (k : Nat) (v : D) : runN PQ (k + 1) 57 [.exc "BadCrowd" v] = .ok (.str "crowd") [.exc "BadCrowd" v] := by kernel_rfl
theorem word_arrows (k : Nat) (v : D) : runN PQ (k + 1) 57 [.exc "BadArrows" v] = .ok (.str "arrows") [.exc "BadArrows" v] := by kernel_rfl
theorem word_ticks (k : Nat) (v : D) : runN PQ (k + 1) 57 [.exc "BadTicks" v] = .ok (.str "ticks") [.exc "BadTicks" v] := by kernel_rfl
theorem word_room (k : Nat) (v : D) : runN PQ (k + 1) 57 [.exc "BadRoom" v] = .ok (.str "room") [.exc "BadRoom" v] := by kernel_rfl
end LW
end

section
set_option linter.all false
set_option maxRecDepth 100000
set_option maxHeartbeats 1000000
namespace LW
open Mi
theorem eq_nilD (ws : List D) (h : isPdL ws = true) (h2 : PySem.SeqAt.shaped (.list (pdL ws)) = true) : eqD (.lst true ws) (.lst true []) = some ws.isEmpty := by
  have : PySem.PyData.eqv (.list (pdL ws)) (.list []) = ws.isEmpty := by
    cases ws with
    | nil => rfl
    | cons w r => rfl
  simp [eqD, D.isPd, D.pd, isPdL, pdL, h, h2, this]
  rfl
theorem eqD_str (s : PySem.Str) (h : PySem.PyData.strOk s = true) : eqD (.str s) (.str s) = some true := by
  have := op_eq_str s h
  simp only [op2] at this
  cases q : eqD (.str s) (.str s) with
  | none => rw [q] at this; cases this
  | some b => rw [q] at this; simp only [Option.map_some, Option.some.injEq, D.bl.injEq] at this; rw [this]
theorem bne_tf : (true != false) = true := rfl
theorem bne_ft : (false != true) = true := rfl
theorem at0 (a : D) (r : List D) : L2.atI (a :: r) 0 = some a := by
  have := atI_nat (a :: r) 0
  simpa using this
/-- dues that can be looked at -/
structure Dues (xs : List Due) : Prop where
  ok : ∀ x ∈ xs, DueOk x
  len : xs.length ≤ SZ
  sh : PySem.SeqAt.shaped (.list (pdL (wrongs xs))) = true
theorem due_right (k fc : Nat) (cs as : List D) (d : D) (xs : List Due) (h : runN PQ k fc cs = .ok d as) (hp : plainL cs = true) (ho : ownL cs = false) (hd : d.plain = true) (hdo : d.own = false) (hx : Dues xs) (hw : wrongs xs = []) :
    runN PQ (k + 2) 58 [.clo fc (.non :: cs), .lst false (xs.map due)] = .ok (.bl true) [.clo fc (.non :: cs), .lst false (xs.map due)] := by
  have c := caught_ok k fc cs as d h hp ho hd hdo
  have l := wrong_lc (runN PQ (k + 1)) (.clo fc (.non :: cs)) xs hx.ok hx.len .non
  have q := eq_nilD (wrongs xs) (isPdL_wr xs hx.ok) hx.sh
  rw [hw] at l q
  have hox := ownL_due xs hx.ok
  refine run_ret (lk := [0, 1]) (ρ0 := [some (.clo fc (.non :: cs)), some (.lst false (xs.map due)), none, none, none, none, none]) (ρ1 := [some (.clo fc (.non :: cs)), some (.lst false (xs.map due)), some .non, some (.lst true []), none, none, none]) rfl rfl rfl rfl ?_ rfl
  simp -dsimp only [E_lam, E_callM, E_isx, E_fld, Es_lam, Es_callM, Es_isx, Es_fld, E_const, E_glob, E_var, E_mov, E_op, E_isn, E_neg, E_notE, E_chain, E_andE, E_orE, E_ite, E_tup, E_lst, E_idx, E_slc, E_cb, E_call, E_callK, E_rng2, rngK_t, rngK_f, E_frz, Es_nil, Es_peek, Es_peekF, Es_star, Es_const, Es_glob, Es_var, Es_mov, Es_op, Es_isn, Es_neg, Es_notE, Es_chain, Es_andE, Es_orE, Es_ite, Es_tup, Es_lst, Es_idx, Es_slc, Es_cb, Es_call, Es_callK, Es_rng, Es_frz, Es_lc, Eb_nil, Eb_one, Ei_nil, Ei_cons, It_seq, It_range, It_enum, It_zip, S_ex, S_asg, S_par, S_seti, S_app, S_ext, S_aug, S_augi, S_ret, S_ifs, S_for_, S_while_, S_never, Ss_nil, Ss_cons, getE_zero, getE_succ, ↓bind_rb, ↓ofR_rb, ↓rbk, ↓ork, rbk, ork, Bool.false_eq_true, if_false, oo_some, ob_some, om_some, getAll, OV.get, OV.refs, nodupN, putBack, set_zero, set_succ, List.set_cons_zero, List.set_cons_succ, bindT, bindTs, op2, List.contains_nil, List.contains_cons, Nat.reduceBEq, Bool.or_false, Bool.or_self, Bool.not_false, Bool.not_true, Bool.and_true, Bool.true_and, Bool.and_self, List.length_cons, List.length_nil, if_true, List.cons_append, List.nil_append, reduceIte, Nat.reduceLT, Nat.reduceAdd, prD, isD_tt, isD_ti, isD_lt, isD_li, isD_nt, isD_ni, isD_nb, isD_ii, isD_ib, isD_it, isD_bi, isD_bb, isD_bt, sz_0, sz_1, sz_2, sz_3, sz_4, sz_5, sz_6, sz_7, sz_8, sz_9, sz_10, sz_11, sz_12, sz_13, sz_14, sz_15, sz_16, sz_17, sz_18, sz_19, sz_20, b__law_is_due, c, ↓l, q, idxD, seqOf, D.own, at0, itemD, Option.bind_some, isNon, hdo, beq_self_eq_true, List.isEmpty_nil, List.isEmpty_cons, Option.map_some, bne_tf]
theorem due_wrong (k fc : Nat) (cs as : List D) (cl kind : String) (s : PySem.Str) (d : D) (xs : List Due) (r : List D) (h : runN PQ k fc cs = .exc cl d as) (hp : plainL cs = true) (ho : ownL cs = false) (hd : d.plain = true) (hdo : d.own = false) (hc : exs.contains cl = true)
    (hwd : runN PQ (k + 1) 57 [.exc cl d] = .ok (.str kind) [.exc cl d]) (hr : reprD (.tup [.str kind, d]) = some (.str s)) (hso : PySem.PyData.strOk s = true) (hx : Dues xs) (hw : wrongs xs = .tup [.str kind, d] :: r) :
    runN PQ (k + 2) 58 [.clo fc (.non :: cs), .lst false (xs.map due)] = .ok (.bl true) [.clo fc (.non :: cs), .lst false (xs.map due)] := by
  have c := caught_exc k fc cs as cl d h hp ho hd hdo hc
  have l := wrong_lc (runN PQ (k + 1)) (.clo fc (.non :: cs)) xs hx.ok hx.len (.exc cl d)
  have q := eq_nilD (wrongs xs) (isPdL_wr xs hx.ok) hx.sh
  rw [hw] at l q
  have hox := ownL_due xs hx.ok
  have hc' : cl ∈ exs := by simpa using hc
  have es := eqD_str s hso
  have ow : ownL [D.str (PySem.Str.ofString kind), d] = false := by simp [ownL, D.own, hdo]
  refine run_ret (lk := [0, 1]) (ρ0 := [some (.clo fc (.non :: cs)), some (.lst false (xs.map due)), none, none, none, none, none]) (ρ1 := [some (.clo fc (.non :: cs)), some (.lst false (xs.map due)), some (.exc cl d), some (.lst true (.tup [.str kind, d] :: r)), none, none, none]) rfl rfl rfl rfl ?_ rfl
  simp -dsimp only [E_lam, E_callM, E_isx, E_fld, Es_lam, Es_callM, Es_isx, Es_fld, E_const, E_glob, E_var, E_mov, E_op, E_isn, E_neg, E_notE, E_chain, E_andE, E_orE, E_ite, E_tup, E_lst, E_idx, E_slc, E_cb, E_call, E_callK, E_rng2, rngK_t, rngK_f, E_frz, Es_nil, Es_peek, Es_peekF, Es_star, Es_const, Es_glob, Es_var, Es_mov, Es_op, Es_isn, Es_neg, Es_notE, Es_chain, Es_andE, Es_orE, Es_ite, Es_tup, Es_lst, Es_idx, Es_slc, Es_cb, Es_call, Es_callK, Es_rng, Es_frz, Es_lc, Eb_nil, Eb_one, Ei_nil, Ei_cons, It_seq, It_range, It_enum, It_zip, S_ex, S_asg, S_par, S_seti, S_app, S_ext, S_aug, S_augi, S_ret, S_ifs, S_for_, S_while_, S_never, Ss_nil, Ss_cons, getE_zero, getE_succ, ↓bind_rb, ↓ofR_rb, ↓rbk, ↓ork, rbk, ork, Bool.false_eq_true, if_false, oo_some, ob_some, om_some, getAll, OV.get, OV.refs, nodupN, putBack, set_zero, set_succ, List.set_cons_zero, List.set_cons_succ, bindT, bindTs, op2, List.contains_nil, List.contains_cons, Nat.reduceBEq, Bool.or_false, Bool.or_self, Bool.not_false, Bool.not_true, Bool.and_true, Bool.true_and, Bool.and_self, List.length_cons, List.length_nil, if_true, List.cons_append, List.nil_append, reduceIte, Nat.reduceLT, Nat.reduceAdd, prD, isD_tt, isD_ti, isD_lt, isD_li, isD_nt, isD_ni, isD_nb, isD_ii, isD_ib, isD_it, isD_bi, isD_bb, isD_bt, sz_0, sz_1, sz_2, sz_3, sz_4, sz_5, sz_6, sz_7, sz_8, sz_9, sz_10, sz_11, sz_12, sz_13, sz_14, sz_15, sz_16, sz_17, sz_18, sz_19, sz_20, b__law_is_due, c, ↓l, q, idxD, seqOf, D.own, at0, itemD, Option.bind_some, isNon, hdo, hwd, hr, hc', hc, D.frz, frz_idQ _ hdo, List.isEmpty_nil, List.isEmpty_cons, Option.map_some, bne_ft, ow, es]
end LW
end

section
set_option linter.all false
set_option maxRecDepth 100000
set_option maxHeartbeats 0
set_option Elab.async false
namespace LW
open Mi
def AllL {α : Type} : List α → (α → Prop) → Prop
  | [], _ => True
  | x :: r, P => P x ∧ AllL r P
theorem AllL.mem {α : Type} {P : α → Prop} : ∀ {l : List α}, AllL l P → ∀ x ∈ l, P x
  | y :: r, h, x, hx => by
    rcases List.mem_cons.1 hx with rfl | hx
    · exact h.1
    · exact AllL.mem h.2 x hx
/-- ends well, with a value that can be given back -/
def okB : FR → Bool
  | .ok d _ => d.plain && !d.own
  | _ => false
def hg0 : D := .tup [.int 3, .tup [.tup [.int 0, .int 1, .int 1], .tup [.int 1, .int 2, .int 2]], .tup [.int 2]]
def hg1 : D := .tup [.int 3, .tup [.tup [.int 0, .int 1, .int 3], .tup [.int 0, .int 2, .int 2]], .tup [.int 2]]
def hg2 : D := .tup [.int 1, .tup [], .tup [.int 0]]
def hb0 : D := .tup [.int 0, .tup [], .tup [.int 0]]
def hb1 : D := .tup [.int 11, .tup [], .tup [.int 0]]
def hb2 : D := .tup [.int 3, .tup [.tup [.int 0, .int 1, .int 21]], .tup [.int 0]]
def hb3 : D := .tup [.int 3, .tup [.tup [.int 1, .int 0, .int 1]], .tup [.int 0]]
def hb4 : D := .tup [.int 3, .tup [], .tup []]
def hb5 : D := .non
def hb6 : D := .lst false [.int 3, .tup [], .tup [.int 0]]
def hb7 : D := .tup [.int 3, .tup [], .tup [.int 3]]
def hb8 : D := .tup [.bl true, .tup [], .tup [.int 0]]
def cr0 : D := .tup [.int 1, .int 2, .int 0]
def cr1 : D := .tup [.int 0]
def cr2 : D := .tup [.int 50, .int 0, .int 0]
def cr3 : D := .tup [.int 51, .int 0, .int 0]
def cr4 : D := .tup [.int 1, .int 2]
def cr5 : D := .lst false [.int 1, .int 2, .int 0]
def cr6 : D := .non
def cr7 : D := .tup [.bl true, .int 0, .int 0]
def cr8 : D := .tup [.int (-1), .int 0, .int 0]
def ar0 : D := .tup [.non, .non, .non]
def ar1 : D := .tup [.int 1, .int 2, .non]
def ar2 : D := .tup [.int 1, .non, .non]
def ar3 : D := .tup [.int 2, .int 0, .non]
def ar4 : D := .tup [.non, .non, .int 1]
def ar5 : D := .tup [.non, .non]
def ar6 : D := .lst false [.int 1, .int 2, .non]
def ar7 : D := .non
def ar8 : D := .tup [.bl true, .non, .non]
def ar9 : D := .tup [.int 0, .non, .non]
def ti0 : D := .int 0
def ti1 : D := .int 3
def ti2 : D := .int 16
def ti3 : D := .int 17
def ti4 : D := .int (-1)
def ti5 : D := .non
def ti6 : D := .bl true
def ro0 : D := .int 0
def ro1 : D := .int 2
def ro2 : D := .int 3
def ro3 : D := .int (-1)
def ro4 : D := .non
def ro5 : D := .bl true
def goods : List D := [hg0, hg1, hg2]
def bads : List D := [hb0, hb1, hb2, hb3, hb4, hb5, hb6, hb7, hb8]
def crowds : List D := [cr0, cr1, cr2, cr3, cr4, cr5, cr6, cr7, cr8]
def arrowss : List D := [ar0, ar1, ar2, ar3, ar4, ar5, ar6, ar7, ar8, ar9]
def tickss : List D := [ti0, ti1, ti2, ti3, ti4, ti5, ti6]
def rooms : List D := [ro0, ro1, ro2, ro3, ro4, ro5]
def goodC : List (D × D) := [(hg0, cr0), (hg0, cr2), (hg1, cr0), (hg1, cr2), (hg2, cr1)]
def badC : List (D × D) := [(hg0, cr1), (hg0, cr3), (hg0, cr4), (hg0, cr5), (hg0, cr6), (hg0, cr7), (hg0, cr8), (hg1, cr1), (hg1, cr3), (hg1, cr4), (hg1, cr5), (hg1, cr6), (hg1, cr7), (hg1, cr8), (hg2, cr0), (hg2, cr2), (hg2, cr3), (hg2, cr4), (hg2, cr5), (hg2, cr6), (hg2, cr7), (hg2, cr8)]
def goodA : List (D × D) := [(hg0, ar0), (hg0, ar1), (hg0, ar2), (hg1, ar0), (hg1, ar2), (hg1, ar3)]
def badA : List (D × D) := [(hg0, ar3), (hg0, ar4), (hg0, ar5), (hg0, ar6), (hg0, ar7), (hg0, ar8), (hg0, ar9), (hg1, ar1), (hg1, ar4), (hg1, ar5), (hg1, ar6), (hg1, ar7), (hg1, ar8), (hg1, ar9), (hg2, ar0), (hg2, ar1), (hg2, ar2), (hg2, ar3), (hg2, ar4), (hg2, ar5), (hg2, ar6), (hg2, ar7), (hg2, ar8), (hg2, ar9)]
def goodR : List (D × D) := [(hg0, ro0), (hg0, ro1), (hg1, ro0), (hg1, ro1), (hg2, ro0)]
def badR : List (D × D) := [(hg0, ro2), (hg0, ro3), (hg0, ro4), (hg0, ro5), (hg1, ro2), (hg1, ro3), (hg1, ro4), (hg1, ro5), (hg2, ro1), (hg2, ro2), (hg2, ro3), (hg2, ro4), (hg2, ro5)]
def goodCA : List (D × D × D) := [(hg0, cr0, ar0), (hg0, cr0, ar1), (hg0, cr0, ar2), (hg0, cr2, ar0), (hg0, cr2, ar1), (hg0, cr2, ar2), (hg1, cr0, ar0), (hg1, cr0, ar2), (hg1, cr0, ar3), (hg1, cr2, ar0), (hg1, cr2, ar2), (hg1, cr2, ar3)]
def badCA : List (D × D × D) := [(hg0, cr0, ar3), (hg0, cr0, ar4), (hg0, cr0, ar5), (hg0, cr0, ar6), (hg0, cr0, ar7), (hg0, cr0, ar8), (hg0, cr0, ar9), (hg0, cr2, ar3), (hg0, cr2, ar4), (hg0, cr2, ar5), (hg0, cr2, ar6), (hg0, cr2, ar7), (hg0, cr2, ar8), (hg0, cr2, ar9), (hg1, cr0, ar1), (hg1, cr0, ar4), (hg1, cr0, ar5), (hg1, cr0, ar6), (hg1, cr0, ar7), (hg1, cr0, ar8), (hg1, cr0, ar9), (hg1, cr2, ar1), (hg1, cr2, ar4), (hg1, cr2, ar5), (hg1, cr2, ar6), (hg1, cr2, ar7), (hg1, cr2, ar8), (hg1, cr2, ar9), (hg2, cr1, ar0), (hg2, cr1, ar1), (hg2, cr1, ar2), (hg2, cr1, ar3), (hg2, cr1, ar4), (hg2, cr1, ar5), (hg2, cr1, ar6), (hg2, cr1, ar7), (hg2, cr1, ar8), (hg2, cr1, ar9)]
def goodAR : List (D × D × D) := [(hg0, ar0, ro0), (hg0, ar0, ro1), (hg0, ar1, ro0), (hg0, ar1, ro1), (hg0, ar2, ro0), (hg0, ar2, ro1), (hg1, ar0, ro0), (hg1, ar0, ro1), (hg1, ar2, ro0), (hg1, ar2, ro1), (hg1, ar3, ro0), (hg1, ar3, ro1)]
def badAR : List (D × D × D) := [(hg0, ar0, ro2), (hg0, ar0, ro3), (hg0, ar0, ro4), (hg0, ar0, ro5), (hg0, ar1, ro2), (hg0, ar1, ro3), (hg0, ar1, ro4), (hg0, ar1, ro5), (hg0, ar2, ro2), (hg0, ar2, ro3), (hg0, ar2, ro4), (hg0, ar2, ro5), (hg1, ar0, ro2), (hg1, ar0, ro3), (hg1, ar0, ro4), (hg1, ar0, ro5), (hg1, ar2, ro2), (hg1, ar2, ro3), (hg1, ar2, ro4), (hg1, ar2, ro5), (hg1, ar3, ro2), (hg1, ar3, ro3), (hg1, ar3, ro4), (hg1, ar3, ro5)]
def goodT : List D := [ti0, ti1, ti2]
def badT : List D := [ti3, ti4, ti5, ti6]
end LW
end

section
set_option linter.all false
set_option maxRecDepth 100000
set_option maxHeartbeats 0
set_option Elab.async false
namespace LW
open Mi
theorem bh62 : AllL bads fun p => runN PQ 25 62 [p] = .exc "BadHouse" p [p] := by
  refine ⟨?_, ?_, ?_, ?_, ?_, ?_, ?_, ?_, ?_, trivial⟩ <;> (kernel_rfl)
theorem bh63 : AllL bads fun p => runN PQ 25 63 [p] = .exc "BadHouse" p [p] := by
  refine ⟨?_, ?_, ?_, ?_, ?_, ?_, ?_, ?_, ?_, trivial⟩ <;> (kernel_rfl)
theorem bh64 : AllL bads fun p => ∀ a r : D, runN PQ 25 64 [p, a, r] = .exc "BadHouse" p [p, a, r] := by
  refine ⟨?_, ?_, ?_, ?_, ?_, ?_, ?_, ?_, ?_, trivial⟩ <;> (intro a r; kernel_rfl)
theorem bh65 : AllL bads fun p => ∀ a : D, runN PQ 25 65 [p, a] = .exc "BadHouse" p [p, a] := by
  refine ⟨?_, ?_, ?_, ?_, ?_, ?_, ?_, ?_, ?_, trivial⟩ <;> (intro a; kernel_rfl)
theorem bh66 : AllL bads fun p => ∀ a : D, runN PQ 25 66 [p, a] = .exc "BadHouse" p [p, a] := by
  refine ⟨?_, ?_, ?_, ?_, ?_, ?_, ?_, ?_, ?_, trivial⟩ <;> (intro a; kernel_rfl)
theorem bh67 : AllL bads fun p => ∀ c a t : D, runN PQ 25 67 [p, c, a, t] = .exc "BadHouse" p [p, c, a, t] := by
  refine ⟨?_, ?_, ?_, ?_, ?_, ?_, ?_, ?_, ?_, trivial⟩ <;> (intro c a t; kernel_rfl)
theorem bh68 : AllL bads fun p => ∀ c a : D, runN PQ 25 68 [p, c, a] = .exc "BadHouse" p [p, c, a] := by
  refine ⟨?_, ?_, ?_, ?_, ?_, ?_, ?_, ?_, ?_, trivial⟩ <;> (intro c a; kernel_rfl)
theorem bh69 : AllL bads fun p => ∀ c a : D, runN PQ 25 69 [p, c, a] = .exc "BadHouse" p [p, c, a] := by
  refine ⟨?_, ?_, ?_, ?_, ?_, ?_, ?_, ?_, ?_, trivial⟩ <;> (intro c a; kernel_rfl)
theorem bh70 : AllL bads fun p => ∀ c a : D, runN PQ 25 70 [p, c, a] = .exc "BadHouse" p [p, c, a] := by
  refine ⟨?_, ?_, ?_, ?_, ?_, ?_, ?_, ?_, ?_, trivial⟩ <;> (intro c a; kernel_rfl)
theorem bh71 : AllL bads fun p => ∀ c a : D, runN PQ 25 71 [p, c, a] = .exc "BadHouse" p [p, c, a] := by
  refine ⟨?_, ?_, ?_, ?_, ?_, ?_, ?_, ?_, ?_, trivial⟩ <;> (intro c a; kernel_rfl)
theorem bh72 : AllL bads fun p => ∀ c : D, runN PQ 25 72 [p, c] = .exc "BadHouse" p [p, c] := by
  refine ⟨?_, ?_, ?_, ?_, ?_, ?_, ?_, ?_, ?_, trivial⟩ <;> (intro c; kernel_rfl)
theorem bh73 : AllL bads fun p => ∀ c : D, runN PQ 25 73 [p, c] = .exc "BadHouse" p [p, c] := by
  refine ⟨?_, ?_, ?_, ?_, ?_, ?_, ?_, ?_, ?_, trivial⟩ <;> (intro c; kernel_rfl)
end LW
end

section
set_option linter.all false
set_option maxRecDepth 100000
set_option maxHeartbeats 0
set_option Elab.async false
namespace LW
open Mi
theorem bc67 : AllL badC fun p => ∀ a t : D, runN PQ 25 67 [p.1, p.2, a, t] = .exc "BadCrowd" p.2 [p.1, p.2, a, t] := by
  refine ⟨?_, ?_, ?_, ?_, ?_, ?_, ?_, ?_, ?_, ?_, ?_, ?_, ?_, ?_, ?_, ?_, ?_, ?_, ?_, ?_, ?_, ?_, trivial⟩ <;> (intro a t; kernel_rfl)
theorem bc68 : AllL badC fun p => ∀ a : D, runN PQ 25 68 [p.1, p.2, a] = .exc "BadCrowd" p.2 [p.1, p.2, a] := by
  refine ⟨?_, ?_, ?_, ?_, ?_, ?_, ?_, ?_, ?_, ?_, ?_, ?_, ?_, ?_, ?_, ?_, ?_, ?_, ?_, ?_, ?_, ?_, trivial⟩ <;> (intro a; kernel_rfl)
theorem bc69 : AllL badC fun p => ∀ a : D, runN PQ 25 69 [p.1, p.2, a] = .exc "BadCrowd" p.2 [p.1, p.2, a] := by
  refine ⟨?_, ?_, ?_, ?_, ?_, ?_, ?_, ?_, ?_, ?_, ?_, ?_, ?_, ?_, ?_, ?_, ?_, ?_, ?_, ?_, ?_, ?_, trivial⟩ <;> (intro a; kernel_rfl)
theorem bc70 : AllL badC fun p => ∀ a : D, runN PQ 25 70 [p.1, p.2, a] = .exc "BadCrowd" p.2 [p.1, p.2, a] := by
  refine ⟨?_, ?_, ?_, ?_, ?_, ?_, ?_, ?_, ?_, ?_, ?_, ?_, ?_, ?_, ?_, ?_, ?_, ?_, ?_, ?_, ?_, ?_, trivial⟩ <;> (intro a; kernel_rfl)
theorem bc71 : AllL badC fun p => ∀ a : D, runN PQ 25 71 [p.1, p.2, a] = .exc "BadCrowd" p.2 [p.1, p.2, a] := by
  refine ⟨?_, ?_, ?_, ?_, ?_, ?_, ?_, ?_, ?_, ?_, ?_, ?_, ?_, ?_, ?_, ?_, ?_, ?_, ?_, ?_, ?_, ?_, trivial⟩ <;> (intro a; kernel_rfl)
theorem bc72 : AllL badC fun p => runN PQ 25 72 [p.1, p.2] = .exc "BadCrowd" p.2 [p.1, p.2] := by
  refine ⟨?_, ?_, ?_, ?_, ?_, ?_, ?_, ?_, ?_, ?_, ?_, ?_, ?_, ?_, ?_, ?_, ?_, ?_, ?_, ?_, ?_, ?_, trivial⟩ <;> (kernel_rfl)
theorem bc73 : AllL badC fun p => runN PQ 25 73 [p.1, p.2] = .exc "BadCrowd" p.2 [p.1, p.2] := by
  refine ⟨?_, ?_, ?_, ?_, ?_, ?_, ?_, ?_, ?_, ?_, ?_, ?_, ?_, ?_, ?_, ?_, ?_, ?_, ?_, ?_, ?_, ?_, trivial⟩ <;> (kernel_rfl)
theorem ba64 : AllL badA fun p => ∀ r : D, runN PQ 25 64 [p.1, p.2, r] = .exc "BadArrows" p.2 [p.1, p.2, r] := by
  refine ⟨?_, ?_, ?_, ?_, ?_, ?_, ?_, ?_, ?_, ?_, ?_, ?_, ?_, ?_, ?_, ?_, ?_, ?_, ?_, ?_, ?_, ?_, ?_, ?_, trivial⟩ <;> (intro r; kernel_rfl)
theorem ba65 : AllL badA fun p => runN PQ 25 65 [p.1, p.2] = .exc "BadArrows" p.2 [p.1, p.2] := by
  refine ⟨?_, ?_, ?_, ?_, ?_, ?_, ?_, ?_, ?_, ?_, ?_, ?_, ?_, ?_, ?_, ?_, ?_, ?_, ?_, ?_, ?_, ?_, ?_, ?_, trivial⟩ <;> (kernel_rfl)
theorem ba66 : AllL badA fun p => runN PQ 25 66 [p.1, p.2] = .exc "BadArrows" p.2 [p.1, p.2] := by
  refine ⟨?_, ?_, ?_, ?_, ?_, ?_, ?_, ?_, ?_, ?_, ?_, ?_, ?_, ?_, ?_, ?_, ?_, ?_, ?_, ?_, ?_, ?_, ?_, ?_, trivial⟩ <;> (kernel_rfl)
end LW
end

section
set_option linter.all false
set_option maxRecDepth 100000
set_option maxHeartbeats 0
set_option Elab.async false
namespace LW
open Mi
theorem ba67 : AllL badCA fun p => ∀ t : D, runN PQ 25 67 [p.1, p.2.1, p.2.2, t] = .exc "BadArrows" p.2.2 [p.1, p.2.1, p.2.2, t] := by
  refine ⟨?_, ?_, ?_, ?_, ?_, ?_, ?_, ?_, ?_, ?_, ?_, ?_, ?_, ?_, ?_, ?_, ?_, ?_, ?_, ?_, ?_, ?_, ?_, ?_, ?_, ?_, ?_, ?_, ?_, ?_, ?_, ?_, ?_, ?_, ?_, ?_, ?_, ?_, trivial⟩ <;> (intro t; kernel_rfl)
theorem ba68 : AllL badCA fun p => runN PQ 25 68 [p.1, p.2.1, p.2.2] = .exc "BadArrows" p.2.2 [p.1, p.2.1, p.2.2] := by
  refine ⟨?_, ?_, ?_, ?_, ?_, ?_, ?_, ?_, ?_, ?_, ?_, ?_, ?_, ?_, ?_, ?_, ?_, ?_, ?_, ?_, ?_, ?_, ?_, ?_, ?_, ?_, ?_, ?_, ?_, ?_, ?_, ?_, ?_, ?_, ?_, ?_, ?_, ?_, trivial⟩ <;> (kernel_rfl)
theorem ba69 : AllL badCA fun p => runN PQ 25 69 [p.1, p.2.1, p.2.2] = .exc "BadArrows" p.2.2 [p.1, p.2.1, p.2.2] := by
  refine ⟨?_, ?_, ?_, ?_, ?_, ?_, ?_, ?_, ?_, ?_, ?_, ?_, ?_, ?_, ?_, ?_, ?_, ?_, ?_, ?_, ?_, ?_, ?_, ?_, ?_, ?_, ?_, ?_, ?_, ?_, ?_, ?_, ?_, ?_, ?_, ?_, ?_, ?_, trivial⟩ <;> (kernel_rfl)
theorem ba70 : AllL badCA fun p => runN PQ 25 70 [p.1, p.2.1, p.2.2] = .exc "BadArrows" p.2.2 [p.1, p.2.1, p.2.2] := by
  refine ⟨?_, ?_, ?_, ?_, ?_, ?_, ?_, ?_, ?_, ?_, ?_, ?_, ?_, ?_, ?_, ?_, ?_, ?_, ?_, ?_, ?_, ?_, ?_, ?_, ?_, ?_, ?_, ?_, ?_, ?_, ?_, ?_, ?_, ?_, ?_, ?_, ?_, ?_, trivial⟩ <;> (kernel_rfl)
theorem ba71 : AllL badCA fun p => runN PQ 25 71 [p.1, p.2.1, p.2.2] = .exc "BadArrows" p.2.2 [p.1, p.2.1, p.2.2] := by
  refine ⟨?_, ?_, ?_, ?_, ?_, ?_, ?_, ?_, ?_, ?_, ?_, ?_, ?_, ?_, ?_, ?_, ?_, ?_, ?_, ?_, ?_, ?_, ?_, ?_, ?_, ?_, ?_, ?_, ?_, ?_, ?_, ?_, ?_, ?_, ?_, ?_, ?_, ?_, trivial⟩ <;> (kernel_rfl)
theorem br64 : AllL badAR fun p => runN PQ 25 64 [p.1, p.2.1, p.2.2] = .exc "BadRoom" p.2.2 [p.1, p.2.1, p.2.2] := by
  refine ⟨?_, ?_, ?_, ?_, ?_, ?_, ?_, ?_, ?_, ?_, ?_, ?_, ?_, ?_, ?_, ?_, ?_, ?_, ?_, ?_, ?_, ?_, ?_, ?_, trivial⟩ <;> (kernel_rfl)
end LW
end

section
set_option linter.all false
set_option maxRecDepth 100000
set_option maxHeartbeats 0
set_option Elab.async false
namespace LW
open Mi
theorem bt_ti3 : AllL goodCA fun p => runN PQ 25 67 [p.1, p.2.1, p.2.2, ti3] = .exc "BadTicks" ti3 [p.1, p.2.1, p.2.2, ti3] := by
  refine ⟨?_, ?_, ?_, ?_, ?_, ?_, ?_, ?_, ?_, ?_, ?_, ?_, trivial⟩ <;> kernel_rfl
theorem bt_ti4 : AllL goodCA fun p => runN PQ 25 67 [p.1, p.2.1, p.2.2, ti4] = .exc "BadTicks" ti4 [p.1, p.2.1, p.2.2, ti4] := by
  refine ⟨?_, ?_, ?_, ?_, ?_, ?_, ?_, ?_, ?_, ?_, ?_, ?_, trivial⟩ <;> kernel_rfl
theorem bt_ti5 : AllL goodCA fun p => runN PQ 25 67 [p.1, p.2.1, p.2.2, ti5] = .exc "BadTicks" ti5 [p.1, p.2.1, p.2.2, ti5] := by
  refine ⟨?_, ?_, ?_, ?_, ?_, ?_, ?_, ?_, ?_, ?_, ?_, ?_, trivial⟩ <;> kernel_rfl
theorem bt_ti6 : AllL goodCA fun p => runN PQ 25 67 [p.1, p.2.1, p.2.2, ti6] = .exc "BadTicks" ti6 [p.1, p.2.1, p.2.2, ti6] := by
  refine ⟨?_, ?_, ?_, ?_, ?_, ?_, ?_, ?_, ?_, ?_, ?_, ?_, trivial⟩ <;> kernel_rfl
theorem okt_ti0 : AllL goodCA fun p => okB (runN PQ 25 67 [p.1, p.2.1, p.2.2, ti0]) = true := by
  refine ⟨?_, ?_, ?_, ?_, ?_, ?_, ?_, ?_, ?_, ?_, ?_, ?_, trivial⟩ <;> kernel_rfl
theorem okt_ti1 : AllL goodCA fun p => okB (runN PQ 25 67 [p.1, p.2.1, p.2.2, ti1]) = true := by
  refine ⟨?_, ?_, ?_, ?_, ?_, ?_, ?_, ?_, ?_, ?_, ?_, ?_, trivial⟩ <;> kernel_rfl
theorem okt_ti2 : AllL goodCA fun p => okB (runN PQ 25 67 [p.1, p.2.1, p.2.2, ti2]) = true := by
  refine ⟨?_, ?_, ?_, ?_, ?_, ?_, ?_, ?_, ?_, ?_, ?_, ?_, trivial⟩ <;> kernel_rfl
end LW
end

section
set_option linter.all false
set_option maxRecDepth 100000
set_option maxHeartbeats 0
set_option Elab.async false
namespace LW
open Mi
theorem ok62 : AllL goods fun p => okB (runN PQ 25 62 [p]) = true := by
  refine ⟨?_, ?_, ?_, trivial⟩ <;> (kernel_rfl)
theorem ok63 : AllL goods fun p => okB (runN PQ 25 63 [p]) = true := by
  refine ⟨?_, ?_, ?_, trivial⟩ <;> (kernel_rfl)
theorem ok64 : AllL goodAR fun p => okB (runN PQ 25 64 [p.1, p.2.1, p.2.2]) = true := by
  refine ⟨?_, ?_, ?_, ?_, ?_, ?_, ?_, ?_, ?_, ?_, ?_, ?_, trivial⟩ <;> (kernel_rfl)
theorem ok65 : AllL goodA fun p => okB (runN PQ 25 65 [p.1, p.2]) = true := by
  refine ⟨?_, ?_, ?_, ?_, ?_, ?_, trivial⟩ <;> (kernel_rfl)
theorem ok66 : AllL goodA fun p => okB (runN PQ 25 66 [p.1, p.2]) = true := by
  refine ⟨?_, ?_, ?_, ?_, ?_, ?_, trivial⟩ <;> (kernel_rfl)
theorem ok68 : AllL goodCA fun p => okB (runN PQ 25 68 [p.1, p.2.1, p.2.2]) = true := by
  refine ⟨?_, ?_, ?_, ?_, ?_, ?_, ?_, ?_, ?_, ?_, ?_, ?_, trivial⟩ <;> (kernel_rfl)
theorem ok69 : AllL goodCA fun p => okB (runN PQ 25 69 [p.1, p.2.1, p.2.2]) = true := by
  refine ⟨?_, ?_, ?_, ?_, ?_, ?_, ?_, ?_, ?_, ?_, ?_, ?_, trivial⟩ <;> (kernel_rfl)
theorem ok70 : AllL goodCA fun p => okB (runN PQ 25 70 [p.1, p.2.1, p.2.2]) = true := by
  refine ⟨?_, ?_, ?_, ?_, ?_, ?_, ?_, ?_, ?_, ?_, ?_, ?_, trivial⟩ <;> (kernel_rfl)
theorem ok71 : AllL goodCA fun p => okB (runN PQ 25 71 [p.1, p.2.1, p.2.2]) = true := by
  refine ⟨?_, ?_, ?_, ?_, ?_, ?_, ?_, ?_, ?_, ?_, ?_, ?_, trivial⟩ <;> (kernel_rfl)
end LW
end

section
set_option linter.all false
set_option maxRecDepth 100000
set_option maxHeartbeats 0
set_option Elab.async false
namespace LW
open Mi
theorem ok72 : AllL goodC fun p => okB (runN PQ 25 72 [p.1, p.2]) = true := by
  refine ⟨?_, ?_, ?_, ?_, ?_, trivial⟩ <;> (kernel_rfl)
theorem ok73 : AllL goodC fun p => okB (runN PQ 25 73 [p.1, p.2]) = true := by
  refine ⟨?_, ?_, ?_, ?_, ?_, trivial⟩ <;> (kernel_rfl)
end LW
end

section
set_option linter.all false
set_option maxRecDepth 100000
set_option maxHeartbeats 0
set_option Elab.async false
namespace LW
open Mi
/-- what is to be known of a drawn value -/
def valB (d : D) : Bool := d.plain && !d.own && d.isPd && d.pd.canLay0 && decide (d.pd.depth ≤ 60)
def txB (kind : String) (d : D) : Bool := match reprD (.tup [.str kind, d]) with
  | some (.str s) => PySem.PyData.strOk s
  | _ => false
def vals : List D := goods ++ bads ++ crowds ++ arrowss ++ tickss ++ rooms
theorem vals_ok : AllL vals fun p => valB p = true := by
  refine ⟨?_, ?_, ?_, ?_, ?_, ?_, ?_, ?_, ?_, ?_, ?_, ?_, ?_, ?_, ?_, ?_, ?_, ?_, ?_, ?_, ?_, ?_, ?_, ?_, ?_, ?_, ?_, ?_, ?_, ?_, ?_, ?_, ?_, ?_, ?_, ?_, ?_, ?_, ?_, ?_, ?_, ?_, ?_, ?_, trivial⟩ <;> kernel_rfl
theorem tx_house : AllL bads fun p => txB "house" p = true := by
  refine ⟨?_, ?_, ?_, ?_, ?_, ?_, ?_, ?_, ?_, trivial⟩ <;> kernel_rfl
theorem tx_crowd : AllL crowds fun p => txB "crowd" p = true := by
  refine ⟨?_, ?_, ?_, ?_, ?_, ?_, ?_, ?_, ?_, trivial⟩ <;> kernel_rfl
theorem tx_arrows : AllL arrowss fun p => txB "arrows" p = true := by
  refine ⟨?_, ?_, ?_, ?_, ?_, ?_, ?_, ?_, ?_, ?_, trivial⟩ <;> kernel_rfl
theorem tx_ticks : AllL tickss fun p => txB "ticks" p = true := by
  refine ⟨?_, ?_, ?_, ?_, ?_, ?_, ?_, trivial⟩ <;> kernel_rfl
theorem tx_room : AllL rooms fun p => txB "room" p = true := by
  refine ⟨?_, ?_, ?_, ?_, ?_, ?_, trivial⟩ <;> kernel_rfl
def goodCI : List (Nat × Nat) := [(0, 0), (0, 2), (1, 0), (1, 2), (2, 1)]
def badCI : List (Nat × Nat) := [(0, 1), (0, 3), (0, 4), (0, 5), (0, 6), (0, 7), (0, 8), (1, 1), (1, 3), (1, 4), (1, 5), (1, 6), (1, 7), (1, 8), (2, 0), (2, 2), (2, 3), (2, 4), (2, 5), (2, 6), (2, 7), (2, 8)]
def goodAI : List (Nat × Nat) := [(0, 0), (0, 1), (0, 2), (1, 0), (1, 2), (1, 3)]
def badAI : List (Nat × Nat) := [(0, 3), (0, 4), (0, 5), (0, 6), (0, 7), (0, 8), (0, 9), (1, 1), (1, 4), (1, 5), (1, 6), (1, 7), (1, 8), (1, 9), (2, 0), (2, 1), (2, 2), (2, 3), (2, 4), (2, 5), (2, 6), (2, 7), (2, 8), (2, 9)]
def goodRI : List (Nat × Nat) := [(0, 0), (0, 1), (1, 0), (1, 1), (2, 0)]
def badRI : List (Nat × Nat) := [(0, 2), (0, 3), (0, 4), (0, 5), (1, 2), (1, 3), (1, 4), (1, 5), (2, 1), (2, 2), (2, 3), (2, 4), (2, 5)]
def goodCAI : List (Nat × Nat × Nat) := [(0, 0, 0), (0, 0, 1), (0, 0, 2), (0, 2, 0), (0, 2, 1), (0, 2, 2), (1, 0, 0), (1, 0, 2), (1, 0, 3), (1, 2, 0), (1, 2, 2), (1, 2, 3)]
def badCAI : List (Nat × Nat × Nat) := [(0, 0, 3), (0, 0, 4), (0, 0, 5), (0, 0, 6), (0, 0, 7), (0, 0, 8), (0, 0, 9), (0, 2, 3), (0, 2, 4), (0, 2, 5), (0, 2, 6), (0, 2, 7), (0, 2, 8), (0, 2, 9), (1, 0, 1), (1, 0, 4), (1, 0, 5), (1, 0, 6), (1, 0, 7), (1, 0, 8), (1, 0, 9), (1, 2, 1), (1, 2, 4), (1, 2, 5), (1, 2, 6), (1, 2, 7), (1, 2, 8), (1, 2, 9), (2, 1, 0), (2, 1, 1), (2, 1, 2), (2, 1, 3), (2, 1, 4), (2, 1, 5), (2, 1, 6), (2, 1, 7), (2, 1, 8), (2, 1, 9)]
def goodARI : List (Nat × Nat × Nat) := [(0, 0, 0), (0, 0, 1), (0, 1, 0), (0, 1, 1), (0, 2, 0), (0, 2, 1), (1, 0, 0), (1, 0, 1), (1, 2, 0), (1, 2, 1), (1, 3, 0), (1, 3, 1)]
def badARI : List (Nat × Nat × Nat) := [(0, 0, 2), (0, 0, 3), (0, 0, 4), (0, 0, 5), (0, 1, 2), (0, 1, 3), (0, 1, 4), (0, 1, 5), (0, 2, 2), (0, 2, 3), (0, 2, 4), (0, 2, 5), (1, 0, 2), (1, 0, 3), (1, 0, 4), (1, 0, 5), (1, 2, 2), (1, 2, 3), (1, 2, 4), (1, 2, 5), (1, 3, 2), (1, 3, 3), (1, 3, 4), (1, 3, 5)]
def goodTI : List Nat := [0, 1, 2]
def badTI : List Nat := [3, 4, 5, 6]
def gI (i : Nat) : D := goods.getD i .non
def bI (i : Nat) : D := bads.getD i .non
def cI (i : Nat) : D := crowds.getD i .non
def aI (i : Nat) : D := arrowss.getD i .non
def tI (i : Nat) : D := tickss.getD i .non
def rI (i : Nat) : D := rooms.getD i .non
theorem goodC_eq : goodC = goodCI.map fun p => (gI p.1, cI p.2) := by kernel_rfl
theorem badC_eq : badC = badCI.map fun p => (gI p.1, cI p.2) := by kernel_rfl
theorem goodA_eq : goodA = goodAI.map fun p => (gI p.1, aI p.2) := by kernel_rfl
theorem goodR_eq : goodR = goodRI.map fun p => (gI p.1, rI p.2) := by kernel_rfl
theorem badR_eq : badR = badRI.map fun p => (gI p.1, rI p.2) := by kernel_rfl
theorem badA_eq : badA = badAI.map fun p => (gI p.1, aI p.2) := by kernel_rfl
theorem goodCA_eq : goodCA = goodCAI.map fun p => (gI p.1, cI p.2.1, aI p.2.2) := by kernel_rfl
theorem badCA_eq : badCA = badCAI.map fun p => (gI p.1, cI p.2.1, aI p.2.2) := by kernel_rfl
theorem goodAR_eq : goodAR = goodARI.map fun p => (gI p.1, aI p.2.1, rI p.2.2) := by kernel_rfl
theorem badAR_eq : badAR = badARI.map fun p => (gI p.1, aI p.2.1, rI p.2.2) := by kernel_rfl
theorem goodT_eq : goodT = goodTI.map tI := by kernel_rfl
theorem badT_eq : badT = badTI.map tI := by kernel_rfl
def okC (i j : Nat) : Bool := goodCI.contains (i, j)
def okA (i j : Nat) : Bool := goodAI.contains (i, j)
def okR (i j : Nat) : Bool := goodRI.contains (i, j)
def okT (i : Nat) : Bool := goodTI.contains i
theorem ixC : ∀ i < 3, ∀ j < 9, if okC i j then (i, j) ∈ goodCI else (i, j) ∈ badCI := by decide +kernel
theorem ixA : ∀ i < 3, ∀ j < 10, if okA i j then (i, j) ∈ goodAI else (i, j) ∈ badAI := by decide +kernel
theorem ixR : ∀ i < 3, ∀ j < 6, if okR i j then (i, j) ∈ goodRI else (i, j) ∈ badRI := by decide +kernel
theorem ixCA : ∀ i < 3, ∀ j < 9, ∀ k < 10, (!okC i j || (if okA i k then goodCAI.contains (i, j, k) else badCAI.contains (i, j, k))) = true := by decide +kernel
theorem ixAR : ∀ i < 3, ∀ j < 10, ∀ k < 6, (!okA i j || (if okR i k then goodARI.contains (i, j, k) else badARI.contains (i, j, k))) = true := by decide +kernel
theorem ixT : ∀ i < 7, if okT i then i ∈ goodTI else i ∈ badTI := by decide +kernel
/-- a draw: the house and whether it is one, what is drawn else, and which of it is right -/
structure Dr (h c a t r : D) (b bc ba br bt : Bool) : Prop where
  h_bad : b = false → h ∈ bads ∧ bc = false ∧ ba = false ∧ br = false
  h_good : b = true → h ∈ goods
  c_bad : b = true → bc = false → (h, c) ∈ badC
  c_good : b = true → bc = true → (h, c) ∈ goodC
  a_bad : b = true → ba = false → (h, a) ∈ badA
  a_good : b = true → ba = true → (h, a) ∈ goodA
  ca_bad : b = true → bc = true → ba = false → (h, c, a) ∈ badCA
  ca_good : b = true → bc = true → ba = true → (h, c, a) ∈ goodCA
  ar_bad : b = true → ba = true → br = false → (h, a, r) ∈ badAR
  ar_good : b = true → ba = true → br = true → (h, a, r) ∈ goodAR
  r_bad : b = true → br = false → (h, r) ∈ badR
  r_good : b = true → br = true → (h, r) ∈ goodR
  t_bad : bt = false → t ∈ badT
  t_good : bt = true → t ∈ goodT
  c_in : c ∈ crowds
  a_in : a ∈ arrowss
  t_in : t ∈ tickss
  r_in : r ∈ rooms
theorem getD_mem (l : List D) (i : Nat) (h : i < l.length) : l.getD i .non ∈ l := by
  rw [List.getD_eq_getElem?_getD, List.getElem?_eq_getElem h]
  exact List.getElem_mem h
theorem Dr.bad (i j k m n : Nat) (hi : i < 9) (hj : j < 9) (hk : k < 10) (hm : m < 7) (hn : n < 6) : Dr (bI i) (cI j) (aI k) (tI m) (rI n) false false false false (okT m) :=
  { h_bad := fun _ => ⟨getD_mem bads i hi, rfl, rfl, rfl⟩
    h_good := nofun, c_bad := nofun, c_good := nofun, a_bad := nofun, a_good := nofun, ca_bad := nofun, ca_good := nofun, ar_bad := nofun, ar_good := nofun, r_bad := nofun, r_good := nofun
    t_bad := fun e => by rw [badT_eq]; have := ixT m hm; rw [e] at this; exact List.mem_map_of_mem this
    t_good := fun e => by rw [goodT_eq]; have := ixT m hm; rw [e] at this; exact List.mem_map_of_mem this
    c_in := getD_mem crowds j hj, a_in := getD_mem arrowss k hk, t_in := getD_mem tickss m hm, r_in := getD_mem rooms n hn }
theorem Dr.good (i j k m n : Nat) (hi : i < 3) (hj : j < 9) (hk : k < 10) (hm : m < 7) (hn : n < 6) : Dr (gI i) (cI j) (aI k) (tI m) (rI n) true (okC i j) (okA i k) (okR i n) (okT m) :=
  { h_bad := nofun
    h_good := fun _ => getD_mem goods i hi
    c_bad := fun _ e => by rw [badC_eq]; have := ixC i hi j hj; rw [e] at this; exact List.mem_map.2 ⟨_, this, rfl⟩
    c_good := fun _ e => by rw [goodC_eq]; have := ixC i hi j hj; rw [e] at this; exact List.mem_map.2 ⟨_, this, rfl⟩
    a_bad := fun _ e => by rw [badA_eq]; have := ixA i hi k hk; rw [e] at this; exact List.mem_map.2 ⟨_, this, rfl⟩
    a_good := fun _ e => by rw [goodA_eq]; have := ixA i hi k hk; rw [e] at this; exact List.mem_map.2 ⟨_, this, rfl⟩
    ca_bad := fun _ e1 e => by rw [badCA_eq]; have := ixCA i hi j hj k hk; rw [e1, e] at this; exact List.mem_map.2 ⟨_, by simpa using this, rfl⟩
    ca_good := fun _ e1 e => by rw [goodCA_eq]; have := ixCA i hi j hj k hk; rw [e1, e] at this; exact List.mem_map.2 ⟨_, by simpa using this, rfl⟩
    r_bad := fun _ e => by rw [badR_eq]; have := ixR i hi n hn; rw [e] at this; exact List.mem_map.2 ⟨_, this, rfl⟩
    r_good := fun _ e => by rw [goodR_eq]; have := ixR i hi n hn; rw [e] at this; exact List.mem_map.2 ⟨_, this, rfl⟩
    ar_bad := fun _ e1 e => by rw [badAR_eq]; have := ixAR i hi k hk n hn; rw [e1, e] at this; exact List.mem_map.2 ⟨_, by simpa using this, rfl⟩
    ar_good := fun _ e1 e => by rw [goodAR_eq]; have := ixAR i hi k hk n hn; rw [e1, e] at this; exact List.mem_map.2 ⟨_, by simpa using this, rfl⟩
    t_bad := fun e => by rw [badT_eq]; have := ixT m hm; rw [e] at this; exact List.mem_map_of_mem this
    t_good := fun e => by rw [goodT_eq]; have := ixT m hm; rw [e] at this; exact List.mem_map_of_mem this
    c_in := getD_mem crowds j hj, a_in := getD_mem arrowss k hk, t_in := getD_mem tickss m hm, r_in := getD_mem rooms n hn }
theorem val_of {d : D} (h : d ∈ vals) : valB d = true := AllL.mem vals_ok d h
theorem Dr.hv {h c a t r : D} {b bc ba br bt : Bool} (x : Dr h c a t r b bc ba br bt) : valB h = true := by
  cases b
  · exact val_of (by simp [vals, (x.h_bad rfl).1])
  · exact val_of (by simp [vals, x.h_good rfl])
theorem Dr.cv {h c a t r : D} {b bc ba br bt : Bool} (x : Dr h c a t r b bc ba br bt) : valB c = true := val_of (by simp [vals, x.c_in])
theorem Dr.av {h c a t r : D} {b bc ba br bt : Bool} (x : Dr h c a t r b bc ba br bt) : valB a = true := val_of (by simp [vals, x.a_in])
theorem Dr.tv {h c a t r : D} {b bc ba br bt : Bool} (x : Dr h c a t r b bc ba br bt) : valB t = true := val_of (by simp [vals, x.t_in])
theorem Dr.rv {h c a t r : D} {b bc ba br bt : Bool} (x : Dr h c a t r b bc ba br bt) : valB r = true := val_of (by simp [vals, x.r_in])
theorem valB_iff {d : D} (h : valB d = true) : d.plain = true ∧ d.own = false ∧ d.isPd = true ∧ d.pd.canLay0 = true ∧ d.pd.depth ≤ 60 := by
  simp only [valB, Bool.and_eq_true, Bool.not_eq_true', decide_eq_true_eq] at h
  exact ⟨h.1.1.1.1, h.1.1.1.2, h.1.1.2, h.1.2, h.2⟩
theorem plain_vs : ∀ cs : List D, (cs.all valB) = true → plainL cs = true ∧ ownL cs = false
  | [], _ => ⟨rfl, rfl⟩
  | d :: r, h => by
    simp only [List.all_cons, Bool.and_eq_true] at h
    have := valB_iff h.1
    have ih := plain_vs r h.2
    exact ⟨by simp [plainL, this.1, ih.1], by simp [ownL, this.2.1, ih.2]⟩
def dueB (x : Due) : Bool := valB x.2.1 && PySem.PyData.strOk (PySem.Str.ofString x.1)
theorem wr_sh : ∀ xs : List Due, (xs.all dueB) = true → PySem.PyData.canLayAll0 (pdL (wrongs xs)) = true ∧ PySem.PyData.depthAll (pdL (wrongs xs)) ≤ 61
  | [], _ => ⟨rfl, by simp [wrongs, pdL, PySem.PyData.depthAll]⟩
  | x :: r, h => by
    simp only [List.all_cons, Bool.and_eq_true] at h
    have hx := h.1
    simp only [dueB, Bool.and_eq_true] at hx
    have hv := valB_iff hx.1
    have ih := wr_sh r h.2
    unfold wrongs at ih ⊢
    cases hb : x.2.2
    · simp only [List.filter_cons, hb, Bool.not_false, if_true, List.map_cons, pdL, PySem.PyData.canLayAll0, PySem.PyData.depthAll, D.pd, PySem.PyData.canLay0, PySem.PyData.depth, hx.2, hv.2.2.2.1, ih.1, Bool.and_self, true_and]
      have := hv.2.2.2.2; have := ih.2
      omega
    · simpa only [List.filter_cons, hb, Bool.not_true, Bool.false_eq_true, if_false] using ih
theorem mkDues (xs : List Due) (h : (xs.all dueB) = true) (hl : xs.length ≤ 100) : Dues xs := by
  refine ⟨fun x hx => ?_, Nat.le_trans hl (by unfold SZ; decide), ?_⟩
  · have := List.all_eq_true.1 h x hx
    simp only [dueB, Bool.and_eq_true] at this
    have hv := valB_iff this.1
    refine ⟨hv.2.1, hv.2.2.1, ?_⟩
    unfold PySem.SeqAt.shaped
    simp only [hv.2.2.2.1, Bool.true_and, decide_eq_true_eq]; have := hv.2.2.2.2; omega
  · have := wr_sh xs h
    unfold PySem.SeqAt.shaped
    rw [Bool.and_eq_true, decide_eq_true_eq]
    refine ⟨by rw [PySem.PyData.canLay0]; exact this.1, ?_⟩
    rw [PySem.PyData.depth]; have := this.2; omega
theorem due_e (fc : Nat) (cs : List D) (cl kind : String) (d : D) (xs : List Due) (r : List D) (h : runN PQ 25 fc cs = .exc cl d cs) (hv : (cs.all valB) = true) (hd : valB d = true) (hc : exs.contains cl = true)
    (hwd : runN PQ 26 57 [.exc cl d] = .ok (.str kind) [.exc cl d]) (ht : txB kind d = true) (hx : (xs.all dueB) = true) (hl : xs.length ≤ 100) (hw : wrongs xs = .tup [.str kind, d] :: r) :
    runN PQ 27 58 [.clo fc (.non :: cs), .lst false (xs.map due)] = .ok (.bl true) [.clo fc (.non :: cs), .lst false (xs.map due)] := by
  have hp := plain_vs cs hv
  have hdv := valB_iff hd
  have : ∃ s, reprD (.tup [.str kind, d]) = some (.str s) ∧ PySem.PyData.strOk s = true := by
    unfold txB at ht
    split at ht
    · next s e => exact ⟨s, e, ht⟩
    · cases ht
  obtain ⟨s, hs, hso⟩ := this
  exact due_wrong 25 fc cs cs cl kind s d xs r h hp.1 hp.2 hdv.1 hdv.2.1 hc hwd hs hso (mkDues xs hx hl) hw
theorem due_o (fc : Nat) (cs : List D) (xs : List Due) (h : okB (runN PQ 25 fc cs) = true) (hv : (cs.all valB) = true) (hx : (xs.all dueB) = true) (hl : xs.length ≤ 100) (hw : wrongs xs = []) :
    runN PQ 27 58 [.clo fc (.non :: cs), .lst false (xs.map due)] = .ok (.bl true) [.clo fc (.non :: cs), .lst false (xs.map due)] := by
  have hp := plain_vs cs hv
  cases e : runN PQ 25 fc cs with
  | ok d as =>
    rw [e] at h
    simp only [okB, Bool.and_eq_true, Bool.not_eq_true'] at h
    exact due_right 25 fc cs as d xs e hp.1 hp.2 h.1 h.2 (mkDues xs hx hl) hw
  | exc c d as => rw [e] at h; cases h
  | stk => rw [e] at h; cases h
theorem k_house : PySem.PyData.strOk (PySem.Str.ofString "house") = true := by kernel_rfl
theorem k_crowd : PySem.PyData.strOk (PySem.Str.ofString "crowd") = true := by kernel_rfl
theorem k_arrows : PySem.PyData.strOk (PySem.Str.ofString "arrows") = true := by kernel_rfl
theorem k_ticks : PySem.PyData.strOk (PySem.Str.ofString "ticks") = true := by kernel_rfl
theorem k_room : PySem.PyData.strOk (PySem.Str.ofString "room") = true := by kernel_rfl
end LW
end

section
set_option linter.all false
set_option maxRecDepth 100000
set_option maxHeartbeats 0
set_option Elab.async false
namespace LW
open Mi
theorem tx_h {v : D} (h : v ∈ bads) : txB "house" v = true := AllL.mem tx_house v h
theorem tx_c {v : D} (h : v ∈ crowds) : txB "crowd" v = true := AllL.mem tx_crowd v h
theorem tx_a {v : D} (h : v ∈ arrowss) : txB "arrows" v = true := AllL.mem tx_arrows v h
theorem tx_t {v : D} (h : v ∈ tickss) : txB "ticks" v = true := AllL.mem tx_ticks v h
theorem tx_r {v : D} (h : v ∈ rooms) : txB "room" v = true := AllL.mem tx_room v h
theorem du62 {h c a t r : D} {b bc ba br bt : Bool} (x : Dr h c a t r b bc ba br bt) : runN PQ 27 58 [.clo 62 [.non, h], .lst false (List.map due [("house", h, b)])] = .ok (.bl true) [.clo 62 [.non, h], .lst false (List.map due [("house", h, b)])] := by
  cases b
  · obtain ⟨m, rfl, rfl, rfl⟩ := x.h_bad rfl
    exact due_e 62 [h] "BadHouse" "house" h _ _ (AllL.mem bh62 h m) (by simp [x.hv, x.cv, x.av, x.tv, x.rv, List.all_cons, List.all_nil]) x.hv rfl (word_house 25 _) (tx_h (x.h_bad rfl).1) (by simp [dueB, x.hv, x.cv, x.av, x.tv, x.rv, k_house, k_crowd, k_arrows, k_ticks, k_room, List.all_cons, List.all_nil]) (by simp) rfl
  · skip
    exact due_o 62 [h] _ (AllL.mem ok62 h (x.h_good rfl)) (by simp [x.hv, x.cv, x.av, x.tv, x.rv, List.all_cons, List.all_nil]) (by simp [dueB, x.hv, x.cv, x.av, x.tv, x.rv, k_house, k_crowd, k_arrows, k_ticks, k_room, List.all_cons, List.all_nil]) (by simp) rfl
theorem du63 {h c a t r : D} {b bc ba br bt : Bool} (x : Dr h c a t r b bc ba br bt) : runN PQ 27 58 [.clo 63 [.non, h], .lst false (List.map due [("house", h, b)])] = .ok (.bl true) [.clo 63 [.non, h], .lst false (List.map due [("house", h, b)])] := by
  cases b
  · obtain ⟨m, rfl, rfl, rfl⟩ := x.h_bad rfl
    exact due_e 63 [h] "BadHouse" "house" h _ _ (AllL.mem bh63 h m) (by simp [x.hv, x.cv, x.av, x.tv, x.rv, List.all_cons, List.all_nil]) x.hv rfl (word_house 25 _) (tx_h (x.h_bad rfl).1) (by simp [dueB, x.hv, x.cv, x.av, x.tv, x.rv, k_house, k_crowd, k_arrows, k_ticks, k_room, List.all_cons, List.all_nil]) (by simp) rfl
  · skip
    exact due_o 63 [h] _ (AllL.mem ok63 h (x.h_good rfl)) (by simp [x.hv, x.cv, x.av, x.tv, x.rv, List.all_cons, List.all_nil]) (by simp [dueB, x.hv, x.cv, x.av, x.tv, x.rv, k_house, k_crowd, k_arrows, k_ticks, k_room, List.all_cons, List.all_nil]) (by simp) rfl
theorem du64 {h c a t r : D} {b bc ba br bt : Bool} (x : Dr h c a t r b bc ba br bt) : runN PQ 27 58 [.clo 64 [.non, h, a, r], .lst false (List.map due [("house", h, b), ("arrows", a, ba), ("room", r, br)])] = .ok (.bl true) [.clo 64 [.non, h, a, r], .lst false (List.map due [("house", h, b), ("arrows", a, ba), ("room", r, br)])] := by
  cases b
  · obtain ⟨m, rfl, rfl, rfl⟩ := x.h_bad rfl
    exact due_e 64 [h, a, r] "BadHouse" "house" h _ _ (AllL.mem bh64 h m a r) (by simp [x.hv, x.cv, x.av, x.tv, x.rv, List.all_cons, List.all_nil]) x.hv rfl (word_house 25 _) (tx_h (x.h_bad rfl).1) (by simp [dueB, x.hv, x.cv, x.av, x.tv, x.rv, k_house, k_crowd, k_arrows, k_ticks, k_room, List.all_cons, List.all_nil]) (by simp) rfl
  · skip
    cases ba
    · cases br <;> exact due_e 64 [h, a, r] "BadArrows" "arrows" a _ _ (AllL.mem ba64 (h, a) (x.a_bad rfl rfl) r) (by simp [x.hv, x.cv, x.av, x.tv, x.rv, List.all_cons, List.all_nil]) x.av rfl (word_arrows 25 _) (tx_a x.a_in) (by simp [dueB, x.hv, x.cv, x.av, x.tv, x.rv, k_house, k_crowd, k_arrows, k_ticks, k_room, List.all_cons, List.all_nil]) (by simp) rfl
    · skip
      cases br
      · exact due_e 64 [h, a, r] "BadRoom" "room" r _ _ (AllL.mem br64 (h, a, r) (x.ar_bad rfl rfl rfl)) (by simp [x.hv, x.cv, x.av, x.tv, x.rv, List.all_cons, List.all_nil]) x.rv rfl (word_room 25 _) (tx_r x.r_in) (by simp [dueB, x.hv, x.cv, x.av, x.tv, x.rv, k_house, k_crowd, k_arrows, k_ticks, k_room, List.all_cons, List.all_nil]) (by simp) rfl
      · skip
        exact due_o 64 [h, a, r] _ (AllL.mem ok64 (h, a, r) (x.ar_good rfl rfl rfl)) (by simp [x.hv, x.cv, x.av, x.tv, x.rv, List.all_cons, List.all_nil]) (by simp [dueB, x.hv, x.cv, x.av, x.tv, x.rv, k_house, k_crowd, k_arrows, k_ticks, k_room, List.all_cons, List.all_nil]) (by simp) rfl
theorem du65 {h c a t r : D} {b bc ba br bt : Bool} (x : Dr h c a t r b bc ba br bt) : runN PQ 27 58 [.clo 65 [.non, h, a], .lst false (List.map due [("house", h, b), ("arrows", a, ba)])] = .ok (.bl true) [.clo 65 [.non, h, a], .lst false (List.map due [("house", h, b), ("arrows", a, ba)])] := by
  cases b
  · obtain ⟨m, rfl, rfl, rfl⟩ := x.h_bad rfl
    exact due_e 65 [h, a] "BadHouse" "house" h _ _ (AllL.mem bh65 h m a) (by simp [x.hv, x.cv, x.av, x.tv, x.rv, List.all_cons, List.all_nil]) x.hv rfl (word_house 25 _) (tx_h (x.h_bad rfl).1) (by simp [dueB, x.hv, x.cv, x.av, x.tv, x.rv, k_house, k_crowd, k_arrows, k_ticks, k_room, List.all_cons, List.all_nil]) (by simp) rfl
  · skip
    cases ba
    · exact due_e 65 [h, a] "BadArrows" "arrows" a _ _ (AllL.mem ba65 (h, a) (x.a_bad rfl rfl)) (by simp [x.hv, x.cv, x.av, x.tv, x.rv, List.all_cons, List.all_nil]) x.av rfl (word_arrows 25 _) (tx_a x.a_in) (by simp [dueB, x.hv, x.cv, x.av, x.tv, x.rv, k_house, k_crowd, k_arrows, k_ticks, k_room, List.all_cons, List.all_nil]) (by simp) rfl
    · skip
      exact due_o 65 [h, a] _ (AllL.mem ok65 (h, a) (x.a_good rfl rfl)) (by simp [x.hv, x.cv, x.av, x.tv, x.rv, List.all_cons, List.all_nil]) (by simp [dueB, x.hv, x.cv, x.av, x.tv, x.rv, k_house, k_crowd, k_arrows, k_ticks, k_room, List.all_cons, List.all_nil]) (by simp) rfl
theorem du66 {h c a t r : D} {b bc ba br bt : Bool} (x : Dr h c a t r b bc ba br bt) : runN PQ 27 58 [.clo 66 [.non, h, a], .lst false (List.map due [("house", h, b), ("arrows", a, ba)])] = .ok (.bl true) [.clo 66 [.non, h, a], .lst false (List.map due [("house", h, b), ("arrows", a, ba)])] := by
  cases b
  · obtain ⟨m, rfl, rfl, rfl⟩ := x.h_bad rfl
    exact due_e 66 [h, a] "BadHouse" "house" h _ _ (AllL.mem bh66 h m a) (by simp [x.hv, x.cv, x.av, x.tv, x.rv, List.all_cons, List.all_nil]) x.hv rfl (word_house 25 _) (tx_h (x.h_bad rfl).1) (by simp [dueB, x.hv, x.cv, x.av, x.tv, x.rv, k_house, k_crowd, k_arrows, k_ticks, k_room, List.all_cons, List.all_nil]) (by simp) rfl
  · skip
    cases ba
    · exact due_e 66 [h, a] "BadArrows" "arrows" a _ _ (AllL.mem ba66 (h, a) (x.a_bad rfl rfl)) (by simp [x.hv, x.cv, x.av, x.tv, x.rv, List.all_cons, List.all_nil]) x.av rfl (word_arrows 25 _) (tx_a x.a_in) (by simp [dueB, x.hv, x.cv, x.av, x.tv, x.rv, k_house, k_crowd, k_arrows, k_ticks, k_room, List.all_cons, List.all_nil]) (by simp) rfl
    · skip
      exact due_o 66 [h, a] _ (AllL.mem ok66 (h, a) (x.a_good rfl rfl)) (by simp [x.hv, x.cv, x.av, x.tv, x.rv, List.all_cons, List.all_nil]) (by simp [dueB, x.hv, x.cv, x.av, x.tv, x.rv, k_house, k_crowd, k_arrows, k_ticks, k_room, List.all_cons, List.all_nil]) (by simp) rfl
theorem du67 {h c a t r : D} {b bc ba br bt : Bool} (x : Dr h c a t r b bc ba br bt) : runN PQ 27 58 [.clo 67 [.non, h, c, a, t], .lst false (List.map due [("house", h, b), ("crowd", c, bc), ("arrows", a, ba), ("ticks", t, bt)])] = .ok (.bl true) [.clo 67 [.non, h, c, a, t], .lst false (List.map due [("house", h, b), ("crowd", c, bc), ("arrows", a, ba), ("ticks", t, bt)])] := by
  cases b
  · obtain ⟨m, rfl, rfl, rfl⟩ := x.h_bad rfl
    cases bt <;> exact due_e 67 [h, c, a, t] "BadHouse" "house" h _ _ (AllL.mem bh67 h m c a t) (by simp [x.hv, x.cv, x.av, x.tv, x.rv, List.all_cons, List.all_nil]) x.hv rfl (word_house 25 _) (tx_h (x.h_bad rfl).1) (by simp [dueB, x.hv, x.cv, x.av, x.tv, x.rv, k_house, k_crowd, k_arrows, k_ticks, k_room, List.all_cons, List.all_nil]) (by simp) rfl
  · skip
    cases bc
    · cases ba <;> cases bt <;> exact due_e 67 [h, c, a, t] "BadCrowd" "crowd" c _ _ (AllL.mem bc67 (h, c) (x.c_bad rfl rfl) a t) (by simp [x.hv, x.cv, x.av, x.tv, x.rv, List.all_cons, List.all_nil]) x.cv rfl (word_crowd 25 _) (tx_c x.c_in) (by simp [dueB, x.hv, x.cv, x.av, x.tv, x.rv, k_house, k_crowd, k_arrows, k_ticks, k_room, List.all_cons, List.all_nil]) (by simp) rfl
    · skip
      cases ba
      · cases bt <;> exact due_e 67 [h, c, a, t] "BadArrows" "arrows" a _ _ (AllL.mem ba67 (h, c, a) (x.ca_bad rfl rfl rfl) t) (by simp [x.hv, x.cv, x.av, x.tv, x.rv, List.all_cons, List.all_nil]) x.av rfl (word_arrows 25 _) (tx_a x.a_in) (by simp [dueB, x.hv, x.cv, x.av, x.tv, x.rv, k_house, k_crowd, k_arrows, k_ticks, k_room, List.all_cons, List.all_nil]) (by simp) rfl
      · skip
        cases bt
        · have q := x.t_bad rfl
          simp only [badT, List.mem_cons, List.not_mem_nil, or_false] at q
          rcases q with rfl | rfl | rfl | rfl
          · exact due_e 67 [h, c, a, ti3] "BadTicks" "ticks" ti3 _ _ (AllL.mem bt_ti3 (h, c, a) (x.ca_good rfl rfl rfl)) (by simp [x.hv, x.cv, x.av, x.tv, x.rv, List.all_cons, List.all_nil]) x.tv rfl (word_ticks 25 _) (tx_t x.t_in) (by simp [dueB, x.hv, x.cv, x.av, x.tv, x.rv, k_house, k_crowd, k_arrows, k_ticks, k_room, List.all_cons, List.all_nil]) (by simp) rfl
          · exact due_e 67 [h, c, a, ti4] "BadTicks" "ticks" ti4 _ _ (AllL.mem bt_ti4 (h, c, a) (x.ca_good rfl rfl rfl)) (by simp [x.hv, x.cv, x.av, x.tv, x.rv, List.all_cons, List.all_nil]) x.tv rfl (word_ticks 25 _) (tx_t x.t_in) (by simp [dueB, x.hv, x.cv, x.av, x.tv, x.rv, k_house, k_crowd, k_arrows, k_ticks, k_room, List.all_cons, List.all_nil]) (by simp) rfl
          · exact due_e 67 [h, c, a, ti5] "BadTicks" "ticks" ti5 _ _ (AllL.mem bt_ti5 (h, c, a) (x.ca_good rfl rfl rfl)) (by simp [x.hv, x.cv, x.av, x.tv, x.rv, List.all_cons, List.all_nil]) x.tv rfl (word_ticks 25 _) (tx_t x.t_in) (by simp [dueB, x.hv, x.cv, x.av, x.tv, x.rv, k_house, k_crowd, k_arrows, k_ticks, k_room, List.all_cons, List.all_nil]) (by simp) rfl
          · exact due_e 67 [h, c, a, ti6] "BadTicks" "ticks" ti6 _ _ (AllL.mem bt_ti6 (h, c, a) (x.ca_good rfl rfl rfl)) (by simp [x.hv, x.cv, x.av, x.tv, x.rv, List.all_cons, List.all_nil]) x.tv rfl (word_ticks 25 _) (tx_t x.t_in) (by simp [dueB, x.hv, x.cv, x.av, x.tv, x.rv, k_house, k_crowd, k_arrows, k_ticks, k_room, List.all_cons, List.all_nil]) (by simp) rfl
        · skip
          have q := x.t_good rfl
          simp only [goodT, List.mem_cons, List.not_mem_nil, or_false] at q
          rcases q with rfl | rfl | rfl
          · exact due_o 67 [h, c, a, ti0] _ (AllL.mem okt_ti0 (h, c, a) (x.ca_good rfl rfl rfl)) (by simp [x.hv, x.cv, x.av, x.tv, x.rv, List.all_cons, List.all_nil]) (by simp [dueB, x.hv, x.cv, x.av, x.tv, x.rv, k_house, k_crowd, k_arrows, k_ticks, k_room, List.all_cons, List.all_nil]) (by simp) rfl
          · exact due_o 67 [h, c, a, ti1] _ (AllL.mem okt_ti1 (h, c, a) (x.ca_good rfl rfl rfl)) (by simp [x.hv, x.cv, x.av, x.tv, x.rv, List.all_cons, List.all_nil]) (by simp [dueB, x.hv, x.cv, x.av, x.tv, x.rv, k_house, k_crowd, k_arrows, k_ticks, k_room, List.all_cons, List.all_nil]) (by simp) rfl
          · exact due_o 67 [h, c, a, ti2] _ (AllL.mem okt_ti2 (h, c, a) (x.ca_good rfl rfl rfl)) (by simp [x.hv, x.cv, x.av, x.tv, x.rv, List.all_cons, List.all_nil]) (by simp [dueB, x.hv, x.cv, x.av, x.tv, x.rv, k_house, k_crowd, k_arrows, k_ticks, k_room, List.all_cons, List.all_nil]) (by simp) rfl
theorem du68 {h c a t r : D} {b bc ba br bt : Bool} (x : Dr h c a t r b bc ba br bt) : runN PQ 27 58 [.clo 68 [.non, h, c, a], .lst false (List.map due [("house", h, b), ("crowd", c, bc), ("arrows", a, ba)])] = .ok (.bl true) [.clo 68 [.non, h, c, a], .lst false (List.map due [("house", h, b), ("crowd", c, bc), ("arrows", a, ba)])] := by
  cases b
  · obtain ⟨m, rfl, rfl, rfl⟩ := x.h_bad rfl
    exact due_e 68 [h, c, a] "BadHouse" "house" h _ _ (AllL.mem bh68 h m c a) (by simp [x.hv, x.cv, x.av, x.tv, x.rv, List.all_cons, List.all_nil]) x.hv rfl (word_house 25 _) (tx_h (x.h_bad rfl).1) (by simp [dueB, x.hv, x.cv, x.av, x.tv, x.rv, k_house, k_crowd, k_arrows, k_ticks, k_room, List.all_cons, List.all_nil]) (by simp) rfl
  · skip
    cases bc
    · cases ba <;> exact due_e 68 [h, c, a] "BadCrowd" "crowd" c _ _ (AllL.mem bc68 (h, c) (x.c_bad rfl rfl) a) (by simp [x.hv, x.cv, x.av, x.tv, x.rv, List.all_cons, List.all_nil]) x.cv rfl (word_crowd 25 _) (tx_c x.c_in) (by simp [dueB, x.hv, x.cv, x.av, x.tv, x.rv, k_house, k_crowd, k_arrows, k_ticks, k_room, List.all_cons, List.all_nil]) (by simp) rfl
    · skip
      cases ba
      · exact due_e 68 [h, c, a] "BadArrows" "arrows" a _ _ (AllL.mem ba68 (h, c, a) (x.ca_bad rfl rfl rfl)) (by simp [x.hv, x.cv, x.av, x.tv, x.rv, List.all_cons, List.all_nil]) x.av rfl (word_arrows 25 _) (tx_a x.a_in) (by simp [dueB, x.hv, x.cv, x.av, x.tv, x.rv, k_house, k_crowd, k_arrows, k_ticks, k_room, List.all_cons, List.all_nil]) (by simp) rfl
      · skip
        exact due_o 68 [h, c, a] _ (AllL.mem ok68 (h, c, a) (x.ca_good rfl rfl rfl)) (by simp [x.hv, x.cv, x.av, x.tv, x.rv, List.all_cons, List.all_nil]) (by simp [dueB, x.hv, x.cv, x.av, x.tv, x.rv, k_house, k_crowd, k_arrows, k_ticks, k_room, List.all_cons, List.all_nil]) (by simp) rfl
theorem du69 {h c a t r : D} {b bc ba br bt : Bool} (x : Dr h c a t r b bc ba br bt) : runN PQ 27 58 [.clo 69 [.non, h, c, a], .lst false (List.map due [("house", h, b), ("crowd", c, bc), ("arrows", a, ba)])] = .ok (.bl true) [.clo 69 [.non, h, c, a], .lst false (List.map due [("house", h, b), ("crowd", c, bc), ("arrows", a, ba)])] := by
  cases b
  · obtain ⟨m, rfl, rfl, rfl⟩ := x.h_bad rfl
    exact due_e 69 [h, c, a] "BadHouse" "house" h _ _ (AllL.mem bh69 h m c a) (by simp [x.hv, x.cv, x.av, x.tv, x.rv, List.all_cons, List.all_nil]) x.hv rfl (word_house 25 _) (tx_h (x.h_bad rfl).1) (by simp [dueB, x.hv, x.cv, x.av, x.tv, x.rv, k_house, k_crowd, k_arrows, k_ticks, k_room, List.all_cons, List.all_nil]) (by simp) rfl
  · skip
    cases bc
    · cases ba <;> exact due_e 69 [h, c, a] "BadCrowd" "crowd" c _ _ (AllL.mem bc69 (h, c) (x.c_bad rfl rfl) a) (by simp [x.hv, x.cv, x.av, x.tv, x.rv, List.all_cons, List.all_nil]) x.cv rfl (word_crowd 25 _) (tx_c x.c_in) (by simp [dueB, x.hv, x.cv, x.av, x.tv, x.rv, k_house, k_crowd, k_arrows, k_ticks, k_room, List.all_cons, List.all_nil]) (by simp) rfl
    · skip
      cases ba
      · exact due_e 69 [h, c, a] "BadArrows" "arrows" a _ _ (AllL.mem ba69 (h, c, a) (x.ca_bad rfl rfl rfl)) (by simp [x.hv, x.cv, x.av, x.tv, x.rv, List.all_cons, List.all_nil]) x.av rfl (word_arrows 25 _) (tx_a x.a_in) (by simp [dueB, x.hv, x.cv, x.av, x.tv, x.rv, k_house, k_crowd, k_arrows, k_ticks, k_room, List.all_cons, List.all_nil]) (by simp) rfl
      · skip
        exact due_o 69 [h, c, a] _ (AllL.mem ok69 (h, c, a) (x.ca_good rfl rfl rfl)) (by simp [x.hv, x.cv, x.av, x.tv, x.rv, List.all_cons, List.all_nil]) (by simp [dueB, x.hv, x.cv, x.av, x.tv, x.rv, k_house, k_crowd, k_arrows, k_ticks, k_room, List.all_cons, List.all_nil]) (by simp) rfl
theorem du70 {h c a t r : D} {b bc ba br bt : Bool} (x : Dr h c a t r b bc ba br bt) : runN PQ 27 58 [.clo 70 [.non, h, c, a], .lst false (List.map due [("house", h, b), ("crowd", c, bc), ("arrows", a, ba)])] = .ok (.bl true) [.clo 70 [.non, h, c, a], .lst false (List.map due [("house", h, b), ("crowd", c, bc), ("arrows", a, ba)])] := by
  cases b
  · obtain ⟨m, rfl, rfl, rfl⟩ := x.h_bad rfl
    exact due_e 70 [h, c, a] "BadHouse" "house" h _ _ (AllL.mem bh70 h m c a) (by simp [x.hv, x.cv, x.av, x.tv, x.rv, List.all_cons, List.all_nil]) x.hv rfl (word_house 25 _) (tx_h (x.h_bad rfl).1) (by simp [dueB, x.hv, x.cv, x.av, x.tv, x.rv, k_house, k_crowd, k_arrows, k_ticks, k_room, List.all_cons, List.all_nil]) (by simp) rfl
  · skip
    cases bc
    · cases ba <;> exact due_e 70 [h, c, a] "BadCrowd" "crowd" c _ _ (AllL.mem bc70 (h, c) (x.c_bad rfl rfl) a) (by simp [x.hv, x.cv, x.av, x.tv, x.rv, List.all_cons, List.all_nil]) x.cv rfl (word_crowd 25 _) (tx_c x.c_in) (by simp [dueB, x.hv, x.cv, x.av, x.tv, x.rv, k_house, k_crowd, k_arrows, k_ticks, k_room, List.all_cons, List.all_nil]) (by simp) rfl
    · skip
      cases ba
      · exact due_e 70 [h, c, a] "BadArrows" "arrows" a _ _ (AllL.mem ba70 (h, c, a) (x.ca_bad rfl rfl rfl)) (by simp [x.hv, x.cv, x.av, x.tv, x.rv, List.all_cons, List.all_nil]) x.av rfl (word_arrows 25 _) (tx_a x.a_in) (by simp [dueB, x.hv, x.cv, x.av, x.tv, x.rv, k_house, k_crowd, k_arrows, k_ticks, k_room, List.all_cons, List.all_nil]) (by simp) rfl
      · skip
        exact due_o 70 [h, c, a] _ (AllL.mem ok70 (h, c, a) (x.ca_good rfl rfl rfl)) (by simp [x.hv, x.cv, x.av, x.tv, x.rv, List.all_cons, List.all_nil]) (by simp [dueB, x.hv, x.cv, x.av, x.tv, x.rv, k_house, k_crowd, k_arrows, k_ticks, k_room, List.all_cons, List.all_nil]) (by simp) rfl
theorem du71 {h c a t r : D} {b bc ba br bt : Bool} (x : Dr h c a t r b bc ba br bt) : runN PQ 27 58 [.clo 71 [.non, h, c, a], .lst false (List.map due [("house", h, b), ("crowd", c, bc), ("arrows", a, ba)])] = .ok (.bl true) [.clo 71 [.non, h, c, a], .lst false (List.map due [("house", h, b), ("crowd", c, bc), ("arrows", a, ba)])] := by
  cases b
  · obtain ⟨m, rfl, rfl, rfl⟩ := x.h_bad rfl
    exact due_e 71 [h, c, a] "BadHouse" "house" h _ _ (AllL.mem bh71 h m c a) (by simp [x.hv, x.cv, x.av, x.tv, x.rv, List.all_cons, List.all_nil]) x.hv rfl (word_house 25 _) (tx_h (x.h_bad rfl).1) (by simp [dueB, x.hv, x.cv, x.av, x.tv, x.rv, k_house, k_crowd, k_arrows, k_ticks, k_room, List.all_cons, List.all_nil]) (by simp) rfl
  · skip
    cases bc
    · cases ba <;> exact due_e 71 [h, c, a] "BadCrowd" "crowd" c _ _ (AllL.mem bc71 (h, c) (x.c_bad rfl rfl) a) (by simp [x.hv, x.cv, x.av, x.tv, x.rv, List.all_cons, List.all_nil]) x.cv rfl (word_crowd 25 _) (tx_c x.c_in) (by simp [dueB, x.hv, x.cv, x.av, x.tv, x.rv, k_house, k_crowd, k_arrows, k_ticks, k_room, List.all_cons, List.all_nil]) (by simp) rfl
    · skip
      cases ba
      · exact due_e 71 [h, c, a] "BadArrows" "arrows" a _ _ (AllL.mem ba71 (h, c, a) (x.ca_bad rfl rfl rfl)) (by simp [x.hv, x.cv, x.av, x.tv, x.rv, List.all_cons, List.all_nil]) x.av rfl (word_arrows 25 _) (tx_a x.a_in) (by simp [dueB, x.hv, x.cv, x.av, x.tv, x.rv, k_house, k_crowd, k_arrows, k_ticks, k_room, List.all_cons, List.all_nil]) (by simp) rfl
      · skip
        exact due_o 71 [h, c, a] _ (AllL.mem ok71 (h, c, a) (x.ca_good rfl rfl rfl)) (by simp [x.hv, x.cv, x.av, x.tv, x.rv, List.all_cons, List.all_nil]) (by simp [dueB, x.hv, x.cv, x.av, x.tv, x.rv, k_house, k_crowd, k_arrows, k_ticks, k_room, List.all_cons, List.all_nil]) (by simp) rfl
theorem du72 {h c a t r : D} {b bc ba br bt : Bool} (x : Dr h c a t r b bc ba br bt) : runN PQ 27 58 [.clo 72 [.non, h, c], .lst false (List.map due [("house", h, b), ("crowd", c, bc)])] = .ok (.bl true) [.clo 72 [.non, h, c], .lst false (List.map due [("house", h, b), ("crowd", c, bc)])] := by
  cases b
  · obtain ⟨m, rfl, rfl, rfl⟩ := x.h_bad rfl
    exact due_e 72 [h, c] "BadHouse" "house" h _ _ (AllL.mem bh72 h m c) (by simp [x.hv, x.cv, x.av, x.tv, x.rv, List.all_cons, List.all_nil]) x.hv rfl (word_house 25 _) (tx_h (x.h_bad rfl).1) (by simp [dueB, x.hv, x.cv, x.av, x.tv, x.rv, k_house, k_crowd, k_arrows, k_ticks, k_room, List.all_cons, List.all_nil]) (by simp) rfl
  · skip
    cases bc
    · exact due_e 72 [h, c] "BadCrowd" "crowd" c _ _ (AllL.mem bc72 (h, c) (x.c_bad rfl rfl)) (by simp [x.hv, x.cv, x.av, x.tv, x.rv, List.all_cons, List.all_nil]) x.cv rfl (word_crowd 25 _) (tx_c x.c_in) (by simp [dueB, x.hv, x.cv, x.av, x.tv, x.rv, k_house, k_crowd, k_arrows, k_ticks, k_room, List.all_cons, List.all_nil]) (by simp) rfl
    · skip
      exact due_o 72 [h, c] _ (AllL.mem ok72 (h, c) (x.c_good rfl rfl)) (by simp [x.hv, x.cv, x.av, x.tv, x.rv, List.all_cons, List.all_nil]) (by simp [dueB, x.hv, x.cv, x.av, x.tv, x.rv, k_house, k_crowd, k_arrows, k_ticks, k_room, List.all_cons, List.all_nil]) (by simp) rfl
theorem du73 {h c a t r : D} {b bc ba br bt : Bool} (x : Dr h c a t r b bc ba br bt) : runN PQ 27 58 [.clo 73 [.non, h, c], .lst false (List.map due [("house", h, b), ("crowd", c, bc)])] = .ok (.bl true) [.clo 73 [.non, h, c], .lst false (List.map due [("house", h, b), ("crowd", c, bc)])] := by
  cases b
  · obtain ⟨m, rfl, rfl, rfl⟩ := x.h_bad rfl
    exact due_e 73 [h, c] "BadHouse" "house" h _ _ (AllL.mem bh73 h m c) (by simp [x.hv, x.cv, x.av, x.tv, x.rv, List.all_cons, List.all_nil]) x.hv rfl (word_house 25 _) (tx_h (x.h_bad rfl).1) (by simp [dueB, x.hv, x.cv, x.av, x.tv, x.rv, k_house, k_crowd, k_arrows, k_ticks, k_room, List.all_cons, List.all_nil]) (by simp) rfl
  · skip
    cases bc
    · exact due_e 73 [h, c] "BadCrowd" "crowd" c _ _ (AllL.mem bc73 (h, c) (x.c_bad rfl rfl)) (by simp [x.hv, x.cv, x.av, x.tv, x.rv, List.all_cons, List.all_nil]) x.cv rfl (word_crowd 25 _) (tx_c x.c_in) (by simp [dueB, x.hv, x.cv, x.av, x.tv, x.rv, k_house, k_crowd, k_arrows, k_ticks, k_room, List.all_cons, List.all_nil]) (by simp) rfl
    · skip
      exact due_o 73 [h, c] _ (AllL.mem ok73 (h, c) (x.c_good rfl rfl)) (by simp [x.hv, x.cv, x.av, x.tv, x.rv, List.all_cons, List.all_nil]) (by simp [dueB, x.hv, x.cv, x.av, x.tv, x.rv, k_house, k_crowd, k_arrows, k_ticks, k_room, List.all_cons, List.all_nil]) (by simp) rfl
end LW
end

section
set_option linter.all false
set_option maxRecDepth 100000
set_option maxHeartbeats 1000000
namespace LW
open Mi
/-- what are_right evaluates: whether the crowd, the arrows, the room, the ticks are right -/
def eC : IE := .andE (.var 1) (.andE (.cb .isi [.peek 2, .glob (.typ "tuple")]) (.andE (.op .eq [.cb .len [.peek 2], .peek 6]) (.cb .all [.lc [16] (.slot 16) (.seq [.peekF 2]) [] (.frz (.callM 55 [.peek 16, .const (.int 0), .const (.int 50)]))])))
def eA : IE := .andE (.var 1) (.andE (.op .eq [.peek 6, .const (.int 3)]) (.op .mem [.cb .repr [.peek 3], .peek 10]))
def eR : IE := .andE (.var 1) (.callM 55 [.peek 5, .const (.int 0), .op .sub [.peek 6, .const (.int 1)]])
def eT : IE := .frz (.callM 55 [.peek 4, .const (.int 0), .const (.int 16)])
def sF : List IS := [.asg (.slot 9) (.lst [.tup [.const (.int 3), .tup [.tup [.const (.int 0), .const (.int 1), .const (.int 1)], .tup [.const (.int 1), .const (.int 2), .const (.int 2)]], .tup [.const (.int 2)]], .tup [.const (.int 3), .tup [.tup [.const (.int 0), .const (.int 1), .const (.int 3)], .tup [.const (.int 0), .const (.int 2), .const (.int 2)]], .tup [.const (.int 2)]]]), .asg (.slot 10) (.op .add [.lst [.const (.str "(None, None, None)"), .const (.str "(1, None, None)")], .ite (.andE (.var 1) (.op .eq [.peek 0, .idx [.peek 9, .const (.int 0)]])) (.lst [.const (.str "(1, 2, None)")]) (.lst [])]), .asg (.slot 10) (.op .add [.peek 10, .ite (.andE (.var 1) (.op .eq [.peek 0, .idx [.peek 9, .const (.int 1)]])) (.lst [.const (.str "(2, 0, None)")]) (.lst [])])]
def nOf (h : D) : Int := match idxD h (.int 0) with
  | some (.int n) => n
  | _ => 1
def known : D := .lst true [.tup [.int 3, .tup [.tup [.int 0, .int 1, .int 1], .tup [.int 1, .int 2, .int 2]], .tup [.int 2]], .tup [.int 3, .tup [.tup [.int 0, .int 1, .int 3], .tup [.int 0, .int 2, .int 2]], .tup [.int 2]]]
def fines : List (D × D) := [(hg0, .lst true [.str (PySem.Str.ofString "(None, None, None)"), .str (PySem.Str.ofString "(1, None, None)"), .str (PySem.Str.ofString "(1, 2, None)")]), (hg1, .lst true [.str (PySem.Str.ofString "(None, None, None)"), .str (PySem.Str.ofString "(1, None, None)"), .str (PySem.Str.ofString "(2, 0, None)")]), (hg2, .lst true [.str (PySem.Str.ofString "(None, None, None)"), .str (PySem.Str.ofString "(1, None, None)")])]
def fineOf (h : D) : D := match exSs (runN PQ 27) [0, 1, 2, 3, 4, 5] sF [some h, some (.bl true), none, none, none, none, none, none, none, none, none, none, none, none, none, none, none] with
  | .nx ρ => match getE ρ 10 with
    | some d => d
    | none => .non
  | _ => .non
theorem fC_t : AllL goodC fun p => ∀ x0 x3 x4 x5 x7 x8 x9 x10 x11 x12 x13 x14 x15 : Option D, ev (runN PQ 27) eC [x0, some (.bl true), some p.2, x3, x4, x5, some (.int (nOf p.1)), x7, x8, x9, x10, x11, x12, x13, x14, x15, none] = .ok (.bl true) [x0, some (.bl true), some p.2, x3, x4, x5, some (.int (nOf p.1)), x7, x8, x9, x10, x11, x12, x13, x14, x15, none] := by
  refine ⟨?_, ?_, ?_, ?_, ?_, trivial⟩ <;> (intro x0 x3 x4 x5 x7 x8 x9 x10 x11 x12 x13 x14 x15; kernel_rfl)
theorem fC_f : AllL badC fun p => ∀ x0 x3 x4 x5 x7 x8 x9 x10 x11 x12 x13 x14 x15 : Option D, ev (runN PQ 27) eC [x0, some (.bl true), some p.2, x3, x4, x5, some (.int (nOf p.1)), x7, x8, x9, x10, x11, x12, x13, x14, x15, none] = .ok (.bl false) [x0, some (.bl true), some p.2, x3, x4, x5, some (.int (nOf p.1)), x7, x8, x9, x10, x11, x12, x13, x14, x15, none] := by
  refine ⟨?_, ?_, ?_, ?_, ?_, ?_, ?_, ?_, ?_, ?_, ?_, ?_, ?_, ?_, ?_, ?_, ?_, ?_, ?_, ?_, ?_, ?_, trivial⟩ <;> (intro x0 x3 x4 x5 x7 x8 x9 x10 x11 x12 x13 x14 x15; kernel_rfl)
theorem fA_t : AllL goodA fun p => ∀ x0 x2 x4 x5 x7 x8 x9 x11 x12 x13 x14 x15 x16 : Option D, ev (runN PQ 27) eA [x0, some (.bl true), x2, some p.2, x4, x5, some (.int (nOf p.1)), x7, x8, x9, some (fineOf p.1), x11, x12, x13, x14, x15, x16] = .ok (.bl true) [x0, some (.bl true), x2, some p.2, x4, x5, some (.int (nOf p.1)), x7, x8, x9, some (fineOf p.1), x11, x12, x13, x14, x15, x16] := by
  refine ⟨?_, ?_, ?_, ?_, ?_, ?_, trivial⟩ <;> (intro x0 x2 x4 x5 x7 x8 x9 x11 x12 x13 x14 x15 x16; kernel_rfl)
theorem fA_f : AllL badA fun p => ∀ x0 x2 x4 x5 x7 x8 x9 x11 x12 x13 x14 x15 x16 : Option D, ev (runN PQ 27) eA [x0, some (.bl true), x2, some p.2, x4, x5, some (.int (nOf p.1)), x7, x8, x9, some (fineOf p.1), x11, x12, x13, x14, x15, x16] = .ok (.bl false) [x0, some (.bl true), x2, some p.2, x4, x5, some (.int (nOf p.1)), x7, x8, x9, some (fineOf p.1), x11, x12, x13, x14, x15, x16] := by
  refine ⟨?_, ?_, ?_, ?_, ?_, ?_, ?_, ?_, ?_, ?_, ?_, ?_, ?_, ?_, ?_, ?_, ?_, ?_, ?_, ?_, ?_, ?_, ?_, ?_, trivial⟩ <;> (intro x0 x2 x4 x5 x7 x8 x9 x11 x12 x13 x14 x15 x16; kernel_rfl)
theorem fR_t : AllL goodR fun p => ∀ x0 x2 x3 x4 x7 x8 x9 x10 x11 x12 x13 x14 x15 x16 : Option D, ev (runN PQ 27) eR [x0, some (.bl true), x2, x3, x4, some p.2, some (.int (nOf p.1)), x7, x8, x9, x10, x11, x12, x13, x14, x15, x16] = .ok (.bl true) [x0, some (.bl true), x2, x3, x4, some p.2, some (.int (nOf p.1)), x7, x8, x9, x10, x11, x12, x13, x14, x15, x16] := by
  refine ⟨?_, ?_, ?_, ?_, ?_, trivial⟩ <;> (intro x0 x2 x3 x4 x7 x8 x9 x10 x11 x12 x13 x14 x15 x16; kernel_rfl)
theorem fR_f : AllL badR fun p => ∀ x0 x2 x3 x4 x7 x8 x9 x10 x11 x12 x13 x14 x15 x16 : Option D, ev (runN PQ 27) eR [x0, some (.bl true), x2, x3, x4, some p.2, some (.int (nOf p.1)), x7, x8, x9, x10, x11, x12, x13, x14, x15, x16] = .ok (.bl false) [x0, some (.bl true), x2, x3, x4, some p.2, some (.int (nOf p.1)), x7, x8, x9, x10, x11, x12, x13, x14, x15, x16] := by
  refine ⟨?_, ?_, ?_, ?_, ?_, ?_, ?_, ?_, ?_, ?_, ?_, ?_, ?_, trivial⟩ <;> (intro x0 x2 x3 x4 x7 x8 x9 x10 x11 x12 x13 x14 x15 x16; kernel_rfl)
theorem fT_t : AllL goodT fun p => ∀ x0 x1 x2 x3 x5 x6 x7 x8 x9 x10 x11 x12 x13 x14 x15 x16 : Option D, ev (runN PQ 27) eT [x0, x1, x2, x3, some p, x5, x6, x7, x8, x9, x10, x11, x12, x13, x14, x15, x16] = .ok (.bl true) [x0, x1, x2, x3, some p, x5, x6, x7, x8, x9, x10, x11, x12, x13, x14, x15, x16] := by
  refine ⟨?_, ?_, ?_, trivial⟩ <;> (intro x0 x1 x2 x3 x5 x6 x7 x8 x9 x10 x11 x12 x13 x14 x15 x16; kernel_rfl)
theorem fT_f : AllL badT fun p => ∀ x0 x1 x2 x3 x5 x6 x7 x8 x9 x10 x11 x12 x13 x14 x15 x16 : Option D, ev (runN PQ 27) eT [x0, x1, x2, x3, some p, x5, x6, x7, x8, x9, x10, x11, x12, x13, x14, x15, x16] = .ok (.bl false) [x0, x1, x2, x3, some p, x5, x6, x7, x8, x9, x10, x11, x12, x13, x14, x15, x16] := by
  refine ⟨?_, ?_, ?_, ?_, trivial⟩ <;> (intro x0 x1 x2 x3 x5 x6 x7 x8 x9 x10 x11 x12 x13 x14 x15 x16; kernel_rfl)
theorem fC_n (x0 x2 x3 x4 x5 x6 x7 x8 x9 x10 x11 x12 x13 x14 x15 x16 : Option D) : ev (runN PQ 27) eC [x0, some (.bl false), x2, x3, x4, x5, x6, x7, x8, x9, x10, x11, x12, x13, x14, x15, x16] = .ok (.bl false) [x0, some (.bl false), x2, x3, x4, x5, x6, x7, x8, x9, x10, x11, x12, x13, x14, x15, x16] := by kernel_rfl
theorem fA_n (x0 x2 x3 x4 x5 x6 x7 x8 x9 x10 x11 x12 x13 x14 x15 x16 : Option D) : ev (runN PQ 27) eA [x0, some (.bl false), x2, x3, x4, x5, x6, x7, x8, x9, x10, x11, x12, x13, x14, x15, x16] = .ok (.bl false) [x0, some (.bl false), x2, x3, x4, x5, x6, x7, x8, x9, x10, x11, x12, x13, x14, x15, x16] := by kernel_rfl
theorem fR_n (x0 x2 x3 x4 x5 x6 x7 x8 x9 x10 x11 x12 x13 x14 x15 x16 : Option D) : ev (runN PQ 27) eR [x0, some (.bl false), x2, x3, x4, x5, x6, x7, x8, x9, x10, x11, x12, x13, x14, x15, x16] = .ok (.bl false) [x0, some (.bl false), x2, x3, x4, x5, x6, x7, x8, x9, x10, x11, x12, x13, x14, x15, x16] := by kernel_rfl
theorem fF : AllL goods fun p => ∀ x2 x3 x4 x5 x6 x7 x8 x11 x12 x13 x14 x15 x16 : Option D, exSs (runN PQ 27) [0, 1, 2, 3, 4, 5] sF [some p, some (.bl true), x2, x3, x4, x5, x6, x7, x8, none, none, x11, x12, x13, x14, x15, x16] = .nx [some p, some (.bl true), x2, x3, x4, x5, x6, x7, x8, some known, some (fineOf p), x11, x12, x13, x14, x15, x16] := by
  refine ⟨?_, ?_, ?_, trivial⟩ <;> (intro x2 x3 x4 x5 x6 x7 x8 x11 x12 x13 x14 x15 x16; kernel_rfl)
def fine0 : D := .lst true [.str (PySem.Str.ofString "(None, None, None)"), .str (PySem.Str.ofString "(1, None, None)")]
theorem fF_n (x0 x2 x3 x4 x5 x6 x7 x8 x11 x12 x13 x14 x15 x16 : Option D) : exSs (runN PQ 27) [0, 1, 2, 3, 4, 5] sF [x0, some (.bl false), x2, x3, x4, x5, x6, x7, x8, none, none, x11, x12, x13, x14, x15, x16] = .nx [x0, some (.bl false), x2, x3, x4, x5, x6, x7, x8, some known, some fine0, x11, x12, x13, x14, x15, x16] := by kernel_rfl
theorem fN : AllL goods fun p => idxD p (.int 0) = some (.int (nOf p)) := by
  refine ⟨?_, ?_, ?_, trivial⟩ <;> kernel_rfl
end LW
end

section
set_option linter.all false
set_option maxRecDepth 100000
set_option maxHeartbeats 1000000
namespace LW
open Mi
/-- what are_right comes to at its draw -/
structure Fx (h c a t r : D) (b bc ba br bt : Bool) (n : Int) (F : D) : Prop where
  N : ∀ x2 x3 x4 x5 x6 x7 x8 x9 x10 x11 x12 x13 x14 x15 x16 : Option D, ev (runN PQ 27) (.ite (.var 1) (.idx [.peek 0, .const (.int 0)]) (.const (.int 1))) [some h, some (.bl b), x2, x3, x4, x5, x6, x7, x8, x9, x10, x11, x12, x13, x14, x15, x16] = .ok (.int n) [some h, some (.bl b), x2, x3, x4, x5, x6, x7, x8, x9, x10, x11, x12, x13, x14, x15, x16]
  C : ∀ x0 x3 x4 x5 x7 x8 x9 x10 x11 x12 x13 x14 x15 : Option D, ev (runN PQ 27) eC [x0, some (.bl b), some c, x3, x4, x5, some (.int n), x7, x8, x9, x10, x11, x12, x13, x14, x15, none] = .ok (.bl bc) [x0, some (.bl b), some c, x3, x4, x5, some (.int n), x7, x8, x9, x10, x11, x12, x13, x14, x15, none]
  A : ∀ x0 x2 x4 x5 x7 x8 x9 x11 x12 x13 x14 x15 x16 : Option D, ev (runN PQ 27) eA [x0, some (.bl b), x2, some a, x4, x5, some (.int n), x7, x8, x9, some F, x11, x12, x13, x14, x15, x16] = .ok (.bl ba) [x0, some (.bl b), x2, some a, x4, x5, some (.int n), x7, x8, x9, some F, x11, x12, x13, x14, x15, x16]
  R : ∀ x0 x2 x3 x4 x7 x8 x9 x10 x11 x12 x13 x14 x15 x16 : Option D, ev (runN PQ 27) eR [x0, some (.bl b), x2, x3, x4, some r, some (.int n), x7, x8, x9, x10, x11, x12, x13, x14, x15, x16] = .ok (.bl br) [x0, some (.bl b), x2, x3, x4, some r, some (.int n), x7, x8, x9, x10, x11, x12, x13, x14, x15, x16]
  T : ∀ x0 x1 x2 x3 x5 x6 x7 x8 x9 x10 x11 x12 x13 x14 x15 x16 : Option D, ev (runN PQ 27) eT [x0, x1, x2, x3, some t, x5, x6, x7, x8, x9, x10, x11, x12, x13, x14, x15, x16] = .ok (.bl bt) [x0, x1, x2, x3, some t, x5, x6, x7, x8, x9, x10, x11, x12, x13, x14, x15, x16]
  F : ∀ x2 x3 x4 x5 x6 x7 x8 x11 x12 x13 x14 x15 x16 : Option D, exSs (runN PQ 27) [0, 1, 2, 3, 4, 5] sF [some h, some (.bl b), x2, x3, x4, x5, x6, x7, x8, none, none, x11, x12, x13, x14, x15, x16] = .nx [some h, some (.bl b), x2, x3, x4, x5, x6, x7, x8, some known, some F, x11, x12, x13, x14, x15, x16]
theorem Dr.fx {h c a t r : D} {b bc ba br bt : Bool} (x : Dr h c a t r b bc ba br bt) : ∃ n F, Fx h c a t r b bc ba br bt n F := by
  cases b
  · obtain ⟨_, rfl, rfl, rfl⟩ := x.h_bad rfl
    refine ⟨1, fine0, ?_, ?_, ?_, ?_, ?_, ?_⟩
    · intros; simp -dsimp only [E_lam, E_callM, E_isx, E_fld, Es_lam, Es_callM, Es_isx, Es_fld, E_const, E_glob, E_var, E_mov, E_op, E_isn, E_neg, E_notE, E_chain, E_andE, E_orE, E_ite, E_tup, E_lst, E_idx, E_slc, E_cb, E_call, E_callK, E_rng2, rngK_t, rngK_f, E_frz, Es_nil, Es_peek, Es_peekF, Es_star, Es_const, Es_glob, Es_var, Es_mov, Es_op, Es_isn, Es_neg, Es_notE, Es_chain, Es_andE, Es_orE, Es_ite, Es_tup, Es_lst, Es_idx, Es_slc, Es_cb, Es_call, Es_callK, Es_rng, Es_frz, Es_lc, Eb_nil, Eb_one, Ei_nil, Ei_cons, It_seq, It_range, It_enum, It_zip, S_ex, S_asg, S_par, S_seti, S_app, S_ext, S_aug, S_augi, S_ret, S_ifs, S_for_, S_while_, S_never, Ss_nil, Ss_cons, getE_zero, getE_succ, ↓bind_rb, ↓ofR_rb, ↓rbk, ↓ork, rbk, ork, Bool.false_eq_true, if_false, oo_some, ob_some, om_some, getAll, OV.get, OV.refs, nodupN, putBack, set_zero, set_succ, List.set_cons_zero, List.set_cons_succ, bindT, bindTs, op2, List.contains_nil, List.contains_cons, Nat.reduceBEq, Bool.or_false, Bool.or_self, Bool.not_false, Bool.not_true, Bool.and_true, Bool.true_and, Bool.and_self, List.length_cons, List.length_nil, if_true, List.cons_append, List.nil_append, reduceIte, Nat.reduceLT, Nat.reduceAdd, prD, isD_tt, isD_ti, isD_lt, isD_li, isD_nt, isD_ni, isD_nb, isD_ii, isD_ib, isD_it, isD_bi, isD_bb, isD_bt, sz_0, sz_1, sz_2, sz_3, sz_4, sz_5, sz_6, sz_7, sz_8, sz_9, sz_10, sz_11, sz_12, sz_13, sz_14, sz_15, sz_16, sz_17, sz_18, sz_19, sz_20, D.own]
    · intros; exact fC_n ..
    · intros; exact fA_n ..
    · intros; exact fR_n ..
    · intros; cases bt
      · exact AllL.mem fT_f t (x.t_bad rfl) ..
      · exact AllL.mem fT_t t (x.t_good rfl) ..
    · intros; exact fF_n ..
  · refine ⟨nOf h, fineOf h, ?_, ?_, ?_, ?_, ?_, ?_⟩
    · intros; simp -dsimp only [E_lam, E_callM, E_isx, E_fld, Es_lam, Es_callM, Es_isx, Es_fld, E_const, E_glob, E_var, E_mov, E_op, E_isn, E_neg, E_notE, E_chain, E_andE, E_orE, E_ite, E_tup, E_lst, E_idx, E_slc, E_cb, E_call, E_callK, E_rng2, rngK_t, rngK_f, E_frz, Es_nil, Es_peek, Es_peekF, Es_star, Es_const, Es_glob, Es_var, Es_mov, Es_op, Es_isn, Es_neg, Es_notE, Es_chain, Es_andE, Es_orE, Es_ite, Es_tup, Es_lst, Es_idx, Es_slc, Es_cb, Es_call, Es_callK, Es_rng, Es_frz, Es_lc, Eb_nil, Eb_one, Ei_nil, Ei_cons, It_seq, It_range, It_enum, It_zip, S_ex, S_asg, S_par, S_seti, S_app, S_ext, S_aug, S_augi, S_ret, S_ifs, S_for_, S_while_, S_never, Ss_nil, Ss_cons, getE_zero, getE_succ, ↓bind_rb, ↓ofR_rb, ↓rbk, ↓ork, rbk, ork, Bool.false_eq_true, if_false, oo_some, ob_some, om_some, getAll, OV.get, OV.refs, nodupN, putBack, set_zero, set_succ, List.set_cons_zero, List.set_cons_succ, bindT, bindTs, op2, List.contains_nil, List.contains_cons, Nat.reduceBEq, Bool.or_false, Bool.or_self, Bool.not_false, Bool.not_true, Bool.and_true, Bool.true_and, Bool.and_self, List.length_cons, List.length_nil, if_true, List.cons_append, List.nil_append, reduceIte, Nat.reduceLT, Nat.reduceAdd, prD, isD_tt, isD_ti, isD_lt, isD_li, isD_nt, isD_ni, isD_nb, isD_ii, isD_ib, isD_it, isD_bi, isD_bb, isD_bt, sz_0, sz_1, sz_2, sz_3, sz_4, sz_5, sz_6, sz_7, sz_8, sz_9, sz_10, sz_11, sz_12, sz_13, sz_14, sz_15, sz_16, sz_17, sz_18, sz_19, sz_20, D.own, AllL.mem fN h (x.h_good rfl)]
    · intros; cases bc
      · exact AllL.mem fC_f (h, c) (x.c_bad rfl rfl) ..
      · exact AllL.mem fC_t (h, c) (x.c_good rfl rfl) ..
    · intros; cases ba
      · exact AllL.mem fA_f (h, a) (x.a_bad rfl rfl) ..
      · exact AllL.mem fA_t (h, a) (x.a_good rfl rfl) ..
    · intros; cases br
      · exact AllL.mem fR_f (h, r) (x.r_bad rfl rfl) ..
      · exact AllL.mem fR_t (h, r) (x.r_good rfl rfl) ..
    · intros; cases bt
      · exact AllL.mem fT_f t (x.t_bad rfl) ..
      · exact AllL.mem fT_t t (x.t_good rfl) ..
    · intros; exact AllL.mem fF h (x.h_good rfl) ..
end LW
end

section
set_option linter.all false
set_option maxRecDepth 100000
set_option maxHeartbeats 1000000
namespace LW
open Mi
theorem exSs_app (Φ : Fns) (lk : List Nat) : ∀ (a b : List IS) (ρ ρ1 : Env), exSs Φ lk a ρ = .nx ρ1 → exSs Φ lk (a ++ b) ρ = exSs Φ lk b ρ1
  | [], b, ρ, ρ1, h => by
    rw [Ss_nil] at h
    cases h; rfl
  | s :: a, b, ρ, ρ1, h => by
    rw [List.cons_append, Ss_cons]
    rw [Ss_cons] at h
    cases e : exS Φ lk s ρ with
    | nx ρ2 => rw [e] at h; exact exSs_app Φ lk a b ρ2 ρ1 h
    | ret d ρ2 => rw [e] at h; cases h
    | exc c d ρ2 => rw [e] at h; cases h
    | stk => rw [e] at h; cases h
mutual
theorem closeD_id (ks : List (Nat × List Nat)) (ρ : Env) : ∀ d : D, d.plain = true → d.own = false → closeD ks ρ d = some d
  | .non, _, _ => by rw [closeD]
  | .bl _, _, _ => by rw [closeD]
  | .int _, _, _ => by rw [closeD]
  | .str _, _, _ => by rw [closeD]
  | .typ _, _, _ => by rw [closeD]
  | .cls _, h, _ => by cases h
  | .scr _, h, _ => by cases h
  | .clo _ _, h, _ => by cases h
  | .dct _ _ _, h, _ => by cases h
  | .tup ds, h, o => by
    rw [closeD, closeL_id ks ρ ds (by simpa only [D.plain] using h) (by simpa only [D.own] using o)]; rfl
  | .lst true ds, h, o => by simp [D.own] at o
  | .lst false ds, h, o => by
    rw [closeD, closeL_id ks ρ ds (by simpa only [D.plain] using h) (by simpa only [D.own, Bool.false_or] using o)]; rfl
  | .exc c d, h, o => by
    have h1 : d.plain = true := by simpa only [D.plain] using h
    have h2 : d.own = false := by simpa only [D.own] using o
    rw [closeD, h1, h2]; rfl
theorem closeL_id (ks : List (Nat × List Nat)) (ρ : Env) : ∀ ds : List D, plainL ds = true → ownL ds = false → closeL ks ρ ds = some ds
  | [], _, _ => by rw [closeL]
  | d :: r, h, o => by
    simp only [plainL, Bool.and_eq_true] at h
    simp only [ownL, Bool.or_eq_false_iff] at o
    rw [closeL, closeD_id ks ρ d h.1 o.1, closeL_id ks ρ r h.2 o.2]
end
def sA : List IS := [.asg (.slot 6) (.ite (.var 1) (.idx [.peek 0, .const (.int 0)]) (.const (.int 1))), .asg (.slot 7) (.lst [.tup [.const (.str "house"), .var 0, .var 1]]), .asg (.slot 8) (.op .add [.peek 7, .lst [.tup [.const (.str "crowd"), .var 2, .andE (.var 1) (.andE (.cb .isi [.peek 2, .glob (.typ "tuple")]) (.andE (.op .eq [.cb .len [.peek 2], .peek 6]) (.cb .all [.lc [16] (.slot 16) (.seq [.peekF 2]) [] (.frz (.callM 55 [.peek 16, .const (.int 0), .const (.int 50)]))])))]]])]
def sC : List IS := [.asg (.slot 11) (.lst [.tup [.const (.str "arrows"), .var 3, .andE (.var 1) (.andE (.op .eq [.peek 6, .const (.int 3)]) (.op .mem [.cb .repr [.peek 3], .peek 10]))]]), .asg (.slot 12) (.op .add [.peek 8, .peek 11]), .asg (.slot 13) (.lst []), .app 13 (.tup [.lam 62, .var 7]), .app 13 (.tup [.lam 63, .var 7]), .app 13 (.tup [.lam 64, .frz (.op .add [.op .add [.peek 7, .peek 11], .lst [.tup [.const (.str "room"), .var 5, .andE (.var 1) (.callM 55 [.peek 5, .const (.int 0), .op .sub [.peek 6, .const (.int 1)]])]]])]), .app 13 (.tup [.lam 65, .op .add [.peek 7, .peek 11]]), .app 13 (.tup [.lam 66, .op .add [.peek 7, .peek 11]]), .app 13 (.tup [.lam 67, .frz (.op .add [.peek 12, .lst [.tup [.const (.str "ticks"), .var 4, .frz (.callM 55 [.peek 4, .const (.int 0), .const (.int 16)])]]])]), .app 13 (.tup [.lam 68, .var 12]), .app 13 (.tup [.lam 69, .var 12]), .app 13 (.tup [.lam 70, .var 12]), .app 13 (.tup [.lam 71, .var 12]), .app 13 (.tup [.lam 72, .var 8]), .app 13 (.tup [.lam 73, .var 8])]
def sD : List IS := [.ret (.cb .all [.lcM [(62, [0]), (63, [0]), (64, [0, 3, 5]), (65, [0, 3]), (66, [0, 3]), (67, [0, 2, 3, 4]), (68, [0, 2, 3]), (69, [0, 2, 3]), (70, [0, 2, 3]), (71, [0, 2, 3]), (72, [0, 2]), (73, [0, 2])] [14, 15] (.tup [(.slot 14), (.slot 15)]) 13 (.frz (.call 58 [.peek 14, .peek 15]))])]
theorem parts : b__law_are_right = sA ++ (sF ++ (sC ++ sD)) := rfl
theorem pA {h c a t r : D} {b bc ba br bt : Bool} {n : Int} {F : D} (x : Fx h c a t r b bc ba br bt n F) (oh : h.own = false) (oc : c.own = false) (oa : a.own = false) (ot : t.own = false) (orr : r.own = false) : exSs (runN PQ 27) [0, 1, 2, 3, 4, 5] sA [some h, some (.bl b), some c, some a, some t, some r, none, none, none, none, none, none, none, none, none, none, none] = .nx [some h, some (.bl b), some c, some a, some t, some r, some (.int n), some (.lst true [.tup [.str (PySem.Str.ofString "house"), h, .bl b]]), some (.lst true [.tup [.str (PySem.Str.ofString "house"), h, .bl b], .tup [.str (PySem.Str.ofString "crowd"), c, .bl bc]]), none, none, none, none, none, none, none, none] := by
  have e0 := x.N
  have e1 := x.C
  simp only [eC] at e1
  simp -dsimp only [E_lam, E_callM, E_isx, E_fld, Es_lam, Es_callM, Es_isx, Es_fld, E_const, E_glob, E_var, E_mov, E_op, E_isn, E_neg, E_notE, E_chain, E_andE, E_orE, E_ite, E_tup, E_lst, E_idx, E_slc, E_cb, E_call, E_callK, E_rng2, rngK_t, rngK_f, E_frz, Es_nil, Es_peek, Es_peekF, Es_star, Es_const, Es_glob, Es_var, Es_mov, Es_op, Es_isn, Es_neg, Es_notE, Es_chain, Es_andE, Es_orE, Es_ite, Es_tup, Es_lst, Es_idx, Es_slc, Es_cb, Es_call, Es_callK, Es_rng, Es_frz, Es_lc, Eb_nil, Eb_one, Ei_nil, Ei_cons, It_seq, It_range, It_enum, It_zip, S_ex, S_asg, S_par, S_seti, S_app, S_ext, S_aug, S_augi, S_ret, S_ifs, S_for_, S_while_, S_never, Ss_nil, Ss_cons, getE_zero, getE_succ, ↓bind_rb, ↓ofR_rb, ↓rbk, ↓ork, rbk, ork, Bool.false_eq_true, if_false, oo_some, ob_some, om_some, getAll, OV.get, OV.refs, nodupN, putBack, set_zero, set_succ, List.set_cons_zero, List.set_cons_succ, bindT, bindTs, op2, List.contains_nil, List.contains_cons, Nat.reduceBEq, Bool.or_false, Bool.or_self, Bool.not_false, Bool.not_true, Bool.and_true, Bool.true_and, Bool.and_self, List.length_cons, List.length_nil, if_true, List.cons_append, List.nil_append, reduceIte, Nat.reduceLT, Nat.reduceAdd, prD, isD_tt, isD_ti, isD_lt, isD_li, isD_nt, isD_ni, isD_nb, isD_ii, isD_ib, isD_it, isD_bi, isD_bb, isD_bt, sz_0, sz_1, sz_2, sz_3, sz_4, sz_5, sz_6, sz_7, sz_8, sz_9, sz_10, sz_11, sz_12, sz_13, sz_14, sz_15, sz_16, sz_17, sz_18, sz_19, sz_20, D.own, oh, oc, oa, ot, orr, ownL, addD, isOwnL, D.frz, frzL, frz_idQ _ oh, frz_idQ _ oc, frz_idQ _ oa, frz_idQ _ ot, frz_idQ _ orr, sA, ↓e0, ↓e1]
theorem szl_0 : (0 < SZ) = True := by simp [SZ]
theorem szl_1 : (1 < SZ) = True := by simp [SZ]
theorem szl_2 : (2 < SZ) = True := by simp [SZ]
theorem szl_3 : (3 < SZ) = True := by simp [SZ]
theorem szl_4 : (4 < SZ) = True := by simp [SZ]
theorem szl_5 : (5 < SZ) = True := by simp [SZ]
theorem szl_6 : (6 < SZ) = True := by simp [SZ]
theorem szl_7 : (7 < SZ) = True := by simp [SZ]
theorem szl_8 : (8 < SZ) = True := by simp [SZ]
theorem szl_9 : (9 < SZ) = True := by simp [SZ]
theorem szl_10 : (10 < SZ) = True := by simp [SZ]
theorem szl_11 : (11 < SZ) = True := by simp [SZ]
theorem szl_12 : (12 < SZ) = True := by simp [SZ]
theorem pC {h c a t r : D} {b bc ba br bt : Bool} {n : Int} {F : D} (x : Fx h c a t r b bc ba br bt n F) (oh : h.own = false) (oc : c.own = false) (oa : a.own = false) (ot : t.own = false) (orr : r.own = false) : exSs (runN PQ 27) [0, 1, 2, 3, 4, 5] sC [some h, some (.bl b), some c, some a, some t, some r, some (.int n), some (.lst true [.tup [.str (PySem.Str.ofString "house"), h, .bl b]]), some (.lst true [.tup [.str (PySem.Str.ofString "house"), h, .bl b], .tup [.str (PySem.Str.ofString "crowd"), c, .bl bc]]), some known, some F, none, none, none, none, none, none] = .nx [some h, some (.bl b), some c, some a, some t, some r, some (.int n), some (.lst false [.tup [.str (PySem.Str.ofString "house"), h, .bl b]]), some (.lst false [.tup [.str (PySem.Str.ofString "house"), h, .bl b], .tup [.str (PySem.Str.ofString "crowd"), c, .bl bc]]), some known, some F, some (.lst true [.tup [.str (PySem.Str.ofString "arrows"), a, .bl ba]]), some (.lst false [.tup [.str (PySem.Str.ofString "house"), h, .bl b], .tup [.str (PySem.Str.ofString "crowd"), c, .bl bc], .tup [.str (PySem.Str.ofString "arrows"), a, .bl ba]]), some (.lst true [.tup [.clo 62 [], .lst false [.tup [.str (PySem.Str.ofString "house"), h, .bl b]]], .tup [.clo 63 [], .lst false [.tup [.str (PySem.Str.ofString "house"), h, .bl b]]], .tup [.clo 64 [], .lst false [.tup [.str (PySem.Str.ofString "house"), h, .bl b], .tup [.str (PySem.Str.ofString "arrows"), a, .bl ba], .tup [.str (PySem.Str.ofString "room"), r, .bl br]]], .tup [.clo 65 [], .lst true [.tup [.str (PySem.Str.ofString "house"), h, .bl b], .tup [.str (PySem.Str.ofString "arrows"), a, .bl ba]]], .tup [.clo 66 [], .lst true [.tup [.str (PySem.Str.ofString "house"), h, .bl b], .tup [.str (PySem.Str.ofString "arrows"), a, .bl ba]]], .tup [.clo 67 [], .lst false [.tup [.str (PySem.Str.ofString "house"), h, .bl b], .tup [.str (PySem.Str.ofString "crowd"), c, .bl bc], .tup [.str (PySem.Str.ofString "arrows"), a, .bl ba], .tup [.str (PySem.Str.ofString "ticks"), t, .bl bt]]], .tup [.clo 68 [], .lst false [.tup [.str (PySem.Str.ofString "house"), h, .bl b], .tup [.str (PySem.Str.ofString "crowd"), c, .bl bc], .tup [.str (PySem.Str.ofString "arrows"), a, .bl ba]]], .tup [.clo 69 [], .lst false [.tup [.str (PySem.Str.ofString "house"), h, .bl b], .tup [.str (PySem.Str.ofString "crowd"), c, .bl bc], .tup [.str (PySem.Str.ofString "arrows"), a, .bl ba]]], .tup [.clo 70 [], .lst false [.tup [.str (PySem.Str.ofString "house"), h, .bl b], .tup [.str (PySem.Str.ofString "crowd"), c, .bl bc], .tup [.str (PySem.Str.ofString "arrows"), a, .bl ba]]], .tup [.clo 71 [], .lst false [.tup [.str (PySem.Str.ofString "house"), h, .bl b], .tup [.str (PySem.Str.ofString "crowd"), c, .bl bc], .tup [.str (PySem.Str.ofString "arrows"), a, .bl ba]]], .tup [.clo 72 [], .lst false [.tup [.str (PySem.Str.ofString "house"), h, .bl b], .tup [.str (PySem.Str.ofString "crowd"), c, .bl bc]]], .tup [.clo 73 [], .lst false [.tup [.str (PySem.Str.ofString "house"), h, .bl b], .tup [.str (PySem.Str.ofString "crowd"), c, .bl bc]]]]), none, none, none] := by
  have e0 := x.A
  have e1 := x.R
  have e2 := x.T
  simp only [eA] at e0
  simp only [eR] at e1
  simp only [eT] at e2
  simp -dsimp only [E_lam, E_callM, E_isx, E_fld, Es_lam, Es_callM, Es_isx, Es_fld, E_const, E_glob, E_var, E_mov, E_op, E_isn, E_neg, E_notE, E_chain, E_andE, E_orE, E_ite, E_tup, E_lst, E_idx, E_slc, E_cb, E_call, E_callK, E_rng2, rngK_t, rngK_f, E_frz, Es_nil, Es_peek, Es_peekF, Es_star, Es_const, Es_glob, Es_var, Es_mov, Es_op, Es_isn, Es_neg, Es_notE, Es_chain, Es_andE, Es_orE, Es_ite, Es_tup, Es_lst, Es_idx, Es_slc, Es_cb, Es_call, Es_callK, Es_rng, Es_frz, Es_lc, Eb_nil, Eb_one, Ei_nil, Ei_cons, It_seq, It_range, It_enum, It_zip, S_ex, S_asg, S_par, S_seti, S_app, S_ext, S_aug, S_augi, S_ret, S_ifs, S_for_, S_while_, S_never, Ss_nil, Ss_cons, getE_zero, getE_succ, ↓bind_rb, ↓ofR_rb, ↓rbk, ↓ork, rbk, ork, Bool.false_eq_true, if_false, oo_some, ob_some, om_some, getAll, OV.get, OV.refs, nodupN, putBack, set_zero, set_succ, List.set_cons_zero, List.set_cons_succ, bindT, bindTs, op2, List.contains_nil, List.contains_cons, Nat.reduceBEq, Bool.or_false, Bool.or_self, Bool.not_false, Bool.not_true, Bool.and_true, Bool.true_and, Bool.and_self, List.length_cons, List.length_nil, if_true, List.cons_append, List.nil_append, reduceIte, Nat.reduceLT, Nat.reduceAdd, prD, isD_tt, isD_ti, isD_lt, isD_li, isD_nt, isD_ni, isD_nb, isD_ii, isD_ib, isD_it, isD_bi, isD_bb, isD_bt, sz_0, sz_1, sz_2, sz_3, sz_4, sz_5, sz_6, sz_7, sz_8, sz_9, sz_10, sz_11, sz_12, sz_13, sz_14, sz_15, sz_16, sz_17, sz_18, sz_19, sz_20, D.own, oh, oc, oa, ot, orr, ownL, addD, isOwnL, D.frz, frzL, frz_idQ _ oh, frz_idQ _ oc, frz_idQ _ oa, frz_idQ _ ot, frz_idQ _ orr, sC, ↓e0, ↓e1, ↓e2, szl_0, szl_1, szl_2, szl_3, szl_4, szl_5, szl_6, szl_7, szl_8, szl_9, szl_10, szl_11, szl_12]
def looks (h c a t r : D) (b bc ba br bt : Bool) : List D := [.tup [.clo 62 [.non, h], .lst false [.tup [.str (PySem.Str.ofString "house"), h, .bl b]]], .tup [.clo 63 [.non, h], .lst false [.tup [.str (PySem.Str.ofString "house"), h, .bl b]]], .tup [.clo 64 [.non, h, a, r], .lst false [.tup [.str (PySem.Str.ofString "house"), h, .bl b], .tup [.str (PySem.Str.ofString "arrows"), a, .bl ba], .tup [.str (PySem.Str.ofString "room"), r, .bl br]]], .tup [.clo 65 [.non, h, a], .lst false [.tup [.str (PySem.Str.ofString "house"), h, .bl b], .tup [.str (PySem.Str.ofString "arrows"), a, .bl ba]]], .tup [.clo 66 [.non, h, a], .lst false [.tup [.str (PySem.Str.ofString "house"), h, .bl b], .tup [.str (PySem.Str.ofString "arrows"), a, .bl ba]]], .tup [.clo 67 [.non, h, c, a, t], .lst false [.tup [.str (PySem.Str.ofString "house"), h, .bl b], .tup [.str (PySem.Str.ofString "crowd"), c, .bl bc], .tup [.str (PySem.Str.ofString "arrows"), a, .bl ba], .tup [.str (PySem.Str.ofString "ticks"), t, .bl bt]]], .tup [.clo 68 [.non, h, c, a], .lst false [.tup [.str (PySem.Str.ofString "house"), h, .bl b], .tup [.str (PySem.Str.ofString "crowd"), c, .bl bc], .tup [.str (PySem.Str.ofString "arrows"), a, .bl ba]]], .tup [.clo 69 [.non, h, c, a], .lst false [.tup [.str (PySem.Str.ofString "house"), h, .bl b], .tup [.str (PySem.Str.ofString "crowd"), c, .bl bc], .tup [.str (PySem.Str.ofString "arrows"), a, .bl ba]]], .tup [.clo 70 [.non, h, c, a], .lst false [.tup [.str (PySem.Str.ofString "house"), h, .bl b], .tup [.str (PySem.Str.ofString "crowd"), c, .bl bc], .tup [.str (PySem.Str.ofString "arrows"), a, .bl ba]]], .tup [.clo 71 [.non, h, c, a], .lst false [.tup [.str (PySem.Str.ofString "house"), h, .bl b], .tup [.str (PySem.Str.ofString "crowd"), c, .bl bc], .tup [.str (PySem.Str.ofString "arrows"), a, .bl ba]]], .tup [.clo 72 [.non, h, c], .lst false [.tup [.str (PySem.Str.ofString "house"), h, .bl b], .tup [.str (PySem.Str.ofString "crowd"), c, .bl bc]]], .tup [.clo 73 [.non, h, c], .lst false [.tup [.str (PySem.Str.ofString "house"), h, .bl b], .tup [.str (PySem.Str.ofString "crowd"), c, .bl bc]]]]
theorem frzC {h c a t r : D} (b bc ba br bt : Bool) (oh : h.own = false) (oc : c.own = false) (oa : a.own = false) (ot : t.own = false) (orr : r.own = false) : (D.lst true [.tup [.clo 62 [], .lst false [.tup [.str (PySem.Str.ofString "house"), h, .bl b]]], .tup [.clo 63 [], .lst false [.tup [.str (PySem.Str.ofString "house"), h, .bl b]]], .tup [.clo 64 [], .lst false [.tup [.str (PySem.Str.ofString "house"), h, .bl b], .tup [.str (PySem.Str.ofString "arrows"), a, .bl ba], .tup [.str (PySem.Str.ofString "room"), r, .bl br]]], .tup [.clo 65 [], .lst true [.tup [.str (PySem.Str.ofString "house"), h, .bl b], .tup [.str (PySem.Str.ofString "arrows"), a, .bl ba]]], .tup [.clo 66 [], .lst true [.tup [.str (PySem.Str.ofString "house"), h, .bl b], .tup [.str (PySem.Str.ofString "arrows"), a, .bl ba]]], .tup [.clo 67 [], .lst false [.tup [.str (PySem.Str.ofString "house"), h, .bl b], .tup [.str (PySem.Str.ofString "crowd"), c, .bl bc], .tup [.str (PySem.Str.ofString "arrows"), a, .bl ba], .tup [.str (PySem.Str.ofString "ticks"), t, .bl bt]]], .tup [.clo 68 [], .lst false [.tup [.str (PySem.Str.ofString "house"), h, .bl b], .tup [.str (PySem.Str.ofString "crowd"), c, .bl bc], .tup [.str (PySem.Str.ofString "arrows"), a, .bl ba]]], .tup [.clo 69 [], .lst false [.tup [.str (PySem.Str.ofString "house"), h, .bl b], .tup [.str (PySem.Str.ofString "crowd"), c, .bl bc], .tup [.str (PySem.Str.ofString "arrows"), a, .bl ba]]], .tup [.clo 70 [], .lst false [.tup [.str (PySem.Str.ofString "house"), h, .bl b], .tup [.str (PySem.Str.ofString "crowd"), c, .bl bc], .tup [.str (PySem.Str.ofString "arrows"), a, .bl ba]]], .tup [.clo 71 [], .lst false [.tup [.str (PySem.Str.ofString "house"), h, .bl b], .tup [.str (PySem.Str.ofString "crowd"), c, .bl bc], .tup [.str (PySem.Str.ofString "arrows"), a, .bl ba]]], .tup [.clo 72 [], .lst false [.tup [.str (PySem.Str.ofString "house"), h, .bl b], .tup [.str (PySem.Str.ofString "crowd"), c, .bl bc]]], .tup [.clo 73 [], .lst false [.tup [.str (PySem.Str.ofString "house"), h, .bl b], .tup [.str (PySem.Str.ofString "crowd"), c, .bl bc]]]]).frz = .lst false [.tup [.clo 62 [], .lst false [.tup [.str (PySem.Str.ofString "house"), h, .bl b]]], .tup [.clo 63 [], .lst false [.tup [.str (PySem.Str.ofString "house"), h, .bl b]]], .tup [.clo 64 [], .lst false [.tup [.str (PySem.Str.ofString "house"), h, .bl b], .tup [.str (PySem.Str.ofString "arrows"), a, .bl ba], .tup [.str (PySem.Str.ofString "room"), r, .bl br]]], .tup [.clo 65 [], .lst false [.tup [.str (PySem.Str.ofString "house"), h, .bl b], .tup [.str (PySem.Str.ofString "arrows"), a, .bl ba]]], .tup [.clo 66 [], .lst false [.tup [.str (PySem.Str.ofString "house"), h, .bl b], .tup [.str (PySem.Str.ofString "arrows"), a, .bl ba]]], .tup [.clo 67 [], .lst false [.tup [.str (PySem.Str.ofString "house"), h, .bl b], .tup [.str (PySem.Str.ofString "crowd"), c, .bl bc], .tup [.str (PySem.Str.ofString "arrows"), a, .bl ba], .tup [.str (PySem.Str.ofString "ticks"), t, .bl bt]]], .tup [.clo 68 [], .lst false [.tup [.str (PySem.Str.ofString "house"), h, .bl b], .tup [.str (PySem.Str.ofString "crowd"), c, .bl bc], .tup [.str (PySem.Str.ofString "arrows"), a, .bl ba]]], .tup [.clo 69 [], .lst false [.tup [.str (PySem.Str.ofString "house"), h, .bl b], .tup [.str (PySem.Str.ofString "crowd"), c, .bl bc], .tup [.str (PySem.Str.ofString "arrows"), a, .bl ba]]], .tup [.clo 70 [], .lst false [.tup [.str (PySem.Str.ofString "house"), h, .bl b], .tup [.str (PySem.Str.ofString "crowd"), c, .bl bc], .tup [.str (PySem.Str.ofString "arrows"), a, .bl ba]]], .tup [.clo 71 [], .lst false [.tup [.str (PySem.Str.ofString "house"), h, .bl b], .tup [.str (PySem.Str.ofString "crowd"), c, .bl bc], .tup [.str (PySem.Str.ofString "arrows"), a, .bl ba]]], .tup [.clo 72 [], .lst false [.tup [.str (PySem.Str.ofString "house"), h, .bl b], .tup [.str (PySem.Str.ofString "crowd"), c, .bl bc]]], .tup [.clo 73 [], .lst false [.tup [.str (PySem.Str.ofString "house"), h, .bl b], .tup [.str (PySem.Str.ofString "crowd"), c, .bl bc]]]] := by
  simp only [D.frz, frzL, frz_idQ _ oh, frz_idQ _ oc, frz_idQ _ oa, frz_idQ _ ot, frz_idQ _ orr]
theorem lkp_62 : List.lookup 62 ([(62, [0]), (63, [0]), (64, [0, 3, 5]), (65, [0, 3]), (66, [0, 3]), (67, [0, 2, 3, 4]), (68, [0, 2, 3]), (69, [0, 2, 3]), (70, [0, 2, 3]), (71, [0, 2, 3]), (72, [0, 2]), (73, [0, 2])] : List (Nat × List Nat)) = some [0] := rfl
theorem lkp_63 : List.lookup 63 ([(62, [0]), (63, [0]), (64, [0, 3, 5]), (65, [0, 3]), (66, [0, 3]), (67, [0, 2, 3, 4]), (68, [0, 2, 3]), (69, [0, 2, 3]), (70, [0, 2, 3]), (71, [0, 2, 3]), (72, [0, 2]), (73, [0, 2])] : List (Nat × List Nat)) = some [0] := rfl
theorem lkp_64 : List.lookup 64 ([(62, [0]), (63, [0]), (64, [0, 3, 5]), (65, [0, 3]), (66, [0, 3]), (67, [0, 2, 3, 4]), (68, [0, 2, 3]), (69, [0, 2, 3]), (70, [0, 2, 3]), (71, [0, 2, 3]), (72, [0, 2]), (73, [0, 2])] : List (Nat × List Nat)) = some [0, 3, 5] := rfl
theorem lkp_65 : List.lookup 65 ([(62, [0]), (63, [0]), (64, [0, 3, 5]), (65, [0, 3]), (66, [0, 3]), (67, [0, 2, 3, 4]), (68, [0, 2, 3]), (69, [0, 2, 3]), (70, [0, 2, 3]), (71, [0, 2, 3]), (72, [0, 2]), (73, [0, 2])] : List (Nat × List Nat)) = some [0, 3] := rfl
theorem lkp_66 : List.lookup 66 ([(62, [0]), (63, [0]), (64, [0, 3, 5]), (65, [0, 3]), (66, [0, 3]), (67, [0, 2, 3, 4]), (68, [0, 2, 3]), (69, [0, 2, 3]), (70, [0, 2, 3]), (71, [0, 2, 3]), (72, [0, 2]), (73, [0, 2])] : List (Nat × List Nat)) = some [0, 3] := rfl
theorem lkp_67 : List.lookup 67 ([(62, [0]), (63, [0]), (64, [0, 3, 5]), (65, [0, 3]), (66, [0, 3]), (67, [0, 2, 3, 4]), (68, [0, 2, 3]), (69, [0, 2, 3]), (70, [0, 2, 3]), (71, [0, 2, 3]), (72, [0, 2]), (73, [0, 2])] : List (Nat × List Nat)) = some [0, 2, 3, 4] := rfl
theorem lkp_68 : List.lookup 68 ([(62, [0]), (63, [0]), (64, [0, 3, 5]), (65, [0, 3]), (66, [0, 3]), (67, [0, 2, 3, 4]), (68, [0, 2, 3]), (69, [0, 2, 3]), (70, [0, 2, 3]), (71, [0, 2, 3]), (72, [0, 2]), (73, [0, 2])] : List (Nat × List Nat)) = some [0, 2, 3] := rfl
theorem lkp_69 : List.lookup 69 ([(62, [0]), (63, [0]), (64, [0, 3, 5]), (65, [0, 3]), (66, [0, 3]), (67, [0, 2, 3, 4]), (68, [0, 2, 3]), (69, [0, 2, 3]), (70, [0, 2, 3]), (71, [0, 2, 3]), (72, [0, 2]), (73, [0, 2])] : List (Nat × List Nat)) = some [0, 2, 3] := rfl
theorem lkp_70 : List.lookup 70 ([(62, [0]), (63, [0]), (64, [0, 3, 5]), (65, [0, 3]), (66, [0, 3]), (67, [0, 2, 3, 4]), (68, [0, 2, 3]), (69, [0, 2, 3]), (70, [0, 2, 3]), (71, [0, 2, 3]), (72, [0, 2]), (73, [0, 2])] : List (Nat × List Nat)) = some [0, 2, 3] := rfl
theorem lkp_71 : List.lookup 71 ([(62, [0]), (63, [0]), (64, [0, 3, 5]), (65, [0, 3]), (66, [0, 3]), (67, [0, 2, 3, 4]), (68, [0, 2, 3]), (69, [0, 2, 3]), (70, [0, 2, 3]), (71, [0, 2, 3]), (72, [0, 2]), (73, [0, 2])] : List (Nat × List Nat)) = some [0, 2, 3] := rfl
theorem lkp_72 : List.lookup 72 ([(62, [0]), (63, [0]), (64, [0, 3, 5]), (65, [0, 3]), (66, [0, 3]), (67, [0, 2, 3, 4]), (68, [0, 2, 3]), (69, [0, 2, 3]), (70, [0, 2, 3]), (71, [0, 2, 3]), (72, [0, 2]), (73, [0, 2])] : List (Nat × List Nat)) = some [0, 2] := rfl
theorem lkp_73 : List.lookup 73 ([(62, [0]), (63, [0]), (64, [0, 3, 5]), (65, [0, 3]), (66, [0, 3]), (67, [0, 2, 3, 4]), (68, [0, 2, 3]), (69, [0, 2, 3]), (70, [0, 2, 3]), (71, [0, 2, 3]), (72, [0, 2]), (73, [0, 2])] : List (Nat × List Nat)) = some [0, 2] := rfl
theorem cls {h c a t r : D} (b bc ba br bt : Bool) (x6 x7 x8 x9 x10 x11 x12 x13 : Option D) (oh : h.own = false) (oc : c.own = false) (oa : a.own = false) (ot : t.own = false) (orr : r.own = false) (ph : h.plain = true) (pc : c.plain = true) (pa : a.plain = true) (pt : t.plain = true) (pr : r.plain = true) : closeL [(62, [0]), (63, [0]), (64, [0, 3, 5]), (65, [0, 3]), (66, [0, 3]), (67, [0, 2, 3, 4]), (68, [0, 2, 3]), (69, [0, 2, 3]), (70, [0, 2, 3]), (71, [0, 2, 3]), (72, [0, 2]), (73, [0, 2])] [some h, some (.bl b), some c, some a, some t, some r, x6, x7, x8, x9, x10, x11, x12, x13, none, none, none] [.tup [.clo 62 [], .lst false [.tup [.str (PySem.Str.ofString "house"), h, .bl b]]], .tup [.clo 63 [], .lst false [.tup [.str (PySem.Str.ofString "house"), h, .bl b]]], .tup [.clo 64 [], .lst false [.tup [.str (PySem.Str.ofString "house"), h, .bl b], .tup [.str (PySem.Str.ofString "arrows"), a, .bl ba], .tup [.str (PySem.Str.ofString "room"), r, .bl br]]], .tup [.clo 65 [], .lst false [.tup [.str (PySem.Str.ofString "house"), h, .bl b], .tup [.str (PySem.Str.ofString "arrows"), a, .bl ba]]], .tup [.clo 66 [], .lst false [.tup [.str (PySem.Str.ofString "house"), h, .bl b], .tup [.str (PySem.Str.ofString "arrows"), a, .bl ba]]], .tup [.clo 67 [], .lst false [.tup [.str (PySem.Str.ofString "house"), h, .bl b], .tup [.str (PySem.Str.ofString "crowd"), c, .bl bc], .tup [.str (PySem.Str.ofString "arrows"), a, .bl ba], .tup [.str (PySem.Str.ofString "ticks"), t, .bl bt]]], .tup [.clo 68 [], .lst false [.tup [.str (PySem.Str.ofString "house"), h, .bl b], .tup [.str (PySem.Str.ofString "crowd"), c, .bl bc], .tup [.str (PySem.Str.ofString "arrows"), a, .bl ba]]], .tup [.clo 69 [], .lst false [.tup [.str (PySem.Str.ofString "house"), h, .bl b], .tup [.str (PySem.Str.ofString "crowd"), c, .bl bc], .tup [.str (PySem.Str.ofString "arrows"), a, .bl ba]]], .tup [.clo 70 [], .lst false [.tup [.str (PySem.Str.ofString "house"), h, .bl b], .tup [.str (PySem.Str.ofString "crowd"), c, .bl bc], .tup [.str (PySem.Str.ofString "arrows"), a, .bl ba]]], .tup [.clo 71 [], .lst false [.tup [.str (PySem.Str.ofString "house"), h, .bl b], .tup [.str (PySem.Str.ofString "crowd"), c, .bl bc], .tup [.str (PySem.Str.ofString "arrows"), a, .bl ba]]], .tup [.clo 72 [], .lst false [.tup [.str (PySem.Str.ofString "house"), h, .bl b], .tup [.str (PySem.Str.ofString "crowd"), c, .bl bc]]], .tup [.clo 73 [], .lst false [.tup [.str (PySem.Str.ofString "house"), h, .bl b], .tup [.str (PySem.Str.ofString "crowd"), c, .bl bc]]]] = some (looks h c a t r b bc ba br bt) := by
  have ch := fun ks ρ => closeD_id ks ρ h ph oh
  have cc := fun ks ρ => closeD_id ks ρ c pc oc
  have ca := fun ks ρ => closeD_id ks ρ a pa oa
  have ct := fun ks ρ => closeD_id ks ρ t pt ot
  have cr := fun ks ρ => closeD_id ks ρ r pr orr
  simp only [closeL, closeD, ch, cc, ca, ct, cr, lkp_62, lkp_63, lkp_64, lkp_65, lkp_66, lkp_67, lkp_68, lkp_69, lkp_70, lkp_71, lkp_72, lkp_73, getPl, getE_zero, getE_succ, ph, pc, pa, pt, pr, oh, oc, oa, ot, orr, Bool.not_false, Bool.and_self, if_true, Option.map_some, looks]
/-- all looks are as they are due: the last line of are_right -/
theorem ask (Φ : Fns) (ds : List D) (h : ∀ d ∈ ds, ∃ y z, d = .tup [y, z] ∧ y.own = false ∧ z.own = false ∧ Φ 58 [y, z] = .ok (.bl true) [y, z]) :
    ∃ es, ∃ ρ', lcLoop (fun d ρ2 => match bindT [] (.tup [(.slot 14), (.slot 15)]) d (wipeE [14, 15] ρ2) with
      | some ρ3 => (ev Φ (.frz (.call 58 [.peek 14, .peek 15])) ρ3).bind fun e ρ4 => .ok (some e) ρ4
      | none => .stk) ds [] (List.replicate 17 none) = .ok es ρ' ∧ es = List.replicate ds.length (.bl true) := by
  have key : ∀ d ∈ ds, ∀ (n : Nat) ρ, (∃ y z, ρ = [none, none, none, none, none, none, none, none, none, none, none, none, none, none, y, z, none]) → ∃ e ρ', (match bindT [] (.tup [(.slot 14), (.slot 15)]) d (wipeE [14, 15] ρ) with
      | some ρ3 => (ev Φ (.frz (.call 58 [.peek 14, .peek 15])) ρ3).bind fun e ρ4 => R.ok (some e) ρ4
      | none => .stk) = R.ok (some e) ρ' ∧ (∃ y z, ρ' = [none, none, none, none, none, none, none, none, none, none, none, none, none, none, y, z, none]) ∧ e = D.bl true := by
    rintro d hd n ρ ⟨y0, z0, rfl⟩
    obtain ⟨y, z, rfl, hy, hz, hc⟩ := h d hd
    refine ⟨.bl true, [none, none, none, none, none, none, none, none, none, none, none, none, none, none, some y, some z, none], ?_, ⟨_, _, rfl⟩, rfl⟩
    simp -dsimp only [E_lam, E_callM, E_isx, E_fld, Es_lam, Es_callM, Es_isx, Es_fld, E_const, E_glob, E_var, E_mov, E_op, E_isn, E_neg, E_notE, E_chain, E_andE, E_orE, E_ite, E_tup, E_lst, E_idx, E_slc, E_cb, E_call, E_callK, E_rng2, rngK_t, rngK_f, E_frz, Es_nil, Es_peek, Es_peekF, Es_star, Es_const, Es_glob, Es_var, Es_mov, Es_op, Es_isn, Es_neg, Es_notE, Es_chain, Es_andE, Es_orE, Es_ite, Es_tup, Es_lst, Es_idx, Es_slc, Es_cb, Es_call, Es_callK, Es_rng, Es_frz, Es_lc, Eb_nil, Eb_one, Ei_nil, Ei_cons, It_seq, It_range, It_enum, It_zip, S_ex, S_asg, S_par, S_seti, S_app, S_ext, S_aug, S_augi, S_ret, S_ifs, S_for_, S_while_, S_never, Ss_nil, Ss_cons, getE_zero, getE_succ, ↓bind_rb, ↓ofR_rb, ↓rbk, ↓ork, rbk, ork, Bool.false_eq_true, if_false, oo_some, ob_some, om_some, getAll, OV.get, OV.refs, nodupN, putBack, set_zero, set_succ, List.set_cons_zero, List.set_cons_succ, bindT, bindTs, op2, List.contains_nil, List.contains_cons, Nat.reduceBEq, Bool.or_false, Bool.or_self, Bool.not_false, Bool.not_true, Bool.and_true, Bool.true_and, Bool.and_self, List.length_cons, List.length_nil, if_true, List.cons_append, List.nil_append, reduceIte, Nat.reduceLT, Nat.reduceAdd, prD, isD_tt, isD_ti, isD_lt, isD_li, isD_nt, isD_ni, isD_nb, isD_ii, isD_ib, isD_it, isD_bi, isD_bb, isD_bt, sz_0, sz_1, sz_2, sz_3, sz_4, sz_5, sz_6, sz_7, sz_8, sz_9, sz_10, sz_11, sz_12, sz_13, sz_14, sz_15, sz_16, sz_17, sz_18, sz_19, sz_20, wipeE, hy, hz, hc, D.frz, D.own, ownL]
  obtain ⟨es, ρ', e, _, hl, hq⟩ := lcLoop_st _ (fun _ ρ => ∃ y z, ρ = [none, none, none, none, none, none, none, none, none, none, none, none, none, none, y, z, none]) (fun e => e = .bl true) ds [] 0 (List.replicate 17 none) ⟨none, none, rfl⟩ key
  exact ⟨es, ρ', by simpa using e, List.eq_replicate_iff.2 ⟨hl, hq⟩⟩
theorem allT : ∀ n, boolsOf (List.replicate n (.bl true)) = some (List.replicate n true)
  | 0 => rfl
  | n + 1 => by simp [List.replicate_succ, boolsOf, allT n]
theorem plT : ∀ n, plainL (List.replicate n (.bl true)) = true ∧ ownL (List.replicate n (.bl true)) = false
  | 0 => ⟨rfl, rfl⟩
  | n + 1 => by simp [List.replicate_succ, plainL, ownL, D.plain, D.own, allT n, plT n]
end LW
end

section
set_option linter.all false
set_option maxRecDepth 100000
set_option maxHeartbeats 1000000
namespace LW
open Mi
def Es_lcM := fun Φ ρ a b c d e r => nr (evs.eq_5 Φ ρ (IE.lcM a b c d e) r (fun _ h => nomatch h) (fun _ h => nomatch h) (fun _ h => nomatch h))
theorem dues_all {h c a t r : D} {b bc ba br bt : Bool} (x : Dr h c a t r b bc ba br bt) : ∀ d ∈ looks h c a t r b bc ba br bt, ∃ y z, d = .tup [y, z] ∧ y.own = false ∧ z.own = false ∧ runN PQ 27 58 [y, z] = .ok (.bl true) [y, z] := by
  have vh := valB_iff x.hv
  have vc := valB_iff x.cv
  have va := valB_iff x.av
  have vt := valB_iff x.tv
  have vr := valB_iff x.rv
  intro d hd
  simp only [looks, List.mem_cons, List.not_mem_nil, or_false] at hd
  rcases hd with rfl | rfl | rfl | rfl | rfl | rfl | rfl | rfl | rfl | rfl | rfl | rfl
  · exact ⟨_, _, rfl, by simp [D.own, ownL, vh.2.1, vc.2.1, va.2.1, vt.2.1, vr.2.1], by simp [D.own, ownL, vh.2.1, vc.2.1, va.2.1, vt.2.1, vr.2.1], du62 x⟩
  · exact ⟨_, _, rfl, by simp [D.own, ownL, vh.2.1, vc.2.1, va.2.1, vt.2.1, vr.2.1], by simp [D.own, ownL, vh.2.1, vc.2.1, va.2.1, vt.2.1, vr.2.1], du63 x⟩
  · exact ⟨_, _, rfl, by simp [D.own, ownL, vh.2.1, vc.2.1, va.2.1, vt.2.1, vr.2.1], by simp [D.own, ownL, vh.2.1, vc.2.1, va.2.1, vt.2.1, vr.2.1], du64 x⟩
  · exact ⟨_, _, rfl, by simp [D.own, ownL, vh.2.1, vc.2.1, va.2.1, vt.2.1, vr.2.1], by simp [D.own, ownL, vh.2.1, vc.2.1, va.2.1, vt.2.1, vr.2.1], du65 x⟩
  · exact ⟨_, _, rfl, by simp [D.own, ownL, vh.2.1, vc.2.1, va.2.1, vt.2.1, vr.2.1], by simp [D.own, ownL, vh.2.1, vc.2.1, va.2.1, vt.2.1, vr.2.1], du66 x⟩
  · exact ⟨_, _, rfl, by simp [D.own, ownL, vh.2.1, vc.2.1, va.2.1, vt.2.1, vr.2.1], by simp [D.own, ownL, vh.2.1, vc.2.1, va.2.1, vt.2.1, vr.2.1], du67 x⟩
  · exact ⟨_, _, rfl, by simp [D.own, ownL, vh.2.1, vc.2.1, va.2.1, vt.2.1, vr.2.1], by simp [D.own, ownL, vh.2.1, vc.2.1, va.2.1, vt.2.1, vr.2.1], du68 x⟩
  · exact ⟨_, _, rfl, by simp [D.own, ownL, vh.2.1, vc.2.1, va.2.1, vt.2.1, vr.2.1], by simp [D.own, ownL, vh.2.1, vc.2.1, va.2.1, vt.2.1, vr.2.1], du69 x⟩
  · exact ⟨_, _, rfl, by simp [D.own, ownL, vh.2.1, vc.2.1, va.2.1, vt.2.1, vr.2.1], by simp [D.own, ownL, vh.2.1, vc.2.1, va.2.1, vt.2.1, vr.2.1], du70 x⟩
  · exact ⟨_, _, rfl, by simp [D.own, ownL, vh.2.1, vc.2.1, va.2.1, vt.2.1, vr.2.1], by simp [D.own, ownL, vh.2.1, vc.2.1, va.2.1, vt.2.1, vr.2.1], du71 x⟩
  · exact ⟨_, _, rfl, by simp [D.own, ownL, vh.2.1, vc.2.1, va.2.1, vt.2.1, vr.2.1], by simp [D.own, ownL, vh.2.1, vc.2.1, va.2.1, vt.2.1, vr.2.1], du72 x⟩
  · exact ⟨_, _, rfl, by simp [D.own, ownL, vh.2.1, vc.2.1, va.2.1, vt.2.1, vr.2.1], by simp [D.own, ownL, vh.2.1, vc.2.1, va.2.1, vt.2.1, vr.2.1], du73 x⟩
theorem pD {h c a t r : D} {b bc ba br bt : Bool} {n : Int} {F : D} (x : Dr h c a t r b bc ba br bt) : exSs (runN PQ 27) [0, 1, 2, 3, 4, 5] sD [some h, some (.bl b), some c, some a, some t, some r, some (.int n), some (.lst false [.tup [.str (PySem.Str.ofString "house"), h, .bl b]]), some (.lst false [.tup [.str (PySem.Str.ofString "house"), h, .bl b], .tup [.str (PySem.Str.ofString "crowd"), c, .bl bc]]), some known, some F, some (.lst true [.tup [.str (PySem.Str.ofString "arrows"), a, .bl ba]]), some (.lst false [.tup [.str (PySem.Str.ofString "house"), h, .bl b], .tup [.str (PySem.Str.ofString "crowd"), c, .bl bc], .tup [.str (PySem.Str.ofString "arrows"), a, .bl ba]]), some (.lst true [.tup [.clo 62 [], .lst false [.tup [.str (PySem.Str.ofString "house"), h, .bl b]]], .tup [.clo 63 [], .lst false [.tup [.str (PySem.Str.ofString "house"), h, .bl b]]], .tup [.clo 64 [], .lst false [.tup [.str (PySem.Str.ofString "house"), h, .bl b], .tup [.str (PySem.Str.ofString "arrows"), a, .bl ba], .tup [.str (PySem.Str.ofString "room"), r, .bl br]]], .tup [.clo 65 [], .lst true [.tup [.str (PySem.Str.ofString "house"), h, .bl b], .tup [.str (PySem.Str.ofString "arrows"), a, .bl ba]]], .tup [.clo 66 [], .lst true [.tup [.str (PySem.Str.ofString "house"), h, .bl b], .tup [.str (PySem.Str.ofString "arrows"), a, .bl ba]]], .tup [.clo 67 [], .lst false [.tup [.str (PySem.Str.ofString "house"), h, .bl b], .tup [.str (PySem.Str.ofString "crowd"), c, .bl bc], .tup [.str (PySem.Str.ofString "arrows"), a, .bl ba], .tup [.str (PySem.Str.ofString "ticks"), t, .bl bt]]], .tup [.clo 68 [], .lst false [.tup [.str (PySem.Str.ofString "house"), h, .bl b], .tup [.str (PySem.Str.ofString "crowd"), c, .bl bc], .tup [.str (PySem.Str.ofString "arrows"), a, .bl ba]]], .tup [.clo 69 [], .lst false [.tup [.str (PySem.Str.ofString "house"), h, .bl b], .tup [.str (PySem.Str.ofString "crowd"), c, .bl bc], .tup [.str (PySem.Str.ofString "arrows"), a, .bl ba]]], .tup [.clo 70 [], .lst false [.tup [.str (PySem.Str.ofString "house"), h, .bl b], .tup [.str (PySem.Str.ofString "crowd"), c, .bl bc], .tup [.str (PySem.Str.ofString "arrows"), a, .bl ba]]], .tup [.clo 71 [], .lst false [.tup [.str (PySem.Str.ofString "house"), h, .bl b], .tup [.str (PySem.Str.ofString "crowd"), c, .bl bc], .tup [.str (PySem.Str.ofString "arrows"), a, .bl ba]]], .tup [.clo 72 [], .lst false [.tup [.str (PySem.Str.ofString "house"), h, .bl b], .tup [.str (PySem.Str.ofString "crowd"), c, .bl bc]]], .tup [.clo 73 [], .lst false [.tup [.str (PySem.Str.ofString "house"), h, .bl b], .tup [.str (PySem.Str.ofString "crowd"), c, .bl bc]]]]), none, none, none] = .ret (.bl true) [some h, some (.bl b), some c, some a, some t, some r, some (.int n), some (.lst false [.tup [.str (PySem.Str.ofString "house"), h, .bl b]]), some (.lst false [.tup [.str (PySem.Str.ofString "house"), h, .bl b], .tup [.str (PySem.Str.ofString "crowd"), c, .bl bc]]), some known, some F, some (.lst true [.tup [.str (PySem.Str.ofString "arrows"), a, .bl ba]]), some (.lst false [.tup [.str (PySem.Str.ofString "house"), h, .bl b], .tup [.str (PySem.Str.ofString "crowd"), c, .bl bc], .tup [.str (PySem.Str.ofString "arrows"), a, .bl ba]]), some (.lst false [.tup [.clo 62 [], .lst false [.tup [.str (PySem.Str.ofString "house"), h, .bl b]]], .tup [.clo 63 [], .lst false [.tup [.str (PySem.Str.ofString "house"), h, .bl b]]], .tup [.clo 64 [], .lst false [.tup [.str (PySem.Str.ofString "house"), h, .bl b], .tup [.str (PySem.Str.ofString "arrows"), a, .bl ba], .tup [.str (PySem.Str.ofString "room"), r, .bl br]]], .tup [.clo 65 [], .lst false [.tup [.str (PySem.Str.ofString "house"), h, .bl b], .tup [.str (PySem.Str.ofString "arrows"), a, .bl ba]]], .tup [.clo 66 [], .lst false [.tup [.str (PySem.Str.ofString "house"), h, .bl b], .tup [.str (PySem.Str.ofString "arrows"), a, .bl ba]]], .tup [.clo 67 [], .lst false [.tup [.str (PySem.Str.ofString "house"), h, .bl b], .tup [.str (PySem.Str.ofString "crowd"), c, .bl bc], .tup [.str (PySem.Str.ofString "arrows"), a, .bl ba], .tup [.str (PySem.Str.ofString "ticks"), t, .bl bt]]], .tup [.clo 68 [], .lst false [.tup [.str (PySem.Str.ofString "house"), h, .bl b], .tup [.str (PySem.Str.ofString "crowd"), c, .bl bc], .tup [.str (PySem.Str.ofString "arrows"), a, .bl ba]]], .tup [.clo 69 [], .lst false [.tup [.str (PySem.Str.ofString "house"), h, .bl b], .tup [.str (PySem.Str.ofString "crowd"), c, .bl bc], .tup [.str (PySem.Str.ofString "arrows"), a, .bl ba]]], .tup [.clo 70 [], .lst false [.tup [.str (PySem.Str.ofString "house"), h, .bl b], .tup [.str (PySem.Str.ofString "crowd"), c, .bl bc], .tup [.str (PySem.Str.ofString "arrows"), a, .bl ba]]], .tup [.clo 71 [], .lst false [.tup [.str (PySem.Str.ofString "house"), h, .bl b], .tup [.str (PySem.Str.ofString "crowd"), c, .bl bc], .tup [.str (PySem.Str.ofString "arrows"), a, .bl ba]]], .tup [.clo 72 [], .lst false [.tup [.str (PySem.Str.ofString "house"), h, .bl b], .tup [.str (PySem.Str.ofString "crowd"), c, .bl bc]]], .tup [.clo 73 [], .lst false [.tup [.str (PySem.Str.ofString "house"), h, .bl b], .tup [.str (PySem.Str.ofString "crowd"), c, .bl bc]]]]), none, none, none] := by
  have vh := valB_iff x.hv
  have vc := valB_iff x.cv
  have va := valB_iff x.av
  have vt := valB_iff x.tv
  have vr := valB_iff x.rv
  have fz := frzC (h := h) (c := c) (a := a) (t := t) (r := r) b bc ba br bt vh.2.1 vc.2.1 va.2.1 vt.2.1 vr.2.1
  have cl := fun x6 x7 x8 x9 x10 x11 x12 x13 => cls (h := h) (c := c) (a := a) (t := t) (r := r) b bc ba br bt x6 x7 x8 x9 x10 x11 x12 x13 vh.2.1 vc.2.1 va.2.1 vt.2.1 vr.2.1 vh.1 vc.1 va.1 vt.1 vr.1
  obtain ⟨es, ρ', he, hes⟩ := ask (runN PQ 27) _ (dues_all x)
  have hl : (looks h c a t r b bc ba br bt).length = 12 := rfl
  rw [hl] at hes
  have ev1 : ev (runN PQ 27) (.lcM [(62, [0]), (63, [0]), (64, [0, 3, 5]), (65, [0, 3]), (66, [0, 3]), (67, [0, 2, 3, 4]), (68, [0, 2, 3]), (69, [0, 2, 3]), (70, [0, 2, 3]), (71, [0, 2, 3]), (72, [0, 2]), (73, [0, 2])] [14, 15] (.tup [(.slot 14), (.slot 15)]) 13 (.frz (.call 58 [.peek 14, .peek 15]))) [some h, some (.bl b), some c, some a, some t, some r, some (.int n), some (.lst false [.tup [.str (PySem.Str.ofString "house"), h, .bl b]]), some (.lst false [.tup [.str (PySem.Str.ofString "house"), h, .bl b], .tup [.str (PySem.Str.ofString "crowd"), c, .bl bc]]), some known, some F, some (.lst true [.tup [.str (PySem.Str.ofString "arrows"), a, .bl ba]]), some (.lst false [.tup [.str (PySem.Str.ofString "house"), h, .bl b], .tup [.str (PySem.Str.ofString "crowd"), c, .bl bc], .tup [.str (PySem.Str.ofString "arrows"), a, .bl ba]]), some (.lst true [.tup [.clo 62 [], .lst false [.tup [.str (PySem.Str.ofString "house"), h, .bl b]]], .tup [.clo 63 [], .lst false [.tup [.str (PySem.Str.ofString "house"), h, .bl b]]], .tup [.clo 64 [], .lst false [.tup [.str (PySem.Str.ofString "house"), h, .bl b], .tup [.str (PySem.Str.ofString "arrows"), a, .bl ba], .tup [.str (PySem.Str.ofString "room"), r, .bl br]]], .tup [.clo 65 [], .lst true [.tup [.str (PySem.Str.ofString "house"), h, .bl b], .tup [.str (PySem.Str.ofString "arrows"), a, .bl ba]]], .tup [.clo 66 [], .lst true [.tup [.str (PySem.Str.ofString "house"), h, .bl b], .tup [.str (PySem.Str.ofString "arrows"), a, .bl ba]]], .tup [.clo 67 [], .lst false [.tup [.str (PySem.Str.ofString "house"), h, .bl b], .tup [.str (PySem.Str.ofString "crowd"), c, .bl bc], .tup [.str (PySem.Str.ofString "arrows"), a, .bl ba], .tup [.str (PySem.Str.ofString "ticks"), t, .bl bt]]], .tup [.clo 68 [], .lst false [.tup [.str (PySem.Str.ofString "house"), h, .bl b], .tup [.str (PySem.Str.ofString "crowd"), c, .bl bc], .tup [.str (PySem.Str.ofString "arrows"), a, .bl ba]]], .tup [.clo 69 [], .lst false [.tup [.str (PySem.Str.ofString "house"), h, .bl b], .tup [.str (PySem.Str.ofString "crowd"), c, .bl bc], .tup [.str (PySem.Str.ofString "arrows"), a, .bl ba]]], .tup [.clo 70 [], .lst false [.tup [.str (PySem.Str.ofString "house"), h, .bl b], .tup [.str (PySem.Str.ofString "crowd"), c, .bl bc], .tup [.str (PySem.Str.ofString "arrows"), a, .bl ba]]], .tup [.clo 71 [], .lst false [.tup [.str (PySem.Str.ofString "house"), h, .bl b], .tup [.str (PySem.Str.ofString "crowd"), c, .bl bc], .tup [.str (PySem.Str.ofString "arrows"), a, .bl ba]]], .tup [.clo 72 [], .lst false [.tup [.str (PySem.Str.ofString "house"), h, .bl b], .tup [.str (PySem.Str.ofString "crowd"), c, .bl bc]]], .tup [.clo 73 [], .lst false [.tup [.str (PySem.Str.ofString "house"), h, .bl b], .tup [.str (PySem.Str.ofString "crowd"), c, .bl bc]]]]), none, none, none] = .ok (.lst true es) [some h, some (.bl b), some c, some a, some t, some r, some (.int n), some (.lst false [.tup [.str (PySem.Str.ofString "house"), h, .bl b]]), some (.lst false [.tup [.str (PySem.Str.ofString "house"), h, .bl b], .tup [.str (PySem.Str.ofString "crowd"), c, .bl bc]]), some known, some F, some (.lst true [.tup [.str (PySem.Str.ofString "arrows"), a, .bl ba]]), some (.lst false [.tup [.str (PySem.Str.ofString "house"), h, .bl b], .tup [.str (PySem.Str.ofString "crowd"), c, .bl bc], .tup [.str (PySem.Str.ofString "arrows"), a, .bl ba]]), some (.lst false [.tup [.clo 62 [], .lst false [.tup [.str (PySem.Str.ofString "house"), h, .bl b]]], .tup [.clo 63 [], .lst false [.tup [.str (PySem.Str.ofString "house"), h, .bl b]]], .tup [.clo 64 [], .lst false [.tup [.str (PySem.Str.ofString "house"), h, .bl b], .tup [.str (PySem.Str.ofString "arrows"), a, .bl ba], .tup [.str (PySem.Str.ofString "room"), r, .bl br]]], .tup [.clo 65 [], .lst false [.tup [.str (PySem.Str.ofString "house"), h, .bl b], .tup [.str (PySem.Str.ofString "arrows"), a, .bl ba]]], .tup [.clo 66 [], .lst false [.tup [.str (PySem.Str.ofString "house"), h, .bl b], .tup [.str (PySem.Str.ofString "arrows"), a, .bl ba]]], .tup [.clo 67 [], .lst false [.tup [.str (PySem.Str.ofString "house"), h, .bl b], .tup [.str (PySem.Str.ofString "crowd"), c, .bl bc], .tup [.str (PySem.Str.ofString "arrows"), a, .bl ba], .tup [.str (PySem.Str.ofString "ticks"), t, .bl bt]]], .tup [.clo 68 [], .lst false [.tup [.str (PySem.Str.ofString "house"), h, .bl b], .tup [.str (PySem.Str.ofString "crowd"), c, .bl bc], .tup [.str (PySem.Str.ofString "arrows"), a, .bl ba]]], .tup [.clo 69 [], .lst false [.tup [.str (PySem.Str.ofString "house"), h, .bl b], .tup [.str (PySem.Str.ofString "crowd"), c, .bl bc], .tup [.str (PySem.Str.ofString "arrows"), a, .bl ba]]], .tup [.clo 70 [], .lst false [.tup [.str (PySem.Str.ofString "house"), h, .bl b], .tup [.str (PySem.Str.ofString "crowd"), c, .bl bc], .tup [.str (PySem.Str.ofString "arrows"), a, .bl ba]]], .tup [.clo 71 [], .lst false [.tup [.str (PySem.Str.ofString "house"), h, .bl b], .tup [.str (PySem.Str.ofString "crowd"), c, .bl bc], .tup [.str (PySem.Str.ofString "arrows"), a, .bl ba]]], .tup [.clo 72 [], .lst false [.tup [.str (PySem.Str.ofString "house"), h, .bl b], .tup [.str (PySem.Str.ofString "crowd"), c, .bl bc]]], .tup [.clo 73 [], .lst false [.tup [.str (PySem.Str.ofString "house"), h, .bl b], .tup [.str (PySem.Str.ofString "crowd"), c, .bl bc]]]]), none, none, none] := by
    rw [ev.eq_25]
    simp only [getE_zero, getE_succ, fz, set_succ, set_zero, cl, hl, sz_12, if_true, List.length_cons, List.length_nil, Nat.reduceAdd]
    generalize hq : lcLoop _ _ _ _ = q
    have hq2 : q = R.ok es ρ' := hq.symm.trans he
    subst hq2
    simp only [hes, (plT 12).1, (plT 12).2, Bool.not_false, Bool.and_self, if_true]
  simp -dsimp only [E_lam, E_callM, E_isx, E_fld, Es_lam, Es_callM, Es_isx, Es_fld, E_const, E_glob, E_var, E_mov, E_op, E_isn, E_neg, E_notE, E_chain, E_andE, E_orE, E_ite, E_tup, E_lst, E_idx, E_slc, E_cb, E_call, E_callK, E_rng2, rngK_t, rngK_f, E_frz, Es_nil, Es_peek, Es_peekF, Es_star, Es_const, Es_glob, Es_var, Es_mov, Es_op, Es_isn, Es_neg, Es_notE, Es_chain, Es_andE, Es_orE, Es_ite, Es_tup, Es_lst, Es_idx, Es_slc, Es_cb, Es_call, Es_callK, Es_rng, Es_frz, Es_lc, Eb_nil, Eb_one, Ei_nil, Ei_cons, It_seq, It_range, It_enum, It_zip, S_ex, S_asg, S_par, S_seti, S_app, S_ext, S_aug, S_augi, S_ret, S_ifs, S_for_, S_while_, S_never, Ss_nil, Ss_cons, getE_zero, getE_succ, ↓bind_rb, ↓ofR_rb, ↓rbk, ↓ork, rbk, ork, Bool.false_eq_true, if_false, oo_some, ob_some, om_some, getAll, OV.get, OV.refs, nodupN, putBack, set_zero, set_succ, List.set_cons_zero, List.set_cons_succ, bindT, bindTs, op2, List.contains_nil, List.contains_cons, Nat.reduceBEq, Bool.or_false, Bool.or_self, Bool.not_false, Bool.not_true, Bool.and_true, Bool.true_and, Bool.and_self, List.length_cons, List.length_nil, if_true, List.cons_append, List.nil_append, reduceIte, Nat.reduceLT, Nat.reduceAdd, prD, isD_tt, isD_ti, isD_lt, isD_li, isD_nt, isD_ni, isD_nb, isD_ii, isD_ib, isD_it, isD_bi, isD_bb, isD_bt, sz_0, sz_1, sz_2, sz_3, sz_4, sz_5, sz_6, sz_7, sz_8, sz_9, sz_10, sz_11, sz_12, sz_13, sz_14, sz_15, sz_16, sz_17, sz_18, sz_19, sz_20, sD, Es_lcM, ↓ev1, allD, hes, allT 12, Option.map_some]
  rfl
theorem right {h c a t r : D} {b bc ba br bt : Bool} (x : Dr h c a t r b bc ba br bt) : runN PQ 28 59 [h, .bl b, c, a, t, r] = .ok (.bl true) [h, .bl b, c, a, t, r] := by
  have vh := valB_iff x.hv
  have vc := valB_iff x.cv
  have va := valB_iff x.av
  have vt := valB_iff x.tv
  have vr := valB_iff x.rv
  obtain ⟨n, F, f⟩ := x.fx
  refine run_retM (lk := [0, 1, 2, 3, 4, 5]) (ρ0 := [some h, some (.bl b), some c, some a, some t, some r, none, none, none, none, none, none, none, none, none, none, none]) (ρ1 := [some h, some (.bl b), some c, some a, some t, some r, some (.int n), some (.lst false [.tup [.str (PySem.Str.ofString "house"), h, .bl b]]), some (.lst false [.tup [.str (PySem.Str.ofString "house"), h, .bl b], .tup [.str (PySem.Str.ofString "crowd"), c, .bl bc]]), some known, some F, some (.lst true [.tup [.str (PySem.Str.ofString "arrows"), a, .bl ba]]), some (.lst false [.tup [.str (PySem.Str.ofString "house"), h, .bl b], .tup [.str (PySem.Str.ofString "crowd"), c, .bl bc], .tup [.str (PySem.Str.ofString "arrows"), a, .bl ba]]), some (.lst false [.tup [.clo 62 [], .lst false [.tup [.str (PySem.Str.ofString "house"), h, .bl b]]], .tup [.clo 63 [], .lst false [.tup [.str (PySem.Str.ofString "house"), h, .bl b]]], .tup [.clo 64 [], .lst false [.tup [.str (PySem.Str.ofString "house"), h, .bl b], .tup [.str (PySem.Str.ofString "arrows"), a, .bl ba], .tup [.str (PySem.Str.ofString "room"), r, .bl br]]], .tup [.clo 65 [], .lst false [.tup [.str (PySem.Str.ofString "house"), h, .bl b], .tup [.str (PySem.Str.ofString "arrows"), a, .bl ba]]], .tup [.clo 66 [], .lst false [.tup [.str (PySem.Str.ofString "house"), h, .bl b], .tup [.str (PySem.Str.ofString "arrows"), a, .bl ba]]], .tup [.clo 67 [], .lst false [.tup [.str (PySem.Str.ofString "house"), h, .bl b], .tup [.str (PySem.Str.ofString "crowd"), c, .bl bc], .tup [.str (PySem.Str.ofString "arrows"), a, .bl ba], .tup [.str (PySem.Str.ofString "ticks"), t, .bl bt]]], .tup [.clo 68 [], .lst false [.tup [.str (PySem.Str.ofString "house"), h, .bl b], .tup [.str (PySem.Str.ofString "crowd"), c, .bl bc], .tup [.str (PySem.Str.ofString "arrows"), a, .bl ba]]], .tup [.clo 69 [], .lst false [.tup [.str (PySem.Str.ofString "house"), h, .bl b], .tup [.str (PySem.Str.ofString "crowd"), c, .bl bc], .tup [.str (PySem.Str.ofString "arrows"), a, .bl ba]]], .tup [.clo 70 [], .lst false [.tup [.str (PySem.Str.ofString "house"), h, .bl b], .tup [.str (PySem.Str.ofString "crowd"), c, .bl bc], .tup [.str (PySem.Str.ofString "arrows"), a, .bl ba]]], .tup [.clo 71 [], .lst false [.tup [.str (PySem.Str.ofString "house"), h, .bl b], .tup [.str (PySem.Str.ofString "crowd"), c, .bl bc], .tup [.str (PySem.Str.ofString "arrows"), a, .bl ba]]], .tup [.clo 72 [], .lst false [.tup [.str (PySem.Str.ofString "house"), h, .bl b], .tup [.str (PySem.Str.ofString "crowd"), c, .bl bc]]], .tup [.clo 73 [], .lst false [.tup [.str (PySem.Str.ofString "house"), h, .bl b], .tup [.str (PySem.Str.ofString "crowd"), c, .bl bc]]]]), none, none, none]) rfl rfl rfl rfl ?_ rfl rfl (plain_vs [h, .bl b, c, a, t, r] ?_).1 rfl (plain_vs [h, .bl b, c, a, t, r] ?_).1
  · show exSs (runN PQ 27) _ b__law_are_right _ = _
    rw [parts, exSs_app _ _ _ _ _ _ (pA f vh.2.1 vc.2.1 va.2.1 vt.2.1 vr.2.1), exSs_app _ _ _ _ _ _ (f.F ..), exSs_app _ _ _ _ _ _ (pC f vh.2.1 vc.2.1 va.2.1 vt.2.1 vr.2.1)]
    exact pD x
  · simp only [List.all_cons, List.all_nil, x.hv, x.cv, x.av, x.tv, x.rv, Bool.and_self, Bool.and_true, Bool.true_and]; rfl
  · simp only [List.all_cons, List.all_nil, x.hv, x.cv, x.av, x.tv, x.rv, Bool.and_self, Bool.and_true, Bool.true_and]; rfl
end LW
end

section
set_option linter.all false
set_option maxRecDepth 100000
set_option maxHeartbeats 1000000
namespace LW
open Mi
theorem primes5 (i a b c d e : Int) (ha : 0 < a ∧ a < 2147483648) (hb : 0 < b ∧ b < 2147483648) (hc : 0 < c ∧ c < 2147483648) (hd : 0 < d ∧ d < 2147483648) (he : 0 < e ∧ e < 2147483648) :
    ∃ P : Int, L2.atI [D.int a, .int b, .int c, .int d, .int e] (i % 5) = some (.int P) ∧ 0 < P ∧ P < 2147483648 := by
  have h1 := Int.emod_nonneg i (show (5 : Int) ≠ 0 by decide)
  have h2 := Int.emod_lt_of_pos i (show (0 : Int) < 5 by decide)
  generalize i % 5 = r at h1 h2
  have : r = 0 ∨ r = 1 ∨ r = 2 ∨ r = 3 ∨ r = 4 := by omega
  rcases this with rfl | rfl | rfl | rfl | rfl
  · exact ⟨a, rfl, ha.1, ha.2⟩
  · exact ⟨b, rfl, hb.1, hb.2⟩
  · exact ⟨c, rfl, hc.1, hc.2⟩
  · exact ⟨d, rfl, hd.1, hd.2⟩
  · exact ⟨e, rfl, he.1, he.2⟩
theorem take_b1 (Φ : Fns) (a b c u : Int) (ha : 0 < a) (hu : 0 < u) (hu2 : u < 1073741824) :
    exSs Φ [0, 1] b__law_take [some (potD a b c), some (.int u), none, none, none] = .ret (.int (a % u)) [some (potD (a / u) b c), some (.int u), none, none, none] := by
  simp -dsimp only [b__law_take, E_lam, E_callM, E_isx, E_fld, Es_lam, Es_callM, Es_isx, Es_fld, E_const, E_glob, E_var, E_mov, E_op, E_isn, E_neg, E_notE, E_chain, E_andE, E_orE, E_ite, E_tup, E_lst, E_idx, E_slc, E_cb, E_call, E_callK, E_rng2, rngK_t, rngK_f, E_frz, Es_nil, Es_peek, Es_peekF, Es_star, Es_const, Es_glob, Es_var, Es_mov, Es_op, Es_isn, Es_neg, Es_notE, Es_chain, Es_andE, Es_orE, Es_ite, Es_tup, Es_lst, Es_idx, Es_slc, Es_cb, Es_call, Es_callK, Es_rng, Es_frz, Es_lc, Eb_nil, Eb_one, Ei_nil, Ei_cons, It_seq, It_range, It_enum, It_zip, S_ex, S_asg, S_par, S_seti, S_app, S_ext, S_aug, S_augi, S_ret, S_ifs, S_for_, S_while_, S_never, Ss_nil, Ss_cons, getE_zero, getE_succ, ↓bind_rb, ↓ofR_rb, ↓rbk, ↓ork, rbk, ork, Bool.false_eq_true, if_false, oo_some, ob_some, om_some, getAll, OV.get, OV.refs, nodupN, putBack, set_zero, set_succ, List.set_cons_zero, List.set_cons_succ, bindT, bindTs, op2, List.contains_nil, List.contains_cons, Nat.reduceBEq, Bool.or_false, Bool.or_self, Bool.not_false, Bool.not_true, Bool.and_true, Bool.true_and, Bool.and_self, List.length_cons, List.length_nil, if_true, List.cons_append, List.nil_append, reduceIte, Nat.reduceLT, Nat.reduceAdd, prD, isD_tt, isD_ti, isD_lt, isD_li, isD_nt, isD_ni, isD_nb, isD_ii, isD_ib, isD_it, isD_bi, isD_bb, isD_bt, sz_0, sz_1, sz_2, sz_3, sz_4, sz_5, sz_6, sz_7, sz_8, sz_9, sz_10, sz_11, sz_12, sz_13, sz_14, sz_15, sz_16, sz_17, sz_18, sz_19, sz_20, potD, idxD, at3_0, itemD, D.own, cmpD, ha, decide_true, intD, modD_pos a u hu, fdivD_pos a u hu hu2, isOwnL, ix3_0]
theorem take_b2 (Φ : Fns) (a b c u : Int) (ha : ¬ 0 < a) (hb : 0 ≤ b ∧ b < 2305843009213693951) (hc : 0 ≤ c ∧ c ≤ 1000000000) (hu : 0 < u) :
    ∃ v p q, exSs Φ [0, 1] b__law_take [some (potD a b c), some (.int u), none, none, none] = .ret (.int v) [some (potD a b (c + 1)), some (.int u), p, q, none] ∧ 0 ≤ v ∧ v < u := by
  obtain ⟨P, hP, hP1, hP2⟩ := primes5 (c + 1) 2147481883 2147481863 2147481827 2147481811 2147481797 (by decide) (by decide) (by decide) (by decide) (by decide)
  have h1 := pot_cube b (c + 1) 68059 2389 hb (by omega) (by decide) (by decide)
  generalize hx : (b + 68059 * (c + 1) * (c + 1) + 2389) ^ 3 % P = x
  have hx1 : 0 ≤ x := by rw [← hx]; exact Int.emod_nonneg _ (by omega)
  have hx2 : x < P := by rw [← hx]; exact Int.emod_lt_of_pos _ hP1
  refine ⟨(x * (x % 7883 + 233 * (c + 1)) % 2305843009213693907 / 131) % u, some (.int P), some (.int (x * (x % 7883 + 233 * (c + 1)) % 2305843009213693907)), ?_, Int.emod_nonneg _ (by omega), Int.emod_lt_of_pos _ hu⟩
  simp -dsimp only [b__law_take, E_lam, E_callM, E_isx, E_fld, Es_lam, Es_callM, Es_isx, Es_fld, E_const, E_glob, E_var, E_mov, E_op, E_isn, E_neg, E_notE, E_chain, E_andE, E_orE, E_ite, E_tup, E_lst, E_idx, E_slc, E_cb, E_call, E_callK, E_rng2, rngK_t, rngK_f, E_frz, Es_nil, Es_peek, Es_peekF, Es_star, Es_const, Es_glob, Es_var, Es_mov, Es_op, Es_isn, Es_neg, Es_notE, Es_chain, Es_andE, Es_orE, Es_ite, Es_tup, Es_lst, Es_idx, Es_slc, Es_cb, Es_call, Es_callK, Es_rng, Es_frz, Es_lc, Eb_nil, Eb_one, Ei_nil, Ei_cons, It_seq, It_range, It_enum, It_zip, S_ex, S_asg, S_par, S_seti, S_app, S_ext, S_aug, S_augi, S_ret, S_ifs, S_for_, S_while_, S_never, Ss_nil, Ss_cons, getE_zero, getE_succ, ↓bind_rb, ↓ofR_rb, ↓rbk, ↓ork, rbk, ork, Bool.false_eq_true, if_false, oo_some, ob_some, om_some, getAll, OV.get, OV.refs, nodupN, putBack, set_zero, set_succ, List.set_cons_zero, List.set_cons_succ, bindT, bindTs, op2, List.contains_nil, List.contains_cons, Nat.reduceBEq, Bool.or_false, Bool.or_self, Bool.not_false, Bool.not_true, Bool.and_true, Bool.true_and, Bool.and_self, List.length_cons, List.length_nil, if_true, List.cons_append, List.nil_append, reduceIte, Nat.reduceLT, Nat.reduceAdd, prD, isD_tt, isD_ti, isD_lt, isD_li, isD_nt, isD_ni, isD_nb, isD_ii, isD_ib, isD_it, isD_bi, isD_bb, isD_bt, sz_0, sz_1, sz_2, sz_3, sz_4, sz_5, sz_6, sz_7, sz_8, sz_9, sz_10, sz_11, sz_12, sz_13, sz_14, sz_15, sz_16, sz_17, sz_18, sz_19, sz_20, potD, idxD, at3_0, at3_1, at3_2, itemD, D.own, cmpD, ha, decide_false, intD, addD, isOwnL, ix3_2, modD_pos (c + 1) 5 (by decide), ownL, hP,
    mulD_l 68059 (c + 1) (by decide), mulD_r (68059 * (c + 1)) (c + 1) (by omega), pow3D _ h1, modD_pos _ P hP1, hx, modD_pos x 7883 (by decide), mulD_l 233 (c + 1) (by decide), mulD_l x _ (show x.natAbs < 18446744073709551616 by omega), modD_pos _ 2305843009213693907 (by decide), fdivD_pos _ 131 (by decide) (by decide), modD_pos _ u hu]
theorem take_ok (k n : Nat) (d : D) (u : Int) (hd : Pot n d) (hn : n ≤ 1000000000) (hu : 0 < u) (hu2 : u < 1073741824) :
    ∃ v d', runN PQ (k + 1) 52 [d, .int u] = .ok (.int v) [d', .int u] ∧ 0 ≤ v ∧ v < u ∧ Pot (n + 1) d' := by
  obtain ⟨a, b, c, rfl, h1, h2, h3, h4, h5⟩ := hd
  by_cases ha : 0 < a
  · refine ⟨a % u, potD (a / u) b c, run_ret (lk := [0, 1]) (ρ0 := [some (potD a b c), some (.int u), none, none, none]) rfl rfl rfl rfl (take_b1 _ a b c u ha hu hu2) rfl, Int.emod_nonneg _ (by omega), Int.emod_lt_of_pos _ hu, ?_⟩
    exact ⟨a / u, b, c, rfl, Int.ediv_nonneg h1 (by omega), h2, h3, h4, by omega⟩
  · obtain ⟨v, p, q, e, v1, v2⟩ := take_b2 (runN PQ k) a b c u ha ⟨h2, h3⟩ ⟨h4, by omega⟩ hu
    refine ⟨v, potD a b (c + 1), run_ret (lk := [0, 1]) (ρ0 := [some (potD a b c), some (.int u), none, none, none]) rfl rfl rfl rfl e rfl, v1, v2, ?_⟩
    exact ⟨a, b, c + 1, rfl, h1, h2, h3, by omega, by omega⟩
theorem of_b (Φ : Fns) (d d' x : D) (xs : List D) (v : Int) (c : Φ 52 [d, .int (xs.length : Int)] = .ok (.int v) [d', .int (xs.length : Int)]) (hx : L2.atI xs v = some x) (ho : x.own = false) :
    exSs Φ [0, 1] b__law_of [some d, some (.lst true xs)] = .ret x [some d', some (.lst true xs)] := by
  simp -dsimp only [b__law_of, E_lam, E_callM, E_isx, E_fld, Es_lam, Es_callM, Es_isx, Es_fld, E_const, E_glob, E_var, E_mov, E_op, E_isn, E_neg, E_notE, E_chain, E_andE, E_orE, E_ite, E_tup, E_lst, E_idx, E_slc, E_cb, E_call, E_callK, E_rng2, rngK_t, rngK_f, E_frz, Es_nil, Es_peek, Es_peekF, Es_star, Es_const, Es_glob, Es_var, Es_mov, Es_op, Es_isn, Es_neg, Es_notE, Es_chain, Es_andE, Es_orE, Es_ite, Es_tup, Es_lst, Es_idx, Es_slc, Es_cb, Es_call, Es_callK, Es_rng, Es_frz, Es_lc, Eb_nil, Eb_one, Ei_nil, Ei_cons, It_seq, It_range, It_enum, It_zip, S_ex, S_asg, S_par, S_seti, S_app, S_ext, S_aug, S_augi, S_ret, S_ifs, S_for_, S_while_, S_never, Ss_nil, Ss_cons, getE_zero, getE_succ, ↓bind_rb, ↓ofR_rb, ↓rbk, ↓ork, rbk, ork, Bool.false_eq_true, if_false, oo_some, ob_some, om_some, getAll, OV.get, OV.refs, nodupN, putBack, set_zero, set_succ, List.set_cons_zero, List.set_cons_succ, bindT, bindTs, op2, List.contains_nil, List.contains_cons, Nat.reduceBEq, Bool.or_false, Bool.or_self, Bool.not_false, Bool.not_true, Bool.and_true, Bool.true_and, Bool.and_self, List.length_cons, List.length_nil, if_true, List.cons_append, List.nil_append, reduceIte, Nat.reduceLT, Nat.reduceAdd, prD, isD_tt, isD_ti, isD_lt, isD_li, isD_nt, isD_ni, isD_nb, isD_ii, isD_ib, isD_it, isD_bi, isD_bb, isD_bt, sz_0, sz_1, sz_2, sz_3, sz_4, sz_5, sz_6, sz_7, sz_8, sz_9, sz_10, sz_11, sz_12, sz_13, sz_14, sz_15, sz_16, sz_17, sz_18, sz_19, sz_20, lenD, c, idxD, hx, itemD, ho]
/-- a drawn value, by its place -/
theorem of_ok (k n : Nat) (d : D) (xs : List D) (hd : Pot n d) (hn : n ≤ 1000000000) (h0 : 0 < xs.length) (h1 : xs.length < 1000000000) (ho : ownL xs = false) :
    ∃ i d', i < xs.length ∧ runN PQ (k + 2) 53 [d, .lst true xs] = .ok (xs.getD i .non) [d', .lst true xs] ∧ Pot (n + 1) d' := by
  obtain ⟨v, d', c, v1, v2, p⟩ := take_ok k n d (xs.length : Int) hd hn (by omega) (by omega)
  obtain ⟨j, rfl⟩ := Int.eq_ofNat_of_zero_le v1
  have hj : j < xs.length := by omega
  have hg : xs.getD j .non = xs[j] := by rw [List.getD_eq_getElem?_getD, List.getElem?_eq_getElem hj]; rfl
  have hx : L2.atI xs (j : Int) = some (xs.getD j .non) := by rw [atI_nat, hg]; simp [hj]
  have hm : (xs.getD j .non).own = false := by
    rw [hg]
    have : ∀ (l : List D), ownL l = false → ∀ x ∈ l, x.own = false := by
      intro l
      induction l with
      | nil => intro _ x hx; cases hx
      | cons y r ih =>
        intro h x hx
        simp only [ownL, Bool.or_eq_false_iff] at h
        rcases List.mem_cons.1 hx with rfl | hx
        · exact h.1
        · exact ih h.2 x hx
    exact this xs ho _ (List.getElem_mem hj)
  exact ⟨j, d', hj, run_ret (lk := [0, 1]) (ρ0 := [some d, some (.lst true xs)]) rfl rfl rfl rfl (of_b _ d d' _ xs _ c hx hm) rfl, p⟩
/-! the pot -/
theorem pow_a : powD (.int 10) (.int 60) = some (.int (10 ^ 60)) := by
  have h : (0 : Int) ≤ 60 ∧ (60 : Int) ≤ 1000000 ∧ ((10 : Int).natAbs.log2 + 1) * (60 : Int).toNat ≤ 1000000 := by decide
  rw [powD, if_pos h]; rfl
theorem pow_b : powD (.int 10) (.int 18) = some (.int (10 ^ 18)) := by
  have h : (0 : Int) ≤ 18 ∧ (18 : Int) ≤ 1000000 ∧ ((10 : Int).natAbs.log2 + 1) * (18 : Int).toNat ≤ 1000000 := by decide
  rw [powD, if_pos h]; rfl
theorem pow_c : powD (.int (10 ^ 60)) (.int 5) = some (.int ((10 ^ 60) ^ 5)) := by
  have h : (0 : Int) ≤ 5 ∧ (5 : Int) ≤ 1000000 ∧ ((10 ^ 60 : Int).natAbs.log2 + 1) * (5 : Int).toNat ≤ 1000000 := by decide
  rw [powD, if_pos h]; rfl
theorem ltD_ii (i j : Int) : ltD (.int i) (.int j) = some (.bl (decide (i < j))) := rfl
theorem pot_s2 (Φ : Fns) (ns : List Int) (j : Nat) (hj : (j : Int) < 1000000) : ∃ x : Int, exS Φ [0, 1] (.asg (.slot 2) (.ite (.op .lt [.peek 1, .cb .len [.peek 0]]) (.idx [.peek 0, .peek 1]) (.op .add [.op .add [.op .mod [.cb .sum [.slc [.peek 0] [] [.const (.int 1)]], .const (.int 1000409)], .op .mul [.const (.int 4507), .peek 1]], .const (.int 719)])))
    [some (.scr (ns.map D.int)), some (.int (j : Int)), none, none, none] = .nx [some (.scr (ns.map D.int)), some (.int (j : Int)), some (.int x), none, none] := by
  by_cases h : (j : Int) < (ns.length : Int)
  · have hj : j < ns.length := by omega
    have h1 : L2.atI (ns.map D.int) (j : Int) = some (.int ns[j]) := by rw [atI_nat]; simp [hj]
    exact ⟨ns[j], by simp -dsimp only [E_lam, E_callM, E_isx, E_fld, Es_lam, Es_callM, Es_isx, Es_fld, E_const, E_glob, E_var, E_mov, E_op, E_isn, E_neg, E_notE, E_chain, E_andE, E_orE, E_ite, E_tup, E_lst, E_idx, E_slc, E_cb, E_call, E_callK, E_rng2, rngK_t, rngK_f, E_frz, Es_nil, Es_peek, Es_peekF, Es_star, Es_const, Es_glob, Es_var, Es_mov, Es_op, Es_isn, Es_neg, Es_notE, Es_chain, Es_andE, Es_orE, Es_ite, Es_tup, Es_lst, Es_idx, Es_slc, Es_cb, Es_call, Es_callK, Es_rng, Es_frz, Es_lc, Eb_nil, Eb_one, Ei_nil, Ei_cons, It_seq, It_range, It_enum, It_zip, S_ex, S_asg, S_par, S_seti, S_app, S_ext, S_aug, S_augi, S_ret, S_ifs, S_for_, S_while_, S_never, Ss_nil, Ss_cons, getE_zero, getE_succ, ↓bind_rb, ↓ofR_rb, ↓rbk, ↓ork, rbk, ork, Bool.false_eq_true, if_false, oo_some, ob_some, om_some, getAll, OV.get, OV.refs, nodupN, putBack, set_zero, set_succ, List.set_cons_zero, List.set_cons_succ, bindT, bindTs, op2, List.contains_nil, List.contains_cons, Nat.reduceBEq, Bool.or_false, Bool.or_self, Bool.not_false, Bool.not_true, Bool.and_true, Bool.true_and, Bool.and_self, List.length_cons, List.length_nil, if_true, List.cons_append, List.nil_append, reduceIte, Nat.reduceLT, Nat.reduceAdd, prD, isD_tt, isD_ti, isD_lt, isD_li, isD_nt, isD_ni, isD_nb, isD_ii, isD_ib, isD_it, isD_bi, isD_bb, isD_bt, sz_0, sz_1, sz_2, sz_3, sz_4, sz_5, sz_6, sz_7, sz_8, sz_9, sz_10, sz_11, sz_12, sz_13, sz_14, sz_15, sz_16, sz_17, sz_18, sz_19, sz_20, lenD, List.length_map, ltD_ii, h, decide_true, idxD, h1, itemD, D.own]⟩
  · exact ⟨(ns.take 1).sum % 1000409 + 4507 * (j : Int) + 719, by simp -dsimp only [E_lam, E_callM, E_isx, E_fld, Es_lam, Es_callM, Es_isx, Es_fld, E_const, E_glob, E_var, E_mov, E_op, E_isn, E_neg, E_notE, E_chain, E_andE, E_orE, E_ite, E_tup, E_lst, E_idx, E_slc, E_cb, E_call, E_callK, E_rng2, rngK_t, rngK_f, E_frz, Es_nil, Es_peek, Es_peekF, Es_star, Es_const, Es_glob, Es_var, Es_mov, Es_op, Es_isn, Es_neg, Es_notE, Es_chain, Es_andE, Es_orE, Es_ite, Es_tup, Es_lst, Es_idx, Es_slc, Es_cb, Es_call, Es_callK, Es_rng, Es_frz, Es_lc, Eb_nil, Eb_one, Ei_nil, Ei_cons, It_seq, It_range, It_enum, It_zip, S_ex, S_asg, S_par, S_seti, S_app, S_ext, S_aug, S_augi, S_ret, S_ifs, S_for_, S_while_, S_never, Ss_nil, Ss_cons, getE_zero, getE_succ, ↓bind_rb, ↓ofR_rb, ↓rbk, ↓ork, rbk, ork, Bool.false_eq_true, if_false, oo_some, ob_some, om_some, getAll, OV.get, OV.refs, nodupN, putBack, set_zero, set_succ, List.set_cons_zero, List.set_cons_succ, bindT, bindTs, op2, List.contains_nil, List.contains_cons, Nat.reduceBEq, Bool.or_false, Bool.or_self, Bool.not_false, Bool.not_true, Bool.and_true, Bool.true_and, Bool.and_self, List.length_cons, List.length_nil, if_true, List.cons_append, List.nil_append, reduceIte, Nat.reduceLT, Nat.reduceAdd, prD, isD_tt, isD_ti, isD_lt, isD_li, isD_nt, isD_ni, isD_nb, isD_ii, isD_ib, isD_it, isD_bi, isD_bb, isD_bt, sz_0, sz_1, sz_2, sz_3, sz_4, sz_5, sz_6, sz_7, sz_8, sz_9, sz_10, sz_11, sz_12, sz_13, sz_14, sz_15, sz_16, sz_17, sz_18, sz_19, sz_20, lenD, List.length_map, ltD_ii, h, decide_false, slcD, ownL_int, cut_h1, ← List.map_take, suml_map, intD, modD_pos _ 1000409 (by decide), mulD_l 4507 _ (by decide), addD]⟩
theorem pot_b (Φ : Fns) (ns : List Int) (j : Nat) (hj : (j : Int) < 1000000) : ∃ a b : Int, ∃ r, 0 ≤ a ∧ 0 ≤ b ∧ b < 2305843009213693951 ∧
    exSs Φ [0, 1] b__law_pot [some (.scr (ns.map D.int)), some (.int (j : Int)), none, none, none] = .ret (potD a b 0) (some (.scr (ns.map D.int)) :: some (.int (j : Int)) :: r) := by
  obtain ⟨x, e⟩ := pot_s2 Φ ns j hj
  have hp : (0 : Int) < (10 ^ 60) ^ 5 := by decide
  generalize hc : (if x < 0 then -x else x) = y
  have hy : absD (.int x) = some (.int y) := by rw [← hc]; rfl
  have hb : ∃ c : Int, intD (.bl (decide ((10 ^ 18 : Int) ≤ y))) = some (.int c) ∧ 0 ≤ c ∧ c ≤ 1 := by
    cases decide ((10 ^ 18 : Int) ≤ y)
    · exact ⟨0, rfl, by decide, by decide⟩
    · exact ⟨1, rfl, by decide, by decide⟩
  obtain ⟨c, hc1, hc2, hc3⟩ := hb
  have hd : D.own (.int (y % (10 ^ 60) ^ 5 * c)) = false := rfl
  refine ⟨y % (10 ^ 60) ^ 5 * c, (x % 2305843009213693951 * 61837 + 7451 * (j : Int) * (j : Int) + 853) % 2305843009213693921, [some (.int x), some (.int (y % (10 ^ 60) ^ 5 * c)), some (.int (x % 2305843009213693951))], Int.mul_nonneg (Int.emod_nonneg _ (by omega)) hc2, Int.emod_nonneg _ (by decide), ?_, ?_⟩
  · have := Int.emod_lt_of_pos (x % 2305843009213693951 * 61837 + 7451 * (j : Int) * (j : Int) + 853) (show (0 : Int) < 2305843009213693921 by decide)
    omega
  · simp -dsimp only [b__law_pot, ↓e, E_lam, E_callM, E_isx, E_fld, Es_lam, Es_callM, Es_isx, Es_fld, E_const, E_glob, E_var, E_mov, E_op, E_isn, E_neg, E_notE, E_chain, E_andE, E_orE, E_ite, E_tup, E_lst, E_idx, E_slc, E_cb, E_call, E_callK, E_rng2, rngK_t, rngK_f, E_frz, Es_nil, Es_peek, Es_peekF, Es_star, Es_const, Es_glob, Es_var, Es_mov, Es_op, Es_isn, Es_neg, Es_notE, Es_chain, Es_andE, Es_orE, Es_ite, Es_tup, Es_lst, Es_idx, Es_slc, Es_cb, Es_call, Es_callK, Es_rng, Es_frz, Es_lc, Eb_nil, Eb_one, Ei_nil, Ei_cons, It_seq, It_range, It_enum, It_zip, S_ex, S_asg, S_par, S_seti, S_app, S_ext, S_aug, S_augi, S_ret, S_ifs, S_for_, S_while_, S_never, Ss_nil, Ss_cons, getE_zero, getE_succ, ↓bind_rb, ↓ofR_rb, ↓rbk, ↓ork, rbk, ork, Bool.false_eq_true, if_false, oo_some, ob_some, om_some, getAll, OV.get, OV.refs, nodupN, putBack, set_zero, set_succ, List.set_cons_zero, List.set_cons_succ, bindT, bindTs, op2, List.contains_nil, List.contains_cons, Nat.reduceBEq, Bool.or_false, Bool.or_self, Bool.not_false, Bool.not_true, Bool.and_true, Bool.true_and, Bool.and_self, List.length_cons, List.length_nil, if_true, List.cons_append, List.nil_append, reduceIte, Nat.reduceLT, Nat.reduceAdd, prD, isD_tt, isD_ti, isD_lt, isD_li, isD_nt, isD_ni, isD_nb, isD_ii, isD_ib, isD_it, isD_bi, isD_bb, isD_bt, sz_0, sz_1, sz_2, sz_3, sz_4, sz_5, sz_6, sz_7, sz_8, sz_9, sz_10, sz_11, sz_12, sz_13, sz_14, sz_15, sz_16, sz_17, sz_18, sz_19, sz_20, hy, intD_i, pow_a, pow_c, modD_pos y _ hp, pow_b, cmpD, hc1, mulD_r _ c (show c.natAbs < 18446744073709551616 by omega), modD_pos x 2305843009213693951 (by decide), mulD_r _ 61837 (by decide), mulD_l 7451 _ (by decide), mulD_r _ (j : Int) (show (j : Int).natAbs < 18446744073709551616 by omega), addD, modD_pos _ 2305843009213693921 (by decide), D.own, potD]
theorem pot_ok (k : Nat) (ns : List Int) (j : Nat) (hj : (j : Int) < 1000000) : ∃ d, runN PQ (k + 1) 51 [.scr (ns.map D.int), .int (j : Int)] = .ok d [.scr (ns.map D.int), .int (j : Int)] ∧ Pot 0 d := by
  obtain ⟨a, b, r, h1, h2, h3, e⟩ := pot_b (runN PQ k) ns j hj
  exact ⟨potD a b 0, run_ret (lk := [0, 1]) (ρ0 := [some (.scr (ns.map D.int)), some (.int (j : Int)), none, none, none]) rfl rfl rfl rfl e rfl, a, b, 0, rfl, h1, h2, h3, by decide, by decide⟩
/-! the places -/
theorem cells_b (Φ : Fns) (ns : List Int) : ∃ n, n ≤ 3 ∧ exSs Φ [0, 1] b__law_cells [some (.scr (ns.map D.int)), some (.int 3)] = .ret (.lst true ((List.range n).map fun j : Nat => D.int (j : Int))) [some (.scr (ns.map D.int)), some (.int 3)] := by
  generalize hL : (if (ns.length : Int) < 3 then (ns.length : Int) else 3) = y
  have h3 : min2D (.int 3) (.int (ns.length : Int)) = some (.int y) := by rw [← hL]; rfl
  generalize hM : (if y > 1 then y else 1) = z
  have h4 : max2D (.int 1) (.int y) = some (.int z) := by rw [← hM]; rfl
  have hz : 0 ≤ z ∧ z ≤ 3 := by
    constructor
    · split at hM <;> omega
    · split at hM <;> split at hL <;> omega
  obtain ⟨n, rfl⟩ := Int.eq_ofNat_of_zero_le hz.1
  have hr := rangeOf_nat n (by unfold SZ; omega)
  exact ⟨n, by omega, by simp -dsimp only [b__law_cells, E_lam, E_callM, E_isx, E_fld, Es_lam, Es_callM, Es_isx, Es_fld, E_const, E_glob, E_var, E_mov, E_op, E_isn, E_neg, E_notE, E_chain, E_andE, E_orE, E_ite, E_tup, E_lst, E_idx, E_slc, E_cb, E_call, E_callK, E_rng2, rngK_t, rngK_f, E_frz, Es_nil, Es_peek, Es_peekF, Es_star, Es_const, Es_glob, Es_var, Es_mov, Es_op, Es_isn, Es_neg, Es_notE, Es_chain, Es_andE, Es_orE, Es_ite, Es_tup, Es_lst, Es_idx, Es_slc, Es_cb, Es_call, Es_callK, Es_rng, Es_frz, Es_lc, Eb_nil, Eb_one, Ei_nil, Ei_cons, It_seq, It_range, It_enum, It_zip, S_ex, S_asg, S_par, S_seti, S_app, S_ext, S_aug, S_augi, S_ret, S_ifs, S_for_, S_while_, S_never, Ss_nil, Ss_cons, getE_zero, getE_succ, ↓bind_rb, ↓ofR_rb, ↓rbk, ↓ork, rbk, ork, Bool.false_eq_true, if_false, oo_some, ob_some, om_some, getAll, OV.get, OV.refs, nodupN, putBack, set_zero, set_succ, List.set_cons_zero, List.set_cons_succ, bindT, bindTs, op2, List.contains_nil, List.contains_cons, Nat.reduceBEq, Bool.or_false, Bool.or_self, Bool.not_false, Bool.not_true, Bool.and_true, Bool.true_and, Bool.and_self, List.length_cons, List.length_nil, if_true, List.cons_append, List.nil_append, reduceIte, Nat.reduceLT, Nat.reduceAdd, prD, isD_tt, isD_ti, isD_lt, isD_li, isD_nt, isD_ni, isD_nb, isD_ii, isD_ib, isD_it, isD_bi, isD_bb, isD_bt, sz_0, sz_1, sz_2, sz_3, sz_4, sz_5, sz_6, sz_7, sz_8, sz_9, sz_10, sz_11, sz_12, sz_13, sz_14, sz_15, sz_16, sz_17, sz_18, sz_19, sz_20, lenD, List.length_map, h3, h4, hr]⟩
theorem cells_ok (k : Nat) (ns : List Int) : ∃ n, n ≤ 3 ∧ runN PQ (k + 1) 54 [.scr (ns.map D.int), .int 3] = .ok (.lst true ((List.range n).map fun j : Nat => D.int (j : Int))) [.scr (ns.map D.int), .int 3] := by
  obtain ⟨n, h, e⟩ := cells_b (runN PQ k) ns
  exact ⟨n, h, run_ret (lk := [0, 1]) (ρ0 := [some (.scr (ns.map D.int)), some (.int 3)]) rfl rfl rfl rfl e rfl⟩
end LW
end

section
set_option linter.all false
set_option maxRecDepth 100000
set_option maxHeartbeats 1000000
namespace LW
open Mi
def eCr : IE := .lst [.tup [.const (.int 1), .const (.int 2), .const (.int 0)], .tup [.const (.int 0)], .tup [.const (.int 50), .const (.int 0), .const (.int 0)], .tup [.const (.int 51), .const (.int 0), .const (.int 0)], .tup [.const (.int 1), .const (.int 2)], .frz (.lst [.const (.int 1), .const (.int 2), .const (.int 0)]), .const .non, .tup [.const (.bl true), .const (.int 0), .const (.int 0)], .tup [.neg [.const (.int 1)], .const (.int 0), .const (.int 0)]]
def eA8 : IE := .lst [.tup [.const .non, .const .non, .const .non], .tup [.const (.int 1), .const (.int 2), .const .non], .tup [.const (.int 1), .const .non, .const .non], .tup [.const (.int 2), .const (.int 0), .const .non], .tup [.const .non, .const .non, .const (.int 1)], .tup [.const .non, .const .non], .frz (.lst [.const (.int 1), .const (.int 2), .const .non]), .const .non]
def eA2 : IE := .lst [.tup [.const (.bl true), .const .non, .const .non], .tup [.const (.int 0), .const .non, .const .non]]
def eTi : IE := .lst [.const (.int 0), .const (.int 3), .const (.int 16), .const (.int 17), .neg [.const (.int 1)], .const .non, .const (.bl true)]
def eRo : IE := .lst [.const (.int 0), .const (.int 2), .const (.int 3), .neg [.const (.int 1)], .const .non, .const (.bl true)]
theorem eCr_v (Φ : Fns) (ρ : Env) : ev Φ eCr ρ = .ok (.lst true crowds) ρ := by kernel_rfl
theorem eA8_v (Φ : Fns) (ρ : Env) : ev Φ eA8 ρ = .ok (.lst true (arrowss.take 8)) ρ := by kernel_rfl
theorem eA2_v (Φ : Fns) (ρ : Env) : ev Φ eA2 ρ = .ok (.lst true (arrowss.drop 8)) ρ := by kernel_rfl
theorem eTi_v (Φ : Fns) (ρ : Env) : ev Φ eTi ρ = .ok (.lst true tickss) ρ := by kernel_rfl
theorem eRo_v (Φ : Fns) (ρ : Env) : ev Φ eRo ρ = .ok (.lst true rooms) ρ := by kernel_rfl
theorem arr_add : addD (.lst true (arrowss.take 8)) (.lst true (arrowss.drop 8)) = some (.lst true arrowss) := by kernel_rfl
theorem s1_v (Φ : Fns) (p : Option D) : exS Φ [0] (.asg (.slot 1) (.lst [.tup [.const (.int 3), .tup [.tup [.const (.int 0), .const (.int 1), .const (.int 1)], .tup [.const (.int 1), .const (.int 2), .const (.int 2)]], .tup [.const (.int 2)]], .tup [.const (.int 3), .tup [.tup [.const (.int 0), .const (.int 1), .const (.int 3)], .tup [.const (.int 0), .const (.int 2), .const (.int 2)]], .tup [.const (.int 2)]], .tup [.const (.int 1), .tup [], .tup [.const (.int 0)]]])) [p, none, none, none, none, none, none, none, none, none] = .nx [p, some (.lst true goods), none, none, none, none, none, none, none, none] := by kernel_rfl
theorem s2_v (Φ : Fns) (p g : Option D) : exS Φ [0] (.asg (.slot 2) (.lst [.tup [.const (.int 0), .tup [], .tup [.const (.int 0)]], .tup [.const (.int 11), .tup [], .tup [.const (.int 0)]], .tup [.const (.int 3), .tup [.tup [.const (.int 0), .const (.int 1), .const (.int 21)]], .tup [.const (.int 0)]], .tup [.const (.int 3), .tup [.tup [.const (.int 1), .const (.int 0), .const (.int 1)]], .tup [.const (.int 0)]], .tup [.const (.int 3), .tup [], .tup []], .const .non, .frz (.lst [.const (.int 3), .tup [], .tup [.const (.int 0)]]), .tup [.const (.int 3), .tup [], .tup [.const (.int 3)]], .tup [.const (.bl true), .tup [], .tup [.const (.int 0)]]])) [p, g, none, none, none, none, none, none, none, none] = .nx [p, g, some (.lst true bads), none, none, none, none, none, none, none] := by kernel_rfl
def H52 (Φ : Fns) : Prop := ∀ (n : Nat) (d : D) (u : Int), Pot n d → n ≤ 1000000000 → 0 < u → u < 1073741824 → ∃ v d', Φ 52 [d, .int u] = .ok (.int v) [d', .int u] ∧ 0 ≤ v ∧ v < u ∧ Pot (n + 1) d'
def H53 (Φ : Fns) : Prop := ∀ (n : Nat) (d : D) (xs : List D), Pot n d → n ≤ 1000000000 → 0 < xs.length → xs.length < 1000000000 → ownL xs = false → ∃ i d', i < xs.length ∧ Φ 53 [d, .lst true xs] = .ok (xs.getD i .non) [d', .lst true xs] ∧ Pot (n + 1) d'
def H59 (Φ : Fns) : Prop := ∀ (h c a t r : D) (b bc ba br bt : Bool), Dr h c a t r b bc ba br bt → Φ 59 [h, .bl b, c, a, t, r] = .ok (.bl true) [h, .bl b, c, a, t, r]
def rbody : List IS := [.asg (.slot 4) (.op .gt [.call 52 [.peek 0, .const (.int 4)], .const (.int 0)]), .asg (.slot 5) (.ite (.var 4) (.call 53 [.peek 0, .peek 1]) (.call 53 [.peek 0, .peek 2])), .asg (.slot 6) (.call 53 [.peek 0, .lst [.tup [.const (.int 1), .const (.int 2), .const (.int 0)], .tup [.const (.int 0)], .tup [.const (.int 50), .const (.int 0), .const (.int 0)], .tup [.const (.int 51), .const (.int 0), .const (.int 0)], .tup [.const (.int 1), .const (.int 2)], .frz (.lst [.const (.int 1), .const (.int 2), .const (.int 0)]), .const .non, .tup [.const (.bl true), .const (.int 0), .const (.int 0)], .tup [.neg [.const (.int 1)], .const (.int 0), .const (.int 0)]]]), .asg (.slot 7) (.lst [.tup [.const .non, .const .non, .const .non], .tup [.const (.int 1), .const (.int 2), .const .non], .tup [.const (.int 1), .const .non, .const .non], .tup [.const (.int 2), .const (.int 0), .const .non], .tup [.const .non, .const .non, .const (.int 1)], .tup [.const .non, .const .non], .frz (.lst [.const (.int 1), .const (.int 2), .const .non]), .const .non]), .asg (.slot 7) (.call 53 [.peek 0, .op .add [.peek 7, .lst [.tup [.const (.bl true), .const .non, .const .non], .tup [.const (.int 0), .const .non, .const .non]]]]), .par [8, 9] [.call 53 [.peek 0, .lst [.const (.int 0), .const (.int 3), .const (.int 16), .const (.int 17), .neg [.const (.int 1)], .const .non, .const (.bl true)]], .call 53 [.peek 0, .lst [.const (.int 0), .const (.int 2), .const (.int 3), .neg [.const (.int 1)], .const .non, .const (.bl true)]]], .ifs (.notE (.call 59 [.peek 5, .peek 4, .peek 6, .peek 7, .peek 8, .peek 9])) [.ret (.const (.bl false))] []]
theorem lap (Φ : Fns) (h52 : H52 Φ) (h53 : H53 Φ) (h59 : H59 Φ) (n : Nat) (p : D) (hp : Pot n p) (hn : n ≤ 1000000) (x3 x4 x5 x6 x7 x8 x9 : Option D) :
    ∃ p' y4 y5 y6 y7 y8 y9, Pot (n + 10) p' ∧ exSs Φ [0] rbody [some p, some (.lst true goods), some (.lst true bads), x3, x4, x5, x6, x7, x8, x9] = .nx [some p', some (.lst true goods), some (.lst true bads), x3, y4, y5, y6, y7, y8, y9] := by
  obtain ⟨v, p1, c1, v1, v2, hp1⟩ := h52 n p 4 hp (by omega) (by decide) (by decide)
  have cr := eCr_v Φ
  have a8 := eA8_v Φ
  have a2 := eA2_v Φ
  have ti := eTi_v Φ
  have ro := eRo_v Φ
  simp only [eCr] at cr
  simp only [eA8] at a8
  simp only [eA2] at a2
  simp only [eTi] at ti
  simp only [eRo] at ro
  by_cases hv : 0 < v
  · obtain ⟨i, p2, hi, c2, hp2⟩ := h53 _ p1 goods hp1 (by omega) (by decide) (by decide) (by kernel_rfl)
    obtain ⟨j, p3, hj, c3, hp3⟩ := h53 _ p2 crowds hp2 (by omega) (by decide) (by decide) (by kernel_rfl)
    obtain ⟨k, p4, hk, c4, hp4⟩ := h53 _ p3 arrowss hp3 (by omega) (by decide) (by decide) (by kernel_rfl)
    obtain ⟨m, p5, hm, c5, hp5⟩ := h53 _ p4 tickss hp4 (by omega) (by decide) (by decide) (by kernel_rfl)
    obtain ⟨q, p6, hq, c6, hp6⟩ := h53 _ p5 rooms hp5 (by omega) (by decide) (by decide) (by kernel_rfl)
    have x := Dr.good i j k m q hi hj hk hm hq
    have c7 := h59 _ _ _ _ _ _ _ _ _ _ x
    have oh := (valB_iff x.hv).2.1
    have oc := (valB_iff x.cv).2.1
    have oa := (valB_iff x.av).2.1
    have ot := (valB_iff x.tv).2.1
    have orr := (valB_iff x.rv).2.1
    change Φ 53 _ = .ok (gI i) _ at c2
    change Φ 53 _ = .ok (cI j) _ at c3
    change Φ 53 _ = .ok (aI k) _ at c4
    change Φ 53 _ = .ok (tI m) _ at c5
    change Φ 53 _ = .ok (rI q) _ at c6
    refine ⟨p6, some (.bl true), some (gI i), some (cI j), some (aI k), some (tI m), some (rI q), hp6.mono (by omega), ?_⟩
    simp -dsimp only [rbody, E_lam, E_callM, E_isx, E_fld, Es_lam, Es_callM, Es_isx, Es_fld, E_const, E_glob, E_var, E_mov, E_op, E_isn, E_neg, E_notE, E_chain, E_andE, E_orE, E_ite, E_tup, E_lst, E_idx, E_slc, E_cb, E_call, E_callK, E_rng2, rngK_t, rngK_f, E_frz, Es_nil, Es_peek, Es_peekF, Es_star, Es_const, Es_glob, Es_var, Es_mov, Es_op, Es_isn, Es_neg, Es_notE, Es_chain, Es_andE, Es_orE, Es_ite, Es_tup, Es_lst, Es_idx, Es_slc, Es_cb, Es_call, Es_callK, Es_rng, Es_frz, Es_lc, Eb_nil, Eb_one, Ei_nil, Ei_cons, It_seq, It_range, It_enum, It_zip, S_ex, S_asg, S_par, S_seti, S_app, S_ext, S_aug, S_augi, S_ret, S_ifs, S_for_, S_while_, S_never, Ss_nil, Ss_cons, getE_zero, getE_succ, ↓bind_rb, ↓ofR_rb, ↓rbk, ↓ork, rbk, ork, Bool.false_eq_true, if_false, oo_some, ob_some, om_some, getAll, OV.get, OV.refs, nodupN, putBack, set_zero, set_succ, List.set_cons_zero, List.set_cons_succ, bindT, bindTs, op2, List.contains_nil, List.contains_cons, Nat.reduceBEq, Bool.or_false, Bool.or_self, Bool.not_false, Bool.not_true, Bool.and_true, Bool.true_and, Bool.and_self, List.length_cons, List.length_nil, if_true, List.cons_append, List.nil_append, reduceIte, Nat.reduceLT, Nat.reduceAdd, prD, isD_tt, isD_ti, isD_lt, isD_li, isD_nt, isD_ni, isD_nb, isD_ii, isD_ib, isD_it, isD_bi, isD_bb, isD_bt, sz_0, sz_1, sz_2, sz_3, sz_4, sz_5, sz_6, sz_7, sz_8, sz_9, sz_10, sz_11, sz_12, sz_13, sz_14, sz_15, sz_16, sz_17, sz_18, sz_19, sz_20, cmpD, hv, decide_true, D.own, c1, c2, ↓cr, c3, ↓a8, ↓a2, arr_add, c4, ↓ti, c5, ↓ro, c6, c7, oh, oc, oa, ot, orr, parE, List.reverse_cons, List.reverse_nil, OV.get]
  · obtain ⟨i, p2, hi, c2, hp2⟩ := h53 _ p1 bads hp1 (by omega) (by decide) (by decide) (by kernel_rfl)
    obtain ⟨j, p3, hj, c3, hp3⟩ := h53 _ p2 crowds hp2 (by omega) (by decide) (by decide) (by kernel_rfl)
    obtain ⟨k, p4, hk, c4, hp4⟩ := h53 _ p3 arrowss hp3 (by omega) (by decide) (by decide) (by kernel_rfl)
    obtain ⟨m, p5, hm, c5, hp5⟩ := h53 _ p4 tickss hp4 (by omega) (by decide) (by decide) (by kernel_rfl)
    obtain ⟨q, p6, hq, c6, hp6⟩ := h53 _ p5 rooms hp5 (by omega) (by decide) (by decide) (by kernel_rfl)
    have x := Dr.bad i j k m q hi hj hk hm hq
    have c7 := h59 _ _ _ _ _ _ _ _ _ _ x
    have oh := (valB_iff x.hv).2.1
    have oc := (valB_iff x.cv).2.1
    have oa := (valB_iff x.av).2.1
    have ot := (valB_iff x.tv).2.1
    have orr := (valB_iff x.rv).2.1
    change Φ 53 _ = .ok (bI i) _ at c2
    change Φ 53 _ = .ok (cI j) _ at c3
    change Φ 53 _ = .ok (aI k) _ at c4
    change Φ 53 _ = .ok (tI m) _ at c5
    change Φ 53 _ = .ok (rI q) _ at c6
    refine ⟨p6, some (.bl false), some (bI i), some (cI j), some (aI k), some (tI m), some (rI q), hp6.mono (by omega), ?_⟩
    simp -dsimp only [rbody, E_lam, E_callM, E_isx, E_fld, Es_lam, Es_callM, Es_isx, Es_fld, E_const, E_glob, E_var, E_mov, E_op, E_isn, E_neg, E_notE, E_chain, E_andE, E_orE, E_ite, E_tup, E_lst, E_idx, E_slc, E_cb, E_call, E_callK, E_rng2, rngK_t, rngK_f, E_frz, Es_nil, Es_peek, Es_peekF, Es_star, Es_const, Es_glob, Es_var, Es_mov, Es_op, Es_isn, Es_neg, Es_notE, Es_chain, Es_andE, Es_orE, Es_ite, Es_tup, Es_lst, Es_idx, Es_slc, Es_cb, Es_call, Es_callK, Es_rng, Es_frz, Es_lc, Eb_nil, Eb_one, Ei_nil, Ei_cons, It_seq, It_range, It_enum, It_zip, S_ex, S_asg, S_par, S_seti, S_app, S_ext, S_aug, S_augi, S_ret, S_ifs, S_for_, S_while_, S_never, Ss_nil, Ss_cons, getE_zero, getE_succ, ↓bind_rb, ↓ofR_rb, ↓rbk, ↓ork, rbk, ork, Bool.false_eq_true, if_false, oo_some, ob_some, om_some, getAll, OV.get, OV.refs, nodupN, putBack, set_zero, set_succ, List.set_cons_zero, List.set_cons_succ, bindT, bindTs, op2, List.contains_nil, List.contains_cons, Nat.reduceBEq, Bool.or_false, Bool.or_self, Bool.not_false, Bool.not_true, Bool.and_true, Bool.true_and, Bool.and_self, List.length_cons, List.length_nil, if_true, List.cons_append, List.nil_append, reduceIte, Nat.reduceLT, Nat.reduceAdd, prD, isD_tt, isD_ti, isD_lt, isD_li, isD_nt, isD_ni, isD_nb, isD_ii, isD_ib, isD_it, isD_bi, isD_bb, isD_bt, sz_0, sz_1, sz_2, sz_3, sz_4, sz_5, sz_6, sz_7, sz_8, sz_9, sz_10, sz_11, sz_12, sz_13, sz_14, sz_15, sz_16, sz_17, sz_18, sz_19, sz_20, cmpD, hv, decide_false, D.own, c1, c2, ↓cr, c3, ↓a8, ↓a2, arr_add, c4, ↓ti, c5, ↓ro, c6, c7, oh, oc, oa, ot, orr, parE, List.reverse_cons, List.reverse_nil, OV.get]
theorem right_b (Φ : Fns) (h52 : H52 Φ) (h53 : H53 Φ) (h59 : H59 Φ) (p : D) (hp : Pot 0 p) : ∃ p' r, exSs Φ [0] b__law_right [some p, none, none, none, none, none, none, none, none, none] = .ret (.bl true) (some p' :: r) := by
  obtain ⟨ρ', e, p', x3, x4, x5, x6, x7, x8, x9, hp', rfl⟩ := forL_inv0 [0] (.slot 3) (exSs Φ [0] rbody)
    (fun j ρ => ∃ p' x3 x4 x5 x6 x7 x8 x9, Pot (10 * j) p' ∧ ρ = [some p', some (.lst true goods), some (.lst true bads), x3, x4, x5, x6, x7, x8, x9]) ((List.range 8).map fun j : Nat => D.int (j : Int)) 8 (by simp) [some p, some (.lst true goods), some (.lst true bads), none, none, none, none, none, none, none] ⟨p, none, none, none, none, none, none, none, hp, rfl⟩
    (by
      rintro j hj ρ ⟨p1, x3, x4, x5, x6, x7, x8, x9, hp1, rfl⟩
      have hj' : j < 8 := by simpa using hj
      obtain ⟨p2, y4, y5, y6, y7, y8, y9, hp2, e⟩ := lap Φ h52 h53 h59 _ p1 hp1 (by omega) (some (.int (j : Int))) x4 x5 x6 x7 x8 x9
      exact ⟨_, _, by simp [E_lam, E_callM, E_isx, E_fld, Es_lam, Es_callM, Es_isx, Es_fld, E_const, E_glob, E_var, E_mov, E_op, E_isn, E_neg, E_notE, E_chain, E_andE, E_orE, E_ite, E_tup, E_lst, E_idx, E_slc, E_cb, E_call, E_callK, E_rng2, rngK_t, rngK_f, E_frz, Es_nil, Es_peek, Es_peekF, Es_star, Es_const, Es_glob, Es_var, Es_mov, Es_op, Es_isn, Es_neg, Es_notE, Es_chain, Es_andE, Es_orE, Es_ite, Es_tup, Es_lst, Es_idx, Es_slc, Es_cb, Es_call, Es_callK, Es_rng, Es_frz, Es_lc, Eb_nil, Eb_one, Ei_nil, Ei_cons, It_seq, It_range, It_enum, It_zip, S_ex, S_asg, S_par, S_seti, S_app, S_ext, S_aug, S_augi, S_ret, S_ifs, S_for_, S_while_, S_never, Ss_nil, Ss_cons, getE_zero, getE_succ, ↓bind_rb, ↓ofR_rb, ↓rbk, ↓ork, rbk, ork, Bool.false_eq_true, if_false, oo_some, ob_some, om_some, getAll, OV.get, OV.refs, nodupN, putBack, set_zero, set_succ, List.set_cons_zero, List.set_cons_succ, bindT, bindTs, op2, List.contains_nil, List.contains_cons, Nat.reduceBEq, Bool.or_false, Bool.or_self, Bool.not_false, Bool.not_true, Bool.and_true, Bool.true_and, Bool.and_self, List.length_cons, List.length_nil, if_true, List.cons_append, List.nil_append, reduceIte, Nat.reduceLT, Nat.reduceAdd, prD, isD_tt, isD_ti, isD_lt, isD_li, isD_nt, isD_ni, isD_nb, isD_ii, isD_ib, isD_it, isD_bi, isD_bb, isD_bt, sz_0, sz_1, sz_2, sz_3, sz_4, sz_5, sz_6, sz_7, sz_8, sz_9, sz_10, sz_11, sz_12, sz_13, sz_14, sz_15, sz_16, sz_17, sz_18, sz_19, sz_20], e, p2, _, _, _, _, _, _, _, hp2.mono (by omega), rfl⟩)
  refine ⟨p', [some (.lst true goods), some (.lst true bads), x3, x4, x5, x6, x7, x8, x9], ?_⟩
  have hr := rangeOf_nat 8 (by unfold SZ; omega)
  have hr' : rangeOf [.int 8] = some ((List.range 8).map fun j : Nat => D.int (j : Int)) := hr
  have e1 := s1_v Φ (some p)
  have e2 := s2_v Φ (some p) (some (.lst true goods))
  rw [rbody] at e
  simp -dsimp only [b__law_right, ↓e1, ↓e2, E_lam, E_callM, E_isx, E_fld, Es_lam, Es_callM, Es_isx, Es_fld, E_const, E_glob, E_var, E_mov, E_op, E_isn, E_neg, E_notE, E_chain, E_andE, E_orE, E_ite, E_tup, E_lst, E_idx, E_slc, E_cb, E_call, E_callK, E_rng2, rngK_t, rngK_f, E_frz, Es_nil, Es_peek, Es_peekF, Es_star, Es_const, Es_glob, Es_var, Es_mov, Es_op, Es_isn, Es_neg, Es_notE, Es_chain, Es_andE, Es_orE, Es_ite, Es_tup, Es_lst, Es_idx, Es_slc, Es_cb, Es_call, Es_callK, Es_rng, Es_frz, Es_lc, Eb_nil, Eb_one, Ei_nil, Ei_cons, It_seq, It_range, It_enum, It_zip, S_ex, S_asg, S_par, S_seti, S_app, S_ext, S_aug, S_augi, S_ret, S_ifs, S_for_, S_while_, S_never, Ss_nil, Ss_cons, getE_zero, getE_succ, ↓bind_rb, ↓ofR_rb, ↓rbk, ↓ork, rbk, ork, Bool.false_eq_true, if_false, oo_some, ob_some, om_some, getAll, OV.get, OV.refs, nodupN, putBack, set_zero, set_succ, List.set_cons_zero, List.set_cons_succ, bindT, bindTs, op2, List.contains_nil, List.contains_cons, Nat.reduceBEq, Bool.or_false, Bool.or_self, Bool.not_false, Bool.not_true, Bool.and_true, Bool.true_and, Bool.and_self, List.length_cons, List.length_nil, if_true, List.cons_append, List.nil_append, reduceIte, Nat.reduceLT, Nat.reduceAdd, prD, isD_tt, isD_ti, isD_lt, isD_li, isD_nt, isD_ni, isD_nb, isD_ii, isD_ib, isD_it, isD_bi, isD_bb, isD_bt, sz_0, sz_1, sz_2, sz_3, sz_4, sz_5, sz_6, sz_7, sz_8, sz_9, sz_10, sz_11, sz_12, sz_13, sz_14, sz_15, sz_16, sz_17, sz_18, sz_19, sz_20, hr', e]
theorem right_ok (p : D) (hp : Pot 0 p) : ∃ p', runN PQ 29 60 [p] = .ok (.bl true) [p'] := by
  obtain ⟨p', r, e⟩ := right_b (runN PQ 28) (fun n d u h1 h2 h3 h4 => take_ok 27 n d u h1 h2 h3 h4) (fun n d xs h1 h2 h3 h4 h5 => of_ok 26 n d xs h1 h2 h3 h4 h5) (fun h c a t r b bc ba br bt x => right x) p hp
  exact ⟨p', run_ret (lk := [0]) (ρ0 := [some p, none, none, none, none, none, none, none, none, none]) rfl rfl rfl rfl e rfl⟩
theorem allTm : ∀ (xs : List D), (∀ x ∈ xs, x = .bl true) → boolsOf xs = some (xs.map fun _ => true) ∧ plainL xs = true ∧ ownL xs = false
  | [], _ => ⟨rfl, rfl, rfl⟩
  | x :: r, h => by
    have h1 := h x (by simp)
    obtain ⟨a, b, c⟩ := allTm r (fun y hy => h y (by simp [hy]))
    subst h1
    refine ⟨by simp [boolsOf, a], by simp [plainL, D.plain, b], by simp [ownL, D.own, c]⟩
theorem law_b (Φ : Fns) (s : D) (so : s.own = false) (n : Nat) (hn : n ≤ 3) (c54 : Φ 54 [s, .int 3] = .ok (.lst true ((List.range n).map fun j : Nat => D.int (j : Int))) [s, .int 3])
    (c51 : ∀ j : Nat, j < 3 → ∃ d, Φ 51 [s, .int (j : Int)] = .ok d [s, .int (j : Int)] ∧ ∃ d', Φ 60 [d] = .ok (.bl true) [d']) : ∃ r, exSs Φ [0] b_law [some s, none] = .ret (.bl true) (some s :: r) := by
  have hfz : frzL ((List.range n).map fun j : Nat => D.int (j : Int)) = (List.range n).map fun j : Nat => D.int (j : Int) := frzL_map _ _ fun _ _ => rfl
  obtain ⟨es, ρ6, e, ⟨o, rfl⟩, hl, hq⟩ := ev_lc_st Φ [1] (.slot 1) (.seq [.call 54 [.peek 0, .const (.int 3)]]) (.frz (.call 60 [.call 51 [.peek 0, .peek 1]])) [some s, none] [some s, none] ((List.range n).map fun j : Nat => D.int (j : Int))
    (fun i ρ => ∃ o, ρ = [some s, o]) (fun e => e = .bl true)
    (by simp -dsimp only [E_lam, E_callM, E_isx, E_fld, Es_lam, Es_callM, Es_isx, Es_fld, E_const, E_glob, E_var, E_mov, E_op, E_isn, E_neg, E_notE, E_chain, E_andE, E_orE, E_ite, E_tup, E_lst, E_idx, E_slc, E_cb, E_call, E_callK, E_rng2, rngK_t, rngK_f, E_frz, Es_nil, Es_peek, Es_peekF, Es_star, Es_const, Es_glob, Es_var, Es_mov, Es_op, Es_isn, Es_neg, Es_notE, Es_chain, Es_andE, Es_orE, Es_ite, Es_tup, Es_lst, Es_idx, Es_slc, Es_cb, Es_call, Es_callK, Es_rng, Es_frz, Es_lc, Eb_nil, Eb_one, Ei_nil, Ei_cons, It_seq, It_range, It_enum, It_zip, S_ex, S_asg, S_par, S_seti, S_app, S_ext, S_aug, S_augi, S_ret, S_ifs, S_for_, S_while_, S_never, Ss_nil, Ss_cons, getE_zero, getE_succ, ↓bind_rb, ↓ofR_rb, ↓rbk, ↓ork, rbk, ork, Bool.false_eq_true, if_false, oo_some, ob_some, om_some, getAll, OV.get, OV.refs, nodupN, putBack, set_zero, set_succ, List.set_cons_zero, List.set_cons_succ, bindT, bindTs, op2, List.contains_nil, List.contains_cons, Nat.reduceBEq, Bool.or_false, Bool.or_self, Bool.not_false, Bool.not_true, Bool.and_true, Bool.true_and, Bool.and_self, List.length_cons, List.length_nil, if_true, List.cons_append, List.nil_append, reduceIte, Nat.reduceLT, Nat.reduceAdd, prD, isD_tt, isD_ti, isD_lt, isD_li, isD_nt, isD_ni, isD_nb, isD_ii, isD_ib, isD_it, isD_bi, isD_bb, isD_bt, sz_0, sz_1, sz_2, sz_3, sz_4, sz_5, sz_6, sz_7, sz_8, sz_9, sz_10, sz_11, sz_12, sz_13, sz_14, sz_15, sz_16, sz_17, sz_18, sz_19, sz_20, c54, itemsAll, itemsOf, seqOf, hfz, seqG]) (by simp; unfold SZ; omega) rfl ⟨none, rfl⟩
    (by
      rintro x hx i ρ2 hi ⟨o, rfl⟩
      simp only [List.mem_map, List.mem_range] at hx
      obtain ⟨j, hj, rfl⟩ := hx
      obtain ⟨d, c, d', c'⟩ := c51 j (by omega)
      refine ⟨[some s, some (.int (j : Int))], .bl true, [some s, some (.int (j : Int))], rfl, ?_, ⟨_, rfl⟩, rfl⟩
      simp -dsimp only [E_lam, E_callM, E_isx, E_fld, Es_lam, Es_callM, Es_isx, Es_fld, E_const, E_glob, E_var, E_mov, E_op, E_isn, E_neg, E_notE, E_chain, E_andE, E_orE, E_ite, E_tup, E_lst, E_idx, E_slc, E_cb, E_call, E_callK, E_rng2, rngK_t, rngK_f, E_frz, Es_nil, Es_peek, Es_peekF, Es_star, Es_const, Es_glob, Es_var, Es_mov, Es_op, Es_isn, Es_neg, Es_notE, Es_chain, Es_andE, Es_orE, Es_ite, Es_tup, Es_lst, Es_idx, Es_slc, Es_cb, Es_call, Es_callK, Es_rng, Es_frz, Es_lc, Eb_nil, Eb_one, Ei_nil, Ei_cons, It_seq, It_range, It_enum, It_zip, S_ex, S_asg, S_par, S_seti, S_app, S_ext, S_aug, S_augi, S_ret, S_ifs, S_for_, S_while_, S_never, Ss_nil, Ss_cons, getE_zero, getE_succ, ↓bind_rb, ↓ofR_rb, ↓rbk, ↓ork, rbk, ork, Bool.false_eq_true, if_false, oo_some, ob_some, om_some, getAll, OV.get, OV.refs, nodupN, putBack, set_zero, set_succ, List.set_cons_zero, List.set_cons_succ, bindT, bindTs, op2, List.contains_nil, List.contains_cons, Nat.reduceBEq, Bool.or_false, Bool.or_self, Bool.not_false, Bool.not_true, Bool.and_true, Bool.true_and, Bool.and_self, List.length_cons, List.length_nil, if_true, List.cons_append, List.nil_append, reduceIte, Nat.reduceLT, Nat.reduceAdd, prD, isD_tt, isD_ti, isD_lt, isD_li, isD_nt, isD_ni, isD_nb, isD_ii, isD_ib, isD_it, isD_bi, isD_bb, isD_bt, sz_0, sz_1, sz_2, sz_3, sz_4, sz_5, sz_6, sz_7, sz_8, sz_9, sz_10, sz_11, sz_12, sz_13, sz_14, sz_15, sz_16, sz_17, sz_18, sz_19, sz_20, c, c', D.frz])
  obtain ⟨b1, b2, b3⟩ := allTm es hq
  have hall : allD (.lst true es) = some (.bl true) := by simp [allD, b1]
  have hback : backE [some s, none] [1] [some s, o] = [some s, none] := rfl
  rw [hback] at e
  exact ⟨[none], by simp -dsimp only [b_law, ↓e, E_lam, E_callM, E_isx, E_fld, Es_lam, Es_callM, Es_isx, Es_fld, E_const, E_glob, E_var, E_mov, E_op, E_isn, E_neg, E_notE, E_chain, E_andE, E_orE, E_ite, E_tup, E_lst, E_idx, E_slc, E_cb, E_call, E_callK, E_rng2, rngK_t, rngK_f, E_frz, Es_nil, Es_peek, Es_peekF, Es_star, Es_const, Es_glob, Es_var, Es_mov, Es_op, Es_isn, Es_neg, Es_notE, Es_chain, Es_andE, Es_orE, Es_ite, Es_tup, Es_lst, Es_idx, Es_slc, Es_cb, Es_call, Es_callK, Es_rng, Es_frz, Es_lc, Eb_nil, Eb_one, Ei_nil, Ei_cons, It_seq, It_range, It_enum, It_zip, S_ex, S_asg, S_par, S_seti, S_app, S_ext, S_aug, S_augi, S_ret, S_ifs, S_for_, S_while_, S_never, Ss_nil, Ss_cons, getE_zero, getE_succ, ↓bind_rb, ↓ofR_rb, ↓rbk, ↓ork, rbk, ork, Bool.false_eq_true, if_false, oo_some, ob_some, om_some, getAll, OV.get, OV.refs, nodupN, putBack, set_zero, set_succ, List.set_cons_zero, List.set_cons_succ, bindT, bindTs, op2, List.contains_nil, List.contains_cons, Nat.reduceBEq, Bool.or_false, Bool.or_self, Bool.not_false, Bool.not_true, Bool.and_true, Bool.true_and, Bool.and_self, List.length_cons, List.length_nil, if_true, List.cons_append, List.nil_append, reduceIte, Nat.reduceLT, Nat.reduceAdd, prD, isD_tt, isD_ti, isD_lt, isD_li, isD_nt, isD_ni, isD_nb, isD_ii, isD_ib, isD_it, isD_bi, isD_bb, isD_bt, sz_0, sz_1, sz_2, sz_3, sz_4, sz_5, sz_6, sz_7, sz_8, sz_9, sz_10, sz_11, sz_12, sz_13, sz_14, sz_15, sz_16, sz_17, sz_18, sz_19, sz_20, hall]⟩
theorem plainQ (ns : List Int) : ∃ as, runN PQ 30 61 [.scr (ns.map D.int)] = .ok (.bl true) as := by
  obtain ⟨n, hn, c54⟩ := cells_ok 28 ns
  have so : (D.scr (ns.map D.int)).own = false := by simp [D.own, ownL_int]
  obtain ⟨r, e⟩ := law_b (runN PQ 29) (.scr (ns.map D.int)) so n hn c54 (fun j hj => by
    obtain ⟨d, h1, h2⟩ := pot_ok 28 ns j (by omega)
    exact ⟨d, h1, right_ok d h2⟩)
  exact ⟨_, run_ret (lk := [0]) (ρ0 := [some (.scr (ns.map D.int)), none]) rfl rfl rfl rfl e rfl⟩
end LW
end

section
set_option Elab.async false
set_option linter.all false
set_option maxRecDepth 100000
set_option maxHeartbeats 0
namespace LW
open PySem PySem.Spec PyProof.Rows L2 Mi
def top (i : Nat) : Stmt := PySem.Challenge.pw_outandshut_k53_arrows_refused.main.body.getD i (.Pass ⟨0, 0, 0, 0⟩)
def f_is_integer : Fi := ⟨"is_integer", ["value"], ["value"], defScope (top 9), defArgs (top 9), defBody (top 9), ⟨1, 1, [], b_is_integer, false⟩⟩
def f_is_between : Fi := ⟨"is_between", ["value", "low", "high"], ["value", "low", "high"], defScope (top 10), defArgs (top 10), defBody (top 10), ⟨3, 3, [], b_is_between, false⟩⟩
def f_are_between : Fi := ⟨"are_between", ["value", "low", "high"], ["value", "low", "high", "one"], defScope (top 11), defArgs (top 11), defBody (top 11), ⟨3, 4, [], b_are_between, false⟩⟩
def f_is_ascending : Fi := ⟨"is_ascending", ["items"], ["items", "one", "other"], defScope (top 12), defArgs (top 12), defBody (top 12), ⟨1, 3, [], b_is_ascending, false⟩⟩
def f_is_door : Fi := ⟨"is_door", ["rooms", "value"], ["rooms", "value"], defScope (top 19), defArgs (top 19), defBody (top 19), ⟨2, 2, [], b_is_door, false⟩⟩
def f_are_doors : Fi := ⟨"are_doors", ["rooms", "value"], ["rooms", "value", "one", "other", "door"], defScope (top 20), defArgs (top 20), defBody (top 20), ⟨2, 5, [], b_are_doors, false⟩⟩
def f_are_rooms : Fi := ⟨"are_rooms", ["rooms", "value"], ["rooms", "value"], defScope (top 21), defArgs (top 21), defBody (top 21), ⟨2, 2, [], b_are_rooms, false⟩⟩
def f_is_house : Fi := ⟨"is_house", ["value"], ["value"], defScope (top 22), defArgs (top 22), defBody (top 22), ⟨1, 1, [], b_is_house, false⟩⟩
def f_check_house : Fi := ⟨"check_house", ["value"], ["value"], defScope (top 23), defArgs (top 23), defBody (top 23), ⟨1, 1, [], b_check_house, false⟩⟩
def f_is_crowd_of : Fi := ⟨"is_crowd_of", ["house", "value"], ["house", "value"], defScope (top 24), defArgs (top 24), defBody (top 24), ⟨2, 2, [], b_is_crowd_of, false⟩⟩
def f_check_crowd : Fi := ⟨"check_crowd", ["house", "crowd"], ["house", "crowd"], defScope (top 25), defArgs (top 25), defBody (top 25), ⟨2, 2, [], b_check_crowd, false⟩⟩
def f_check_ticks : Fi := ⟨"check_ticks", ["ticks"], ["ticks"], defScope (top 26), defArgs (top 26), defBody (top 26), ⟨1, 1, [], b_check_ticks, false⟩⟩
def f_near_of : Fi := ⟨"near_of", ["house"], ["house", "found", "one", "other", "wide", "room"], defScope (top 27), defArgs (top 27), defBody (top 27), ⟨1, 6, [], b_near_of, false⟩⟩
def f_is_arrow : Fi := ⟨"is_arrow", ["house", "near", "room", "value"], ["house", "near", "room", "value"], defScope (top 32), defArgs (top 32), defBody (top 32), ⟨4, 4, [], b_is_arrow, false⟩⟩
def f_are_arrows_of : Fi := ⟨"are_arrows_of", ["house", "value"], ["house", "value", "near", "room", "one"], defScope (top 33), defArgs (top 33), defBody (top 33), ⟨2, 5, [], b_are_arrows_of, false⟩⟩
def f_are_arrows : Fi := ⟨"are_arrows", ["house", "value"], ["house", "value"], defScope (top 34), defArgs (top 34), defBody (top 34), ⟨2, 2, [], b_are_arrows, false⟩⟩
def f_check_arrows : Fi := ⟨"check_arrows", ["house", "arrows"], ["house", "arrows"], defScope (top 35), defArgs (top 35), defBody (top 35), ⟨2, 2, [], b_check_arrows, false⟩⟩
def f_led_by : Fi := ⟨"led_by", ["arrows", "room"], ["arrows", "room", "found"], defScope (top 36), defArgs (top 36), defBody (top 36), ⟨2, 3, [], b_led_by, false⟩⟩
def f_does_lead : Fi := ⟨"does_lead", ["house", "arrows", "room"], ["house", "arrows", "room"], defScope (top 37), defArgs (top 37), defBody (top 37), ⟨3, 3, [], b_does_lead, false⟩⟩
def f_leads : Fi := ⟨"leads", ["house", "arrows", "room"], ["house", "arrows", "room"], defScope (top 38), defArgs (top 38), defBody (top 38), ⟨3, 3, [], b_leads, false⟩⟩
def f_arrows_told : Fi := ⟨"arrows_told", ["house", "arrows"], ["house", "arrows", "room", "way"], defScope (top 39), defArgs (top 39), defBody (top 39), ⟨2, 4, [], b_arrows_told, false⟩⟩
def f_is_round : Fi := ⟨"is_round", ["arrows", "value"], ["arrows", "value", "one", "other"], defScope (top 40), defArgs (top 40), defBody (top 40), ⟨2, 4, [], b_is_round, false⟩⟩
def f_shows_arrows : Fi := ⟨"shows_arrows", ["house", "arrows", "value"], ["house", "arrows", "value", "room"], defScope (top 41), defArgs (top 41), defBody (top 41), ⟨3, 4, [], b_shows_arrows, false⟩⟩
def f_far_of : Fi := ⟨"far_of", ["house"], ["house", "edge", "near", "found", "later", "here", "there", "room"], defScope (top 42), defArgs (top 42), defBody (top 42), ⟨1, 8, [], b_far_of, false⟩⟩
def f_short_by : Fi := ⟨"short_by", ["house"], ["house", "room", "near", "far", "found", "some", "there"], defScope (top 43), defArgs (top 43), defBody (top 43), ⟨1, 7, [], b_short_by, false⟩⟩
def f_short_arrows : Fi := ⟨"short_arrows", ["house"], ["house"], defScope (top 44), defArgs (top 44), defBody (top 44), ⟨1, 1, [], b_short_arrows, false⟩⟩
def f_gone_of : Fi := ⟨"gone_of", ["house", "step"], ["house", "step", "found", "door", "there", "back"], defScope (top 46), defArgs (top 46), defBody (top 46), ⟨2, 6, [], b_gone_of, false⟩⟩
def f_come_of : Fi := ⟨"come_of", ["house", "step"], ["house", "step", "found", "door", "there", "back"], defScope (top 47), defArgs (top 47), defBody (top 47), ⟨2, 6, [], b_come_of, false⟩⟩
def f_stepped : Fi := ⟨"stepped", ["house", "crowd", "step"], ["house", "crowd", "step", "rows", "there", "gone", "come"], defScope (top 48), defArgs (top 48), defBody (top 48), ⟨3, 7, [], b_stepped, false⟩⟩
def f_way_by : Fi := ⟨"way_by", ["door", "crowd", "arrows"], ["door", "crowd", "arrows", "there", "back", "one", "other", "wide"], defScope (top 50), defArgs (top 50), defBody (top 50), ⟨3, 8, [], b_way_by, false⟩⟩
def f_step_by : Fi := ⟨"step_by", ["house", "crowd", "arrows"], ["house", "crowd", "arrows", "door"], defScope (top 51), defArgs (top 51), defBody (top 51), ⟨3, 4, [], b_step_by, false⟩⟩
def f_walk_by : Fi := ⟨"walk_by", ["house", "crowd", "arrows", "ticks"], ["house", "crowd", "arrows", "ticks", "found", "tick"], defScope (top 52), defArgs (top 52), defBody (top 52), ⟨4, 6, [1], b_walk_by, false⟩⟩
def f_check_led : Fi := ⟨"check_led", ["house", "crowd", "arrows"], ["house", "crowd", "arrows"], defScope (top 53), defArgs (top 53), defBody (top 53), ⟨3, 3, [], b_check_led, false⟩⟩
def f_arrow_walk : Fi := ⟨"arrow_walk", ["house", "crowd", "arrows", "ticks"], ["house", "crowd", "arrows", "ticks"], defScope (top 54), defArgs (top 54), defBody (top 54), ⟨4, 4, [], b_arrow_walk, false⟩⟩
def f_do_come_out : Fi := ⟨"do_come_out", ["house", "crowd", "arrows"], ["house", "crowd", "arrows", "room", "number"], defScope (top 55), defArgs (top 55), defBody (top 55), ⟨3, 5, [], b_do_come_out, false⟩⟩
def f_crowds_of : Fi := ⟨"crowds_of", ["house", "crowd", "arrows"], ["house", "crowd", "arrows", "found", "room", "number"], defScope (top 56), defArgs (top 56), defBody (top 56), ⟨3, 6, [], b_crowds_of, false⟩⟩
def f_ticks_by : Fi := ⟨"ticks_by", ["house", "crowd", "arrows"], ["house", "crowd", "arrows"], defScope (top 57), defArgs (top 57), defBody (top 57), ⟨3, 3, [], b_ticks_by, false⟩⟩
def f_arrow_ticks : Fi := ⟨"arrow_ticks", ["house", "crowd", "arrows"], ["house", "crowd", "arrows"], defScope (top 58), defArgs (top 58), defBody (top 58), ⟨3, 3, [], b_arrow_ticks, false⟩⟩
def f_longest_queue : Fi := ⟨"longest_queue", ["house", "crowd", "arrows"], ["house", "crowd", "arrows", "rooms", "best", "tick", "there", "room"], defScope (top 59), defArgs (top 59), defBody (top 59), ⟨3, 8, [], b_longest_queue, false⟩⟩
def f_led_through : Fi := ⟨"led_through", ["arrows", "room", "crowd"], ["arrows", "room", "crowd", "here", "number"], defScope (top 62), defArgs (top 62), defBody (top 62), ⟨3, 5, [], b_led_through, false⟩⟩
def f_wide_of : Fi := ⟨"wide_of", ["house", "one", "other"], ["house", "one", "other", "first", "last", "wide"], defScope (top 63), defArgs (top 63), defBody (top 63), ⟨3, 6, [], b_wide_of, false⟩⟩
def f_bar_of : Fi := ⟨"bar_of", ["house", "crowd", "arrows", "room"], ["house", "crowd", "arrows", "room", "many"], defScope (top 64), defArgs (top 64), defBody (top 64), ⟨4, 5, [], b_bar_of, false⟩⟩
def f_bars_by : Fi := ⟨"bars_by", ["house", "crowd", "arrows"], ["house", "crowd", "arrows", "found", "room", "bar"], defScope (top 65), defArgs (top 65), defBody (top 65), ⟨3, 6, [], b_bars_by, false⟩⟩
def f_bar_told : Fi := ⟨"bar_told", ["house", "crowd", "arrows"], ["house", "crowd", "arrows", "some"], defScope (top 66), defArgs (top 66), defBody (top 66), ⟨3, 4, [], b_bar_told, false⟩⟩
def f_shows_bar : Fi := ⟨"shows_bar", ["house", "crowd", "arrows", "value"], ["house", "crowd", "arrows", "value", "some"], defScope (top 67), defArgs (top 67), defBody (top 67), ⟨4, 5, [], b_shows_bar, false⟩⟩
def f_check_all : Fi := ⟨"check_all", ["house", "crowd"], ["house", "crowd", "many", "room", "near"], defScope (top 68), defArgs (top 68), defBody (top 68), ⟨2, 5, [], b_check_all, false⟩⟩
def f_all_arrows : Fi := ⟨"all_arrows", ["house"], ["house", "found", "room", "near", "some", "longer", "row", "one"], defScope (top 69), defArgs (top 69), defBody (top 69), ⟨1, 8, [], b_all_arrows, false⟩⟩
def f_is_worth : Fi := ⟨"is_worth", ["house", "crowd", "arrows", "ticks"], ["house", "crowd", "arrows", "ticks", "bar", "room"], defScope (top 70), defArgs (top 70), defBody (top 70), ⟨4, 6, [], b_is_worth, false⟩⟩
def f_best_by : Fi := ⟨"best_by", ["house", "crowd"], ["house", "crowd", "best", "arrows", "ticks", "number", "far"], defScope (top 71), defArgs (top 71), defBody (top 71), ⟨2, 7, [], b_best_by, false⟩⟩
def f_best_arrows : Fi := ⟨"best_arrows", ["house", "crowd"], ["house", "crowd"], defScope (top 72), defArgs (top 72), defBody (top 72), ⟨2, 2, [], b_best_arrows, false⟩⟩
def f_shows_best_arrows : Fi := ⟨"shows_best_arrows", ["house", "crowd", "value"], ["house", "crowd", "value", "best"], defScope (top 73), defArgs (top 73), defBody (top 73), ⟨3, 4, [], b_shows_best_arrows, false⟩⟩
def f__law_pot : Fi := ⟨"_law_pot", ["script", "place"], ["script", "place", "cell", "own", "small"], defScope (top 75), defArgs (top 75), defBody (top 75), ⟨2, 5, [], b__law_pot, false⟩⟩
def f__law_take : Fi := ⟨"_law_take", ["pot", "upto"], ["pot", "upto", "prime", "blend", "digit"], defScope (top 76), defArgs (top 76), defBody (top 76), ⟨2, 5, [], b__law_take, false⟩⟩
def f__law_of : Fi := ⟨"_law_of", ["pot", "some"], ["pot", "some"], defScope (top 77), defArgs (top 77), defBody (top 77), ⟨2, 2, [], b__law_of, false⟩⟩
def f__law_cells : Fi := ⟨"_law_cells", ["script", "most"], ["script", "most"], defScope (top 78), defArgs (top 78), defBody (top 78), ⟨2, 2, [], b__law_cells, false⟩⟩
def f__law_is_int : Fi := ⟨"_law_is_int", ["value", "low", "high"], ["value", "low", "high"], defScope (top 79), defArgs (top 79), defBody (top 79), ⟨3, 3, [], b__law_is_int, false⟩⟩
def f__law_caught : Fi := ⟨"_law_caught", ["look"], ["look", "caught", "back", "error"], defScope (top 80), defArgs (top 80), defBody (top 80), ⟨1, 4, [], b__law_caught, false⟩⟩
def f__law_word_of : Fi := ⟨"_law_word_of", ["caught"], ["caught", "kinds", "words", "word", "is_it"], defScope (top 81), defArgs (top 81), defBody (top 81), ⟨1, 5, [], b__law_word_of, false⟩⟩
def f__law_is_due : Fi := ⟨"_law_is_due", ["look", "dues"], ["look", "dues", "caught", "wrong", "kind", "value", "is_right"], defScope (top 82), defArgs (top 82), defBody (top 82), ⟨2, 7, [], b__law_is_due, false⟩⟩
def f__law_are_right : Fi := ⟨"_law_are_right", ["house", "is_house_v", "crowd", "arrows", "ticks", "room"], ["house", "is_house_v", "crowd", "arrows", "ticks", "room", "rooms", "head", "people", "known", "fine", "pointed", "led", "looks", "look", "due", "number"], defScope (top 83), defArgs (top 83), defBody (top 83), ⟨6, 17, [], b__law_are_right, true⟩⟩
def f__law_right : Fi := ⟨"_law_right", ["pot"], ["pot", "good", "bad", "lap", "is_house_v", "house", "crowd", "arrows", "ticks", "room"], defScope (top 84), defArgs (top 84), defBody (top 84), ⟨1, 10, [], b__law_right, false⟩⟩
def f_law : Fi := ⟨"law", ["script"], ["script", "place"], defScope (top 85), defArgs (top 85), defBody (top 85), ⟨1, 2, [], b_law, false⟩⟩
def fs : List Fi := [f_is_integer, f_is_between, f_are_between, f_is_ascending, f_is_door, f_are_doors, f_are_rooms, f_is_house, f_check_house, f_is_crowd_of, f_check_crowd, f_check_ticks, f_near_of, f_is_arrow, f_are_arrows_of, f_are_arrows, f_check_arrows, f_led_by, f_does_lead, f_leads, f_arrows_told, f_is_round, f_shows_arrows, f_far_of, f_short_by, f_short_arrows, f_gone_of, f_come_of, f_stepped, f_way_by, f_step_by, f_walk_by, f_check_led, f_arrow_walk, f_do_come_out, f_crowds_of, f_ticks_by, f_arrow_ticks, f_longest_queue, f_led_through, f_wide_of, f_bar_of, f_bars_by, f_bar_told, f_shows_bar, f_check_all, f_all_arrows, f_is_worth, f_best_by, f_best_arrows, f_shows_best_arrows, f__law_pot, f__law_take, f__law_of, f__law_cells, f__law_is_int, f__law_caught, f__law_word_of, f__law_is_due, f__law_are_right, f__law_right, f_law]
def ls : List Li := [⟨["house"], .call 15 [.peek 0, .const .non]⟩, ⟨["house"], .call 25 [.peek 0]⟩, ⟨["house", "arrows", "room"], .call 19 [.peek 0, .peek 1, .peek 2]⟩, ⟨["house", "arrows"], .call 20 [.peek 0, .peek 1]⟩, ⟨["house", "arrows"], .call 22 [.peek 0, .peek 1, .const .non]⟩, ⟨["house", "crowd", "arrows", "ticks"], .call 33 [.peek 0, .peek 1, .peek 2, .peek 3]⟩, ⟨["house", "crowd", "arrows"], .call 37 [.peek 0, .peek 1, .peek 2]⟩, ⟨["house", "crowd", "arrows"], .call 38 [.peek 0, .peek 1, .peek 2]⟩, ⟨["house", "crowd", "arrows"], .call 43 [.peek 0, .peek 1, .peek 2]⟩, ⟨["house", "crowd", "arrows"], .call 44 [.peek 0, .peek 1, .peek 2, .const .non]⟩, ⟨["house", "crowd"], .call 49 [.peek 0, .peek 1]⟩, ⟨["house", "crowd"], .call 50 [.peek 0, .peek 1, .const .non]⟩]
def g : Gx := { fns := fs.map fun f => (f.name, f.ps), kws := [], cns := [("MOST_ARROWS", D.int 2000), ("MOST_PEOPLE", D.int 50), ("MOST_ROOMS", D.int 10), ("MOST_TICKS", D.int 16), ("MOST_WIDE", D.int 20), ("OUT", D.str "out"), ("ROUND", D.str "round"), ("STUCK", D.str "stuck"), ("THREE", D.int 3)], blt := ["abs", "all", "any", "bool", "enumerate", "int", "isinstance", "len", "list", "max", "min", "range", "repr", "set", "sorted", "str", "sum", "tuple", "zip"], exs := ["BadHouse", "BadCrowd", "BadTicks", "BadArrows", "BadRoom", "TooMany"] }
def PP : List Fd := allFd fs ls
def ini : InitP := ⟨defArgs (clsFn (top 1)), defBody (clsFn (top 1)), defScope (clsFn (top 1)), "FireError.__init__"⟩
end LW
namespace LW
open PySem PySem.Spec PyProof.Rows L2 Mi
def depth : Nat := 30
theorem plain : ∀ ns : List Int, ns.length ≤ 63 → ∃ as, runN (allFd fs ls) depth 61 [.scr (ns.map D.int)] = .ok (.bl true) as := fun ns _ => by rw [show allFd fs ls = PQ by kernel_rfl]; exact plainQ ns
theorem bp_is_integer : PosOk f_is_integer := by
  intro kV doc pm cdv ct an us h
  match us, h with
  | [a0], _ => kernel_rfl
theorem bp_is_between : PosOk f_is_between := by
  intro kV doc pm cdv ct an us h
  match us, h with
  | [a0, a1, a2], _ => kernel_rfl
theorem bp_are_between : PosOk f_are_between := by
  intro kV doc pm cdv ct an us h
  match us, h with
  | [a0, a1, a2], _ => kernel_rfl
theorem bp_is_ascending : PosOk f_is_ascending := by
  intro kV doc pm cdv ct an us h
  match us, h with
  | [a0], _ => kernel_rfl
theorem bp_is_door : PosOk f_is_door := by
  intro kV doc pm cdv ct an us h
  match us, h with
  | [a0, a1], _ => kernel_rfl
theorem bp_are_doors : PosOk f_are_doors := by
  intro kV doc pm cdv ct an us h
  match us, h with
  | [a0, a1], _ => kernel_rfl
theorem bp_are_rooms : PosOk f_are_rooms := by
  intro kV doc pm cdv ct an us h
  match us, h with
  | [a0, a1], _ => kernel_rfl
theorem bp_is_house : PosOk f_is_house := by
  intro kV doc pm cdv ct an us h
  match us, h with
  | [a0], _ => kernel_rfl
theorem bp_check_house : PosOk f_check_house := by
  intro kV doc pm cdv ct an us h
  match us, h with
  | [a0], _ => kernel_rfl
theorem bp_is_crowd_of : PosOk f_is_crowd_of := by
  intro kV doc pm cdv ct an us h
  match us, h with
  | [a0, a1], _ => kernel_rfl
theorem bp_check_crowd : PosOk f_check_crowd := by
  intro kV doc pm cdv ct an us h
  match us, h with
  | [a0, a1], _ => kernel_rfl
theorem bp_check_ticks : PosOk f_check_ticks := by
  intro kV doc pm cdv ct an us h
  match us, h with
  | [a0], _ => kernel_rfl
theorem bp_near_of : PosOk f_near_of := by
  intro kV doc pm cdv ct an us h
  match us, h with
  | [a0], _ => kernel_rfl
theorem bp_is_arrow : PosOk f_is_arrow := by
  intro kV doc pm cdv ct an us h
  match us, h with
  | [a0, a1, a2, a3], _ => kernel_rfl
theorem bp_are_arrows_of : PosOk f_are_arrows_of := by
  intro kV doc pm cdv ct an us h
  match us, h with
  | [a0, a1], _ => kernel_rfl
theorem bp_are_arrows : PosOk f_are_arrows := by
  intro kV doc pm cdv ct an us h
  match us, h with
  | [a0, a1], _ => kernel_rfl
theorem bp_check_arrows : PosOk f_check_arrows := by
  intro kV doc pm cdv ct an us h
  match us, h with
  | [a0, a1], _ => kernel_rfl
theorem bp_led_by : PosOk f_led_by := by
  intro kV doc pm cdv ct an us h
  match us, h with
  | [a0, a1], _ => kernel_rfl
theorem bp_does_lead : PosOk f_does_lead := by
  intro kV doc pm cdv ct an us h
  match us, h with
  | [a0, a1, a2], _ => kernel_rfl
theorem bp_leads : PosOk f_leads := by
  intro kV doc pm cdv ct an us h
  match us, h with
  | [a0, a1, a2], _ => kernel_rfl
theorem bp_arrows_told : PosOk f_arrows_told := by
  intro kV doc pm cdv ct an us h
  match us, h with
  | [a0, a1], _ => kernel_rfl
theorem bp_is_round : PosOk f_is_round := by
  intro kV doc pm cdv ct an us h
  match us, h with
  | [a0, a1], _ => kernel_rfl
theorem bp_shows_arrows : PosOk f_shows_arrows := by
  intro kV doc pm cdv ct an us h
  match us, h with
  | [a0, a1, a2], _ => kernel_rfl
theorem bp_far_of : PosOk f_far_of := by
  intro kV doc pm cdv ct an us h
  match us, h with
  | [a0], _ => kernel_rfl
theorem bp_short_by : PosOk f_short_by := by
  intro kV doc pm cdv ct an us h
  match us, h with
  | [a0], _ => kernel_rfl
theorem bp_short_arrows : PosOk f_short_arrows := by
  intro kV doc pm cdv ct an us h
  match us, h with
  | [a0], _ => kernel_rfl
theorem bp_gone_of : PosOk f_gone_of := by
  intro kV doc pm cdv ct an us h
  match us, h with
  | [a0, a1], _ => kernel_rfl
theorem bp_come_of : PosOk f_come_of := by
  intro kV doc pm cdv ct an us h
  match us, h with
  | [a0, a1], _ => kernel_rfl
theorem bp_stepped : PosOk f_stepped := by
  intro kV doc pm cdv ct an us h
  match us, h with
  | [a0, a1, a2], _ => kernel_rfl
theorem bp_way_by : PosOk f_way_by := by
  intro kV doc pm cdv ct an us h
  match us, h with
  | [a0, a1, a2], _ => kernel_rfl
theorem bp_step_by : PosOk f_step_by := by
  intro kV doc pm cdv ct an us h
  match us, h with
  | [a0, a1, a2], _ => kernel_rfl
theorem bp_walk_by : PosOk f_walk_by := by
  intro kV doc pm cdv ct an us h
  match us, h with
  | [a0, a1, a2, a3], _ => kernel_rfl
theorem bp_check_led : PosOk f_check_led := by
  intro kV doc pm cdv ct an us h
  match us, h with
  | [a0, a1, a2], _ => kernel_rfl
theorem bp_arrow_walk : PosOk f_arrow_walk := by
  intro kV doc pm cdv ct an us h
  match us, h with
  | [a0, a1, a2, a3], _ => kernel_rfl
theorem bp_do_come_out : PosOk f_do_come_out := by
  intro kV doc pm cdv ct an us h
  match us, h with
  | [a0, a1, a2], _ => kernel_rfl
theorem bp_crowds_of : PosOk f_crowds_of := by
  intro kV doc pm cdv ct an us h
  match us, h with
  | [a0, a1, a2], _ => kernel_rfl
theorem bp_ticks_by : PosOk f_ticks_by := by
  intro kV doc pm cdv ct an us h
  match us, h with
  | [a0, a1, a2], _ => kernel_rfl
theorem bp_arrow_ticks : PosOk f_arrow_ticks := by
  intro kV doc pm cdv ct an us h
  match us, h with
  | [a0, a1, a2], _ => kernel_rfl
theorem bp_longest_queue : PosOk f_longest_queue := by
  intro kV doc pm cdv ct an us h
  match us, h with
  | [a0, a1, a2], _ => kernel_rfl
theorem bp_led_through : PosOk f_led_through := by
  intro kV doc pm cdv ct an us h
  match us, h with
  | [a0, a1, a2], _ => kernel_rfl
theorem bp_wide_of : PosOk f_wide_of := by
  intro kV doc pm cdv ct an us h
  match us, h with
  | [a0, a1, a2], _ => kernel_rfl
theorem bp_bar_of : PosOk f_bar_of := by
  intro kV doc pm cdv ct an us h
  match us, h with
  | [a0, a1, a2, a3], _ => kernel_rfl
theorem bp_bars_by : PosOk f_bars_by := by
  intro kV doc pm cdv ct an us h
  match us, h with
  | [a0, a1, a2], _ => kernel_rfl
theorem bp_bar_told : PosOk f_bar_told := by
  intro kV doc pm cdv ct an us h
  match us, h with
  | [a0, a1, a2], _ => kernel_rfl
theorem bp_shows_bar : PosOk f_shows_bar := by
  intro kV doc pm cdv ct an us h
  match us, h with
  | [a0, a1, a2, a3], _ => kernel_rfl
theorem bp_check_all : PosOk f_check_all := by
  intro kV doc pm cdv ct an us h
  match us, h with
  | [a0, a1], _ => kernel_rfl
theorem bp_all_arrows : PosOk f_all_arrows := by
  intro kV doc pm cdv ct an us h
  match us, h with
  | [a0], _ => kernel_rfl
theorem bp_is_worth : PosOk f_is_worth := by
  intro kV doc pm cdv ct an us h
  match us, h with
  | [a0, a1, a2, a3], _ => kernel_rfl
theorem bp_best_by : PosOk f_best_by := by
  intro kV doc pm cdv ct an us h
  match us, h with
  | [a0, a1], _ => kernel_rfl
theorem bp_best_arrows : PosOk f_best_arrows := by
  intro kV doc pm cdv ct an us h
  match us, h with
  | [a0, a1], _ => kernel_rfl
theorem bp_shows_best_arrows : PosOk f_shows_best_arrows := by
  intro kV doc pm cdv ct an us h
  match us, h with
  | [a0, a1, a2], _ => kernel_rfl
theorem bp__law_pot : PosOk f__law_pot := by
  intro kV doc pm cdv ct an us h
  match us, h with
  | [a0, a1], _ => kernel_rfl
theorem bp__law_take : PosOk f__law_take := by
  intro kV doc pm cdv ct an us h
  match us, h with
  | [a0, a1], _ => kernel_rfl
theorem bp__law_of : PosOk f__law_of := by
  intro kV doc pm cdv ct an us h
  match us, h with
  | [a0, a1], _ => kernel_rfl
theorem bp__law_cells : PosOk f__law_cells := by
  intro kV doc pm cdv ct an us h
  match us, h with
  | [a0, a1], _ => kernel_rfl
theorem bp__law_is_int : PosOk f__law_is_int := by
  intro kV doc pm cdv ct an us h
  match us, h with
  | [a0, a1, a2], _ => kernel_rfl
theorem bp__law_caught : PosOk f__law_caught := by
  intro kV doc pm cdv ct an us h
  match us, h with
  | [a0], _ => kernel_rfl
theorem bp__law_word_of : PosOk f__law_word_of := by
  intro kV doc pm cdv ct an us h
  match us, h with
  | [a0], _ => kernel_rfl
theorem bp__law_is_due : PosOk f__law_is_due := by
  intro kV doc pm cdv ct an us h
  match us, h with
  | [a0, a1], _ => kernel_rfl
theorem bp__law_are_right : PosOk f__law_are_right := by
  intro kV doc pm cdv ct an us h
  match us, h with
  | [a0, a1, a2, a3, a4, a5], _ => kernel_rfl
theorem bp__law_right : PosOk f__law_right := by
  intro kV doc pm cdv ct an us h
  match us, h with
  | [a0], _ => kernel_rfl
theorem bp_law : PosOk f_law := by
  intro kV doc pm cdv ct an us h
  match us, h with
  | [a0], _ => kernel_rfl
theorem allp : AllP fs := ⟨bp_is_integer, bp_is_between, bp_are_between, bp_is_ascending, bp_is_door, bp_are_doors, bp_are_rooms, bp_is_house, bp_check_house, bp_is_crowd_of, bp_check_crowd, bp_check_ticks, bp_near_of, bp_is_arrow, bp_are_arrows_of, bp_are_arrows, bp_check_arrows, bp_led_by, bp_does_lead, bp_leads, bp_arrows_told, bp_is_round, bp_shows_arrows, bp_far_of, bp_short_by, bp_short_arrows, bp_gone_of, bp_come_of, bp_stepped, bp_way_by, bp_step_by, bp_walk_by, bp_check_led, bp_arrow_walk, bp_do_come_out, bp_crowds_of, bp_ticks_by, bp_arrow_ticks, bp_longest_queue, bp_led_through, bp_wide_of, bp_bar_of, bp_bars_by, bp_bar_told, bp_shows_bar, bp_check_all, bp_all_arrows, bp_is_worth, bp_best_by, bp_best_arrows, bp_shows_best_arrows, bp__law_pot, bp__law_take, bp__law_of, bp__law_cells, bp__law_is_int, bp__law_caught, bp__law_word_of, bp__law_is_due, bp__law_are_right, bp__law_right, bp_law, trivial⟩
theorem allk : AllK fs g.kws := trivial
theorem okall : okAll g fs ls = true := by kernel_rfl
abbrev R : PySem.W.OpenRow := PySem.W.OpenLaw.row PySem.Challenge.rw_outandshut_k53_arrows_refused
def fn : List He.DefD := fs.map Fi.d
def fa : List He.Fa := faOf g fs
abbrev pr : Program := (PySem.W.OpenLaw.row PySem.Challenge.rw_outandshut_k53_arrows_refused).prog
abbrev hk : PySem.W.Hook := hookX 4 fa fn g.exs (mkrs fs) pr ini
def ob (s : PySem.W.SharedT) : AlX := obsXG 4 fa fn g.exs (mkrs fs) pr (HandSHeadRun.getT s)
theorem ob_eq (s : PySem.W.SharedT) : ob s = hk.obs s.abs := obsXG_eq (I := ini) (HandSHeadRun.getT_eq s)
theorem iniok : InitOk PySem.Challenge.rw_outandshut_k53_arrows_refused.prog ini := by
  refine ⟨⟨_, _, _, _, _, _, _, _, _, _, rfl, _, fun env => rfl⟩, ⟨_, rfl, by decide +kernel⟩, rfl, rfl, rfl, by decide +kernel, by decide +kernel, by decide +kernel, by decide +kernel, by decide +kernel, by decide +kernel, fun nm q body scope gl bl cl kV doc pm cdv ct an e v => ?_⟩
  kernel_rfl
def nm0 : List Str := ["FireError", "BadArrows", "BadCrowd", "BadHouse", "BadRoom", "BadTicks", "TooMany", "is_integer", "is_between", "are_between", "is_ascending", "MOST_ROOMS", "MOST_WIDE", "MOST_PEOPLE", "MOST_TICKS", "THREE", "is_door", "are_doors", "are_rooms", "is_house", "check_house", "is_crowd_of", "check_crowd", "check_ticks", "near_of", "OUT", "STUCK", "ROUND", "is_arrow", "are_arrows_of"]
def nm1 : List Str := ["are_arrows", "check_arrows", "led_by", "does_lead", "leads", "arrows_told", "is_round", "shows_arrows", "far_of", "short_by", "short_arrows", "gone_of", "come_of", "stepped", "way_by", "step_by", "walk_by", "check_led", "arrow_walk", "do_come_out", "crowds_of", "ticks_by", "arrow_ticks", "longest_queue", "MOST_ARROWS", "led_through", "wide_of", "bar_of", "bars_by", "bar_told"]
def nm2 : List Str := ["shows_bar", "check_all", "all_arrows", "is_worth", "best_by", "best_arrows", "shows_best_arrows", "_law_pot", "_law_take", "_law_of", "_law_cells", "_law_is_int", "_law_caught", "_law_word_of", "_law_is_due", "_law_are_right", "_law_right"]
abbrev nms : List Str := nm0 ++ nm1 ++ nm2
theorem run (w : World) : HandSHeadRun.RunEq R (PySem.W.view R.prog [83, 85]) hk ob 20000 nms w := by
  intro os
  kernel_rfl
end LW
open PySem PySem.W PySem.Calls PyProof.Rows
theorem PySem.Challenge.cw_outandshut_k53_arrows_refused_holds : PySem.Challenge.rw_outandshut_k53_arrows_refused.Holds := by
  w_on; o_law
  refine HandSHeadRun.head_any (r := OpenLaw.row PySem.Challenge.rw_outandshut_k53_arrows_refused) (q := view (OpenLaw.row PySem.Challenge.rw_outandshut_k53_arrows_refused).prog [83, 85]) (H := LW.hk) (ob := LW.ob) (M := 20000) (loose := LW.nms) (d := HandSHeadRun.topDef (OpenLaw.row PySem.Challenge.rw_outandshut_k53_arrows_refused).prog 85) (kwd := []) LW.ob_eq
    (by kernel_rfl) (fun s => by kernel_rfl) LW.run (by kernel_rfl) (by kernel_rfl) (by kernel_rfl) (by rfl) (by first | assumption | decide +kernel) (by decide +kernel) ⟨rfl, rfl, rfl, rfl, rfl, by decide +kernel⟩ ?hw ?hc
  case hw => w_witness2
  case hc => exact Mi.law_end (g := LW.g) (fs := LW.fs) (ls := LW.ls) (iL := 61) (f := LW.f_law) (k := LW.depth) rfl (by decide) rfl ⟨by decide, by decide, by decide⟩ LW.okall (by kernel_rfl) (Mi.bind_all LW.allp LW.allk) rfl rfl rfl (by decide +kernel) LW.plain (fun w h ⟨K, KX, c⟩ => ⟨K, KX, c.d, c.2, c.nd, fun mg G => c.x KX G LW.iniok⟩)
end
