import PyProof.Rows.All
import PyProof.ReprReads
import HandS.Text
import Wide.All
import OpenK.AllK
import Wide.FinOn
import HandS.ForMost
import HandS.TupMul
import HandS.Wide
import HandS.Deep
import HandS.TupAny
import HandS.SortInts
import HandS.IsInst
import HandS.RaiseMore
import PyProof.P3In
import PyProof.SumWalkG
import PyProof.Rows.RuleB_pow
import HandS.Star
import HandS.Conv
import HandS.Comp
import KE.GoesNew
import HandS.Zip
import HandS.HeadEnd
import HandS.HeadHook2
import HandS.Exc
import PyProof.ReprLen
import HandS.More
import HandS.Words
import HandS.WordsExc
import HandS.Defaults
import HandS.Head0
import HandS.Head1
import HandS.Head2
import HandS.HeadHook1
import PySem.Challenge.RW_outandshut_k08_whole_floors_down_one_sta
section
set_option linter.all false
set_option maxRecDepth 100000
/-! A small language by values, and what it computes. -/
namespace Mi
open PySem (Str PyData)

/-- what a value tells; lists and dicts bear whether they are held by one name alone (true) -/
inductive D where
  | non | bl (b : Bool) | int (i : Int) | str (s : Str)
  | tup (ds : List D) | lst (o : Bool) (ds : List D) | dct (o : Bool) (ks vs : List D)
  | scr (ds : List D)
  | typ (n : String) | cls (c : Nat) | exc (c : Nat) (d : D) | clo (k : Nat) (cs : List D)
  deriving Inhabited

mutual
def D.own : D → Bool
  | .lst o ds => o || ownL ds
  | .tup ds => ownL ds
  | .dct o ks vs => o || (ownL ks || ownL vs)
  | .exc _ d => d.own
  | .clo _ cs => ownL cs
  | .scr ds => ownL ds
  | .non => false
  | .bl _ => false
  | .int _ => false
  | .str _ => false
  | .typ _ => false
  | .cls _ => false
def ownL : List D → Bool
  | [] => false
  | d :: r => d.own || ownL r
end
mutual
def D.frz : D → D
  | .lst _ ds => .lst false (frzL ds)
  | .tup ds => .tup (frzL ds)
  | .dct _ ks vs => .dct false (frzL ks) (frzL vs)
  | .exc c d => .exc c d.frz
  | .clo k cs => .clo k (frzL cs)
  | .scr ds => .scr (frzL ds)
  | .non => .non
  | .bl b => .bl b
  | .int i => .int i
  | .str s => .str s
  | .typ n => .typ n
  | .cls c => .cls c
def frzL : List D → List D
  | [] => []
  | d :: r => d.frz :: frzL r
end
mutual
def D.pd : D → PyData
  | .lst _ ds => .list (pdL ds)
  | .tup ds => .tuple (pdL ds)
  | .bl b => .bool b
  | .int i => .int i
  | .str s => .str s
  | .non => .none
  | .dct _ _ _ => .none
  | .exc _ _ => .none
  | .clo _ _ => .none
  | .scr _ => .none
  | .typ _ => .none
  | .cls _ => .none
def pdL : List D → List PyData
  | [] => []
  | d :: r => d.pd :: pdL r
end
mutual
/-- plain data: no dicts, no classes -/
def D.isPd : D → Bool
  | .lst _ ds => isPdL ds
  | .tup ds => isPdL ds
  | .bl _ => true
  | .int _ => true
  | .str _ => true
  | .non => true
  | .dct _ _ _ => false
  | .exc _ _ => false
  | .clo _ _ => false
  | .scr _ => false
  | .typ _ => false
  | .cls _ => false
def isPdL : List D → Bool
  | [] => true
  | d :: r => d.isPd && isPdL r
end

abbrev Env := List (Option D)
def getE (ρ : Env) (i : Nat) : Option D := match ρ[i]? with
  | some o => o
  | none => none

inductive R (α : Type) where
  | ok (a : α) (ρ : Env)
  | exc (c : Nat) (d : D) (ρ : Env)
  | stk
@[inline] def R.bind {α β : Type} (r : R α) (f : α → Env → R β) : R β := match r with
  | .ok a ρ => f a ρ
  | .exc c d ρ => .exc c d ρ
  | .stk => .stk

def ofOpt {α : Type} (o : Option α) (ρ : Env) : R α := match o with
  | some a => .ok a ρ
  | none => .stk

inductive Op2 where
  | add | sub | mul | fdiv | mod | pow | eq | ne | lt | le | gt | ge | mem | nmem
  deriving DecidableEq
/-- built-ins by name -/
inductive Pr where
  | len | sum | min | max | abs | int | str | repr | sorted | list | tuple | all | any | isi
  deriving DecidableEq
inductive Tg where
  | slot (i : Nat) | tup (ts : List Tg)

mutual
inductive IE where
  | const (d : D) | glob (d : D)
  | var (i : Nat) | mov (i : Nat) | peek (i : Nat) | peekF (i : Nat) | star (e : IE)
  | op (o : Op2) (es : List IE)
  | isn (neg : Bool) (es : List IE)
  | neg (es : List IE)
  | notE (e : IE)
  | chain (o1 o2 : Op2) (es cs : List IE)
  | andE (a b : IE) | orE (a b : IE)
  | ite (c a b : IE)
  | tup (es : List IE) | lst (es : List IE)
  | idx (es : List IE)
  | slc (es lo hi : List IE)
  | cb (p : Pr) (es : List IE)
  | call (f : Nat) (es : List IE)
  | callK (f : Nat) (es : List IE) (perm : List Nat)
  | frz (e : IE)
  | rng (tup : Bool) (es : List IE)
  | lc (vs : List Nat) (tg : Tg) (it : It) (ifs : List IE) (elt : IE)
inductive It where
  | seq (es : List IE)
  | range (es : List IE)
  | enum (es : List IE)
  | zip (es : List IE)
end

inductive IS where
  | ex (e : IE)
  | asg (tg : Tg) (e : IE)
  | par (is : List Nat) (es : List IE)
  | seti (i : Nat) (e ix : IE)
  | app (i : Nat) (e : IE)
  | ext (i : Nat) (e : IE)
  | aug (i : Nat) (sub : Bool) (e : IE)
  | augi (i : Nat) (sub : Bool) (ix e : IE)
  | ret (e : IE)
  | ifs (c : IE) (a b : List IS)
  | for_ (tg : Tg) (it : It) (body : List IS)
  | while_ (c : IE) (body : List IS)
  | never

/-! ### the operations -/
def SZ : Nat := 16777216
def eqD (a b : D) : Option Bool :=
  if a.isPd && b.isPd && PySem.SeqAt.shaped a.pd && PySem.SeqAt.shaped b.pd then some (PyData.eqv a.pd b.pd) else none
def memD (a : D) (xs : List D) : Option Bool :=
  if a.isPd && isPdL xs && PySem.SeqAt.shaped a.pd && PySem.SeqAt.shaped (.list (pdL xs)) then some ((pdL xs).any fun z => PyData.eqv z a.pd) else none
def mulOk (i j : Int) : Bool := decide (i.natAbs < 18446744073709551616) || decide (j.natAbs < 18446744073709551616)
def addD : D → D → Option D
  | .int i, .int j => some (.int (i + j))
  | .str s, .str t => if s.length + t.length ≤ SZ then some (.str (s ++ t)) else none
  | .lst _ xs, .lst _ ys => if ownL xs || ownL ys then none else if xs.length + ys.length ≤ SZ then some (.lst true (xs ++ ys)) else none
  | .tup xs, .tup ys => if ownL xs || ownL ys then none else if xs.length + ys.length ≤ SZ then some (.tup (xs ++ ys)) else none
  | _, _ => none
def subD : D → D → Option D
  | .int i, .int j => some (.int (i - j))
  | _, _ => none
def mulD : D → D → Option D
  | .int i, .int j => if mulOk i j then some (.int (i * j)) else none
  | .lst _ xs, .int k => if ownL xs then none else if -1000000 < k && k < 1000000 && xs.length * k.toNat ≤ 1000000 then some (.lst true ((List.replicate k.toNat xs).flatten)) else none
  | .tup xs, .int k => if ownL xs then none else if -1000000 < k && k < 1000000 then (if xs.isEmpty || k == 1 then some (.tup xs) else if k ≤ 0 then some (.tup []) else if k ≤ 1000 && decide (xs.length ≤ 1000) then some (.tup ((List.replicate k.toNat xs).flatten)) else none) else none
  | _, _ => none
def fdivD : D → D → Option D
  | .int i, .int j => if 0 < j ∧ j < 1073741824 then some (.int (i / j)) else none
  | _, _ => none
def modD : D → D → Option D
  | .int i, .int j => if 0 < j then some (.int (i % j)) else none
  | _, _ => none
def powD : D → D → Option D
  | .int i, .int j => if 0 ≤ j ∧ j ≤ 1000000 ∧ (i.natAbs.log2 + 1) * j.toNat ≤ 1000000 then some (.int (i ^ j.toNat)) else none
  | _, _ => none
def cmpD (p : Int → Int → Bool) : D → D → Option D
  | .int i, .int j => some (.bl (p i j))
  | _, _ => none
def inD (neg : Bool) (a : D) : D → Option D
  | .lst _ xs => (memD a xs).map fun x => .bl (x != neg)
  | .tup xs => (memD a xs).map fun x => .bl (x != neg)
  | _ => none
def op2 (o : Op2) (a b : D) : Option D := match o with
  | .add => addD a b
  | .sub => subD a b
  | .mul => mulD a b
  | .fdiv => fdivD a b
  | .mod => modD a b
  | .pow => powD a b
  | .eq => (eqD a b).map .bl
  | .ne => (eqD a b).map fun x => .bl (!x)
  | .lt => cmpD (fun i j => decide (i < j)) a b
  | .le => cmpD (fun i j => decide (i ≤ j)) a b
  | .gt => cmpD (fun i j => decide (j < i)) a b
  | .ge => cmpD (fun i j => decide (j ≤ i)) a b
  | .mem => inD false a b
  | .nmem => inD true a b
def isNon : D → Bool
  | .non => true
  | _ => false
def itemD (d : D) : Option D := if d.own then none else some d
def idxD : D → D → Option D
  | .lst _ xs, .int i => (L2.atI xs i).bind itemD
  | .tup xs, .int i => (L2.atI xs i).bind itemD
  | .scr xs, .int i => (L2.atI xs i).bind itemD
  | _, _ => none
def cutD (xs : List D) (lo hi : Option Int) : List D := (xs.drop (HT.sIx xs.length 0 lo)).take (HT.sIx xs.length xs.length hi - HT.sIx xs.length 0 lo)
def slcD : D → Option Int → Option Int → Option D
  | .lst _ xs, lo, hi => if ownL xs then none else some (.lst true (cutD xs lo hi))
  | .tup xs, lo, hi => if ownL xs then none else some (.tup (cutD xs lo hi))
  | .scr xs, lo, hi => if ownL xs then none else some (.lst true (cutD xs lo hi))
  | _, _, _ => none
def intsOf : List D → Option (List Int)
  | [] => some []
  | .int i :: r => (intsOf r).map (i :: ·)
  | _ :: _ => none
def boolsOf : List D → Option (List Bool)
  | [] => some []
  | .bl i :: r => (boolsOf r).map (i :: ·)
  | _ :: _ => none
def maxI : Int → List Int → Int
  | m, [] => m
  | m, x :: r => maxI (if x > m then x else m) r
def minI : Int → List Int → Int
  | m, [] => m
  | m, x :: r => minI (if x < m then x else m) r
def insI (x : Int) : List Int → List Int
  | [] => [x]
  | y :: r => if x ≤ y then x :: y :: r else y :: insI x r
def sortI : List Int → List Int
  | [] => []
  | x :: r => insI x (sortI r)
def seqOf : D → Option (List D)
  | .lst _ xs => some xs
  | .tup xs => some xs
  | .scr xs => some xs
  | _ => none
/-- isinstance with a built-in class -/
def isiD : D → String → Option Bool
  | .int _, n => some (n == "int")
  | .bl _, n => some (n == "int" || n == "bool")
  | .str _, n => some (n == "str")
  | .non, _ => some false
  | .tup _, n => some (n == "tuple")
  | .lst _ _, n => some (n == "list")
  | _, _ => none
def typeKnown (n : String) : Bool := n == "int" || n == "bool" || n == "str" || n == "tuple" || n == "list" || n == "dict"
def lenD : D → Option D
  | .lst _ xs => some (.int xs.length)
  | .tup xs => some (.int xs.length)
  | .scr xs => some (.int xs.length)
  | .str s => if s.length ≤ SZ then some (.int s.length) else none
  | _ => none
def max1 : D → Option D
  | .lst _ xs => match intsOf xs with
    | some (i :: is) => some (.int (maxI i is))
    | _ => none
  | _ => none
def min1 : D → Option D
  | .lst _ xs => match intsOf xs with
    | some (i :: is) => some (.int (minI i is))
    | _ => none
  | _ => none
def max2D : D → D → Option D
  | .int i, .int j => some (.int (if j > i then j else i))
  | _, _ => none
def min2D : D → D → Option D
  | .int i, .int j => some (.int (if j < i then j else i))
  | _, _ => none
def absD : D → Option D
  | .int i => some (.int (if i < 0 then -i else i))
  | _ => none
def intD : D → Option D
  | .int i => some (.int i)
  | .bl b => some (.int (if b then 1 else 0))
  | _ => none
def reprD (d : D) : Option D := if d.isPd && d.pd.showable && decide (d.pd.depth ≤ 60) && decide (d.pd.shown.length ≤ SZ) then some (.str d.pd.shown) else none
def sumD (d : D) : Option D := ((seqOf d).bind intsOf).map fun is => .int is.sum
def sortedD : D → Option D
  | .lst _ xs => (intsOf xs).map fun is => .lst true ((sortI is).map .int)
  | _ => none
def listD (d : D) : Option D := (seqOf d).bind fun xs => if ownL xs then none else some (.lst true xs)
def tupleD (d : D) : Option D := (seqOf d).bind fun xs => if ownL xs then none else some (.tup xs)
def allD : D → Option D
  | .lst _ xs => (boolsOf xs).map fun bs => .bl (bs.all id)
  | _ => none
def anyD : D → Option D
  | .lst _ xs => (boolsOf xs).map fun bs => .bl (bs.any id)
  | _ => none
def isD (d : D) : D → Option D
  | .typ n => if typeKnown n then (isiD d n).map .bl else none
  | _ => none
def prD : Pr → List D → Option D
  | .len, [d] => lenD d
  | .sum, [d] => sumD d
  | .max, [d] => max1 d
  | .min, [d] => min1 d
  | .max, [d, e] => max2D d e
  | .min, [d, e] => min2D d e
  | .abs, [d] => absD d
  | .int, [d] => intD d
  | .repr, [d] => reprD d
  | .sorted, [d] => sortedD d
  | .list, [d] => listD d
  | .tuple, [d] => tupleD d
  | .all, [d] => allD d
  | .any, [d] => anyD d
  | .isi, [d, t] => isD d t
  | _, _ => none

/-! ### operands -/
inductive OV where
  | val (d : D) | ref (i : Nat)
def OV.get (ρ : Env) : OV → Option D
  | .val d => some d
  | .ref i => getE ρ i
def getAll (ρ : Env) : List OV → Option (List D)
  | [] => some []
  | o :: r => match o.get ρ, getAll ρ r with
    | some d, some ds => some (d :: ds)
    | _, _ => none
def OV.refs : List OV → List Nat
  | [] => []
  | .val _ :: r => OV.refs r
  | .ref i :: r => i :: OV.refs r
def nodupN : List Nat → Bool
  | [] => true
  | i :: r => !r.contains i && nodupN r
/-- behind a call: what the named arguments have become -/
def putBack : List OV → List D → Env → Env
  | .ref i :: r, d :: ds, ρ => putBack r ds (ρ.set i (some d))
  | .val _ :: r, _ :: ds, ρ => putBack r ds ρ
  | _, _, ρ => ρ

inductive FR where
  | ok (d : D) (as : List D)
  | exc (c : Nat) (d : D) (as : List D)
  | stk
abbrev Fns := Nat → List D → FR

def permL {α : Type} (perm : List Nat) (xs : List α) : List α := perm.filterMap fun i => xs[i]?
def permD (perm : List Nat) (ds : List D) : Option (List D) := if perm.all (fun i => decide (i < ds.length)) then some (permL perm ds) else none
def wipeE : List Nat → Env → Env
  | [], ρ => ρ
  | v :: vs, ρ => (wipeE vs ρ).set v none
def backE (ρ0 : Env) : List Nat → Env → Env
  | [], ρ => ρ
  | v :: vs, ρ => (backE ρ0 vs ρ).set v (getE ρ0 v)
mutual
/-- the target's names (none of them locked) take parts of a value -/
def bindT (lk : List Nat) : Tg → D → Env → Option Env
  | .slot i, d, ρ => if lk.contains i then none else if i < ρ.length then some (ρ.set i (some d)) else none
  | .tup ts, .tup ds, ρ => bindTs lk ts ds ρ
  | .tup _, _, _ => none
def bindTs (lk : List Nat) : List Tg → List D → Env → Option Env
  | [], [], ρ => some ρ
  | t :: ts, d :: ds, ρ => match bindT lk t d ρ with
    | some ρ1 => bindTs lk ts ds ρ1
    | none => none
  | [], _ :: _, _ => none
  | _ :: _, [], _ => none
end
def lcLoop (step : D → Env → R (Option D)) : List D → List D → Env → R (List D)
  | [], acc, ρ => .ok acc.reverse ρ
  | d :: ds, acc, ρ => match step d ρ with
    | .ok (some e) ρ1 => lcLoop step ds (e :: acc) ρ1
    | .ok none ρ1 => lcLoop step ds acc ρ1
    | .exc _ _ _ => .stk
    | .stk => .stk
def rangeD : Nat → Int → Int → List D
  | 0, _, _ => []
  | n + 1, i, s => .int i :: rangeD n (i + s) s
def rangeOk (i : Int) : Bool := decide (-4611686018427387904 ≤ i) && decide (i < 4611686018427387904)
/-- the numbers of range(..) -/
def rangeOf : List D → Option (List D)
  | [.int n] => if rangeOk n && decide (n.toNat ≤ SZ) then some (rangeD n.toNat 0 1) else none
  | [.int a, .int b] => if rangeOk a && rangeOk b && decide ((b - a).toNat ≤ SZ) then some (rangeD (b - a).toNat a 1) else none
  | _ => none
def enumD : Nat → List D → List D
  | _, [] => []
  | n, d :: r => .tup [.int n, d] :: enumD (n + 1) r
def zip2 : List D → List D → List D
  | a :: as, b :: bs => .tup [a, b] :: zip2 as bs
  | _, _ => []
def zip3 : List D → List D → List D → List D
  | a :: as, b :: bs, c :: cs => .tup [a, b, c] :: zip3 as bs cs
  | _, _, _ => []

def seqG : List (List D) → Option (List D)
  | [a] => some a
  | _ => none
def enumG : List (List D) → Option (List D)
  | [a] => some (enumD 0 a)
  | _ => none
def zipG : List (List D) → Option (List D)
  | [a, b] => some (zip2 a b)
  | [a, b, c] => some (zip3 a b c)
  | _ => none
/-- the items of an operand, frozen -/
def itemsOf (ρ : Env) : OV → Option (List D)
  | .val d => (seqOf d).map frzL
  | .ref i => match getE ρ i with
    | some d => if d.own then none else seqOf d
    | none => none
def itemsAll (ρ : Env) : List OV → Option (List (List D))
  | [] => some []
  | o :: r => match itemsOf ρ o, itemsAll ρ r with
    | some d, some ds => some (d :: ds)
    | _, _ => none
def unowned (ρ : Env) (vs : List Nat) : Bool := vs.all fun v => match getE ρ v with
  | some d => !d.own
  | none => true

mutual
def ev (Φ : Fns) : IE → Env → R D
  | .const d, ρ => .ok d ρ
  | .glob d, ρ => .ok d ρ
  | .var i, ρ => match getE ρ i with
    | some d => if d.own then .ok d.frz (ρ.set i (some d.frz)) else .ok d ρ
    | none => .stk
  | .mov i, ρ => match getE ρ i with
    | some d => .ok d (ρ.set i none)
    | none => .stk
  | .peek _, _ => .stk
  | .peekF _, _ => .stk
  | .star _, _ => .stk
  | .op o es, ρ => (evs Φ es ρ).bind fun os ρ1 => match getAll ρ1 os with
    | some [a, b] => match op2 o a b with
      | some d => .ok d ρ1
      | none => .stk
    | _ => .stk
  | .isn neg es, ρ => (evs Φ es ρ).bind fun os ρ1 => match getAll ρ1 os with
    | some [a] => .ok (.bl (isNon a != neg)) ρ1
    | _ => .stk
  | .neg es, ρ => (evs Φ es ρ).bind fun os ρ1 => match getAll ρ1 os with
    | some [.int i] => .ok (.int (-i)) ρ1
    | _ => .stk
  | .notE e, ρ => (ev Φ e ρ).bind fun d ρ1 => match d with
    | .bl b => .ok (.bl (!b)) ρ1
    | _ => .stk
  | .chain o1 o2 es cs, ρ => (evs Φ es ρ).bind fun os ρ1 => match getAll ρ1 os with
    | some [a, b] => match op2 o1 a b with
      | some (.bl true) => (evs Φ cs ρ1).bind fun os2 ρ2 => match getAll ρ2 (os ++ os2) with
        | some [_, b2, c] => match op2 o2 b2 c with
          | some (.bl k) => .ok (.bl k) ρ2
          | _ => .stk
        | _ => .stk
      | some (.bl false) => .ok (.bl false) ρ1
      | _ => .stk
    | _ => .stk
  | .andE a b, ρ => (ev Φ a ρ).bind fun d ρ1 => match d with
    | .bl true => ev Φ b ρ1
    | .bl false => .ok (.bl false) ρ1
    | _ => .stk
  | .orE a b, ρ => (ev Φ a ρ).bind fun d ρ1 => match d with
    | .bl true => .ok (.bl true) ρ1
    | .bl false => ev Φ b ρ1
    | _ => .stk
  | .ite c a b, ρ => (ev Φ c ρ).bind fun d ρ1 => match d with
    | .bl true => ev Φ a ρ1
    | .bl false => ev Φ b ρ1
    | _ => .stk
  | .tup es, ρ => (evs Φ es ρ).bind fun os ρ1 => match getAll [] os with
    | some ds => if ds.length ≤ SZ then .ok (.tup ds) ρ1 else .stk
    | none => .stk
  | .lst es, ρ => (evs Φ es ρ).bind fun os ρ1 => match getAll [] os with
    | some ds => if ds.length ≤ SZ then .ok (.lst true ds) ρ1 else .stk
    | none => .stk
  | .idx es, ρ => (evs Φ es ρ).bind fun os ρ1 => match getAll ρ1 os with
    | some [a, b] => match idxD a b with
      | some d => .ok d ρ1
      | none => .stk
    | _ => .stk
  | .slc es lo hi, ρ => (evs Φ es ρ).bind fun os ρ1 => (evB Φ lo ρ1).bind fun l ρ2 => (evB Φ hi ρ2).bind fun u ρ3 => match getAll ρ3 os with
    | some [a] => match slcD a l u with
      | some d => .ok d ρ3
      | none => .stk
    | _ => .stk
  | .cb p es, ρ => (evs Φ es ρ).bind fun os ρ1 => match getAll ρ1 os with
    | some ds => match prD p ds with
      | some d => .ok d ρ1
      | none => .stk
    | none => .stk
  | .call f es, ρ => (evs Φ es ρ).bind fun os ρ1 => match nodupN (OV.refs os), getAll ρ1 os with
    | true, some ds => match Φ f ds with
      | .ok d as => if as.length = ds.length then .ok d (putBack os as ρ1) else .stk
      | .exc c d as => .exc c d (putBack os as ρ1)
      | .stk => .stk
    | _, _ => .stk
  | .callK f es perm, ρ => (evs Φ es ρ).bind fun os ρ1 => match getAll ρ1 os with
    | some ds => if ownL ds then .stk else match permD perm ds with
      | some ds' => match Φ f ds' with
        | .ok d _ => .ok d ρ1
        | .exc c d _ => .exc c d ρ1
        | .stk => .stk
      | none => .stk
    | none => .stk
  | .rng tup es, ρ => (evs Φ es ρ).bind fun os ρ1 => match (getAll ρ1 os).bind rangeOf with
    | some ds => .ok (if tup then .tup ds else .lst true ds) ρ1
    | none => .stk
  | .frz e, ρ => (ev Φ e ρ).bind fun d ρ1 => .ok d.frz ρ1
  | .lc vs tg it ifs elt, ρ => (evIt Φ it ρ).bind fun ds ρ1 =>
    if ds.length ≤ SZ ∧ unowned ρ1 vs = true then
      (lcLoop (fun d ρ2 => match bindT [] tg d (wipeE vs ρ2) with
        | some ρ3 => (evIfs Φ ifs ρ3).bind fun b ρ4 => match b with
          | true => (ev Φ elt ρ4).bind fun e ρ5 => .ok (some e) ρ5
          | false => .ok none ρ4
        | none => .stk) ds [] ρ1).bind fun es ρ6 => .ok (.lst true es) (backE ρ1 vs ρ6)
    else .stk
def evs (Φ : Fns) : List IE → Env → R (List OV)
  | [], ρ => .ok [] ρ
  | .peek i :: es, ρ => match getE ρ i with
    | some _ => (evs Φ es ρ).bind fun os ρ1 => .ok (.ref i :: os) ρ1
    | none => .stk
  | .peekF i :: es, ρ => match getE ρ i with
    | some d => (evs Φ es (ρ.set i (some d.frz))).bind fun os ρ1 => .ok (.ref i :: os) ρ1
    | none => .stk
  | .star e :: es, ρ => (ev Φ e ρ).bind fun d ρ1 => match seqOf d with
    | some ds => if ownL ds then .stk else (evs Φ es ρ1).bind fun os ρ2 => .ok (ds.map .val ++ os) ρ2
    | none => .stk
  | e :: es, ρ => (ev Φ e ρ).bind fun d ρ1 => (evs Φ es ρ1).bind fun os ρ2 => .ok (.val d :: os) ρ2
/-- a bound of a slice -/
def evB (Φ : Fns) : List IE → Env → R (Option Int)
  | [], ρ => .ok none ρ
  | [e], ρ => (ev Φ e ρ).bind fun d ρ1 => match d with
    | .int i => .ok (some i) ρ1
    | _ => .stk
  | _ :: _ :: _, _ => .stk
/-- tests, from the left, up to the first that fails -/
def evIfs (Φ : Fns) : List IE → Env → R Bool
  | [], ρ => .ok true ρ
  | e :: es, ρ => (ev Φ e ρ).bind fun d ρ1 => match d with
    | .bl true => evIfs Φ es ρ1
    | .bl false => .ok false ρ1
    | _ => .stk
/-- what a loop walks through: values that nobody changes -/
def evIt (Φ : Fns) : It → Env → R (List D)
  | .seq es, ρ => (evs Φ es ρ).bind fun os ρ1 => ofOpt ((itemsAll ρ1 os).bind seqG) ρ1
  | .range es, ρ => (evs Φ es ρ).bind fun os ρ1 => ofOpt ((getAll ρ1 os).bind rangeOf) ρ1
  | .enum es, ρ => (evs Φ es ρ).bind fun os ρ1 => ofOpt ((itemsAll ρ1 os).bind enumG) ρ1
  | .zip es, ρ => (evs Φ es ρ).bind fun os ρ1 => ofOpt ((itemsAll ρ1 os).bind zipG) ρ1
end

/-! ### statements -/
inductive SR where
  | nx (ρ : Env) | ret (d : D) (ρ : Env) | exc (c : Nat) (d : D) (ρ : Env) | stk
def ofR {α : Type} (r : R α) (f : α → Env → SR) : SR := match r with
  | .ok a ρ => f a ρ
  | .exc c d ρ => .exc c d ρ
  | .stk => .stk
def forL (lk : List Nat) (tg : Tg) (body : Env → SR) : List D → Env → SR
  | [], ρ => .nx ρ
  | d :: ds, ρ => match bindT lk tg d ρ with
    | some ρ1 => match body ρ1 with
      | .nx ρ2 => forL lk tg body ds ρ2
      | r => r
    | none => .stk
def whL (c : Env → R D) (body : Env → SR) : Nat → Env → SR
  | 0, _ => .stk
  | n + 1, ρ => match c ρ with
    | .ok (.bl true) ρ1 => match body ρ1 with
      | .nx ρ2 => whL c body n ρ2
      | r => r
    | .ok (.bl false) ρ1 => .nx ρ1
    | .exc c d ρ1 => .exc c d ρ1
    | _ => .stk
def FUEL : Nat := 1000000
def parE (lk : List Nat) : List Nat → List OV → Env → Option Env
  | [], [], ρ => some ρ
  | i :: is, .val d :: os, ρ => if lk.contains i then none else if i < ρ.length then parE lk is os (ρ.set i (some d)) else none
  | _, _, _ => none
def isOwnL : Option D → Bool
  | some (.lst true _) => true
  | _ => false
mutual
def exS (Φ : Fns) (lk : List Nat) : IS → Env → SR
  | .ex e, ρ => ofR (ev Φ e ρ) fun _ ρ1 => .nx ρ1
  | .asg tg e, ρ => ofR (ev Φ e ρ) fun d ρ1 => match bindT lk tg d ρ1 with
    | some ρ2 => .nx ρ2
    | none => .stk
  | .par is es, ρ => ofR (evs Φ es ρ) fun os ρ1 => if os.length ≤ SZ then match parE lk is.reverse os.reverse ρ1 with
      | some ρ2 => .nx ρ2
      | none => .stk
    else .stk
  | .seti i e ix, ρ => ofR (ev Φ e ρ) fun d ρ1 => if isOwnL (getE ρ1 i) then ofR (ev Φ ix ρ1) fun k ρ2 => match getE ρ2 i, k with
      | some (.lst true xs), .int k => match L2.ixN xs.length k with
        | some j => .nx (ρ2.set i (some (.lst true (xs.set j d))))
        | none => .stk
      | _, _ => .stk
    else .stk
  | .app i e, ρ => if isOwnL (getE ρ i) then ofR (ev Φ e ρ) fun d ρ1 => match getE ρ1 i with
      | some (.lst true xs) => if xs.length < SZ then .nx (ρ1.set i (some (.lst true (xs ++ [d])))) else .stk
      | _ => .stk
    else .stk
  | .ext i e, ρ => if isOwnL (getE ρ i) then ofR (ev Φ e ρ) fun d ρ1 => match getE ρ1 i, d with
      | some (.lst true xs), .lst true ys => if xs.length + ys.length ≤ SZ then .nx (ρ1.set i (some (.lst true (xs ++ ys)))) else .stk
      | _, _ => .stk
    else .stk
  | .aug i sub e, ρ => match getE ρ i with
    | some (.int a) => ofR (ev Φ e ρ) fun d ρ1 => match d with
      | .int b => if i < ρ1.length ∧ lk.contains i = false then .nx (ρ1.set i (some (.int (if sub then a - b else a + b)))) else .stk
      | _ => .stk
    | _ => .stk
  | .augi i sub ix e, ρ => if isOwnL (getE ρ i) then ofR (ev Φ ix ρ) fun k ρ1 => match getE ρ1 i, k with
      | some (.lst true xs), .int k => match L2.atI xs k with
        | some (.int a) => ofR (ev Φ e ρ1) fun d ρ2 => match getE ρ2 i, d with
          | some (.lst true ys), .int b => match L2.ixN ys.length k with
            | some j => .nx (ρ2.set i (some (.lst true (ys.set j (.int (if sub then a - b else a + b))))))
            | none => .stk
          | _, _ => .stk
        | _ => .stk
      | _, _ => .stk
    else .stk
  | .ret e, ρ => ofR (ev Φ e ρ) fun d ρ1 => .ret d ρ1
  | .ifs c a b, ρ => ofR (ev Φ c ρ) fun d ρ1 => match d with
    | .bl true => exSs Φ lk a ρ1
    | .bl false => exSs Φ lk b ρ1
    | _ => .stk
  | .for_ tg it body, ρ => ofR (evIt Φ it ρ) fun ds ρ1 => forL lk tg (exSs Φ lk body) ds ρ1
  | .while_ c body, ρ => whL (ev Φ c) (exSs Φ lk body) FUEL ρ
  | .never, _ => .stk
def exSs (Φ : Fns) (lk : List Nat) : List IS → Env → SR
  | [], ρ => .nx ρ
  | s :: r, ρ => match exS Φ lk s ρ with
    | .nx ρ1 => exSs Φ lk r ρ1
    | x => x
end

/-! ### functions -/
structure Fd where
  np : Nat
  ns : Nat
  /-- parameters that the body stores anew: frozen at the entry -/
  fz : List Nat
  body : List IS
def frzEnv : List Nat → Env → Env
  | [], ρ => ρ
  | i :: fz, ρ => match getE ρ i with
    | some d => frzEnv fz (ρ.set i (some d.frz))
    | none => frzEnv fz ρ
def lockOf (fd : Fd) : List Nat := (List.range fd.np).filter fun i => !fd.fz.contains i
/-- what the parameters are worth at the end: the frozen ones as at the entry (ρ0), the others as now -/
def outAt (fz : List Nat) : Nat → Nat → Env → Env → Option (List D)
  | _, 0, _, _ => some []
  | i, n + 1, x0 :: ρ0, x :: ρ => match (if fz.contains i then x0 else x), outAt fz (i + 1) n ρ0 ρ with
    | some d, some ds => some (d :: ds)
    | _, _ => none
  | _, _ + 1, _, _ => none
def startE (fd : Fd) (as : List D) : Env := frzEnv fd.fz (as.map some ++ List.replicate (fd.ns - fd.np) none)
def callF (Φ : Fns) (fd : Fd) (as : List D) : FR :=
  if as.length = fd.np then
    match exSs Φ (lockOf fd) fd.body (startE fd as) with
    | .nx ρ => match outAt fd.fz 0 fd.np (startE fd as) ρ with
      | some xs => .ok .non xs
      | none => .stk
    | .ret d ρ => match outAt fd.fz 0 fd.np (startE fd as) ρ with
      | some xs => .ok d xs
      | none => .stk
    | .exc c d ρ => match outAt fd.fz 0 fd.np (startE fd as) ρ with
      | some xs => .exc c d xs
      | none => .stk
    | .stk => .stk
  else .stk
def runN (P : List Fd) : Nat → Fns
  | 0 => fun _ _ => .stk
  | k + 1 => fun f as => match P[f]? with
    | some fd => callF (runN P k) fd as
    | none => .stk
end Mi
end

section
set_option Elab.async false
set_option linter.all false
set_option maxRecDepth 100000
/-! How the values of the small language lie on the abstract heap. -/
namespace Mi
open PySem PySem.Spec PyProof.Rows L2

mutual
/-- v tells d: frozen things and tuples lie on F (they stay), owned lists on H, at the addresses fp -/
def Rep (K : PySem.W.Frag) (F H : Hp) : D → V → List Addr → Prop
  | .non, v, fp => v = .non ∧ fp = []
  | .bl b, v, fp => v = .bl b ∧ fp = []
  | .int i, v, fp => v = .int i ∧ fp = []
  | .str s, v, fp => v = .str s ∧ fp = []
  | .tup ds, v, fp => ∃ a vs, v = .ref a ∧ SqT K F a vs ∧ RepL K F H ds vs fp
  | .lst true ds, v, fp => ∃ a vs fp', v = .ref a ∧ H a = some (.lst vs) ∧ RepL K F H ds vs fp' ∧ fp = a :: fp'
  | .lst false ds, v, fp => ∃ a vs, v = .ref a ∧ F a = some (.lst vs) ∧ RepL K F H ds vs [] ∧ fp = []
  | .typ n, v, fp => v = .ty n ∧ fp = []
  | .scr ds, v, fp => ∃ a vs, v = .ref a ∧ SqL K F a vs ∧ RepL K F H ds vs [] ∧ fp = []
  | .cls _, _, _ => False
  | .dct _ _ _, _, _ => False
  | .exc _ _, _, _ => False
  | .clo _ _, _, _ => False
def RepL (K : PySem.W.Frag) (F H : Hp) : List D → List V → List Addr → Prop
  | [], vs, fp => vs = [] ∧ fp = []
  | d :: ds, vs, fp => ∃ v vs' f1 f2, vs = v :: vs' ∧ Rep K F H d v f1 ∧ RepL K F H ds vs' f2 ∧ fp = f1 ++ f2
end
variable {K : PySem.W.Frag} {F F' H H' : Hp}

theorem Same.seqT {K : PySem.W.Frag} {H H' : Hp} {a : Addr} {xs : List V} (e : Same H H') (h : SqT K H a xs) : SqT K H' a xs := by
  rcases h with (h | ⟨o, h⟩) | h
  · exact .inl (.inl (e _ _ h))
  · exact .inl (.inr ⟨o, e _ _ h⟩)
  · exact .inr h

mutual
theorem Rep.mono (hF : Same F F') : ∀ (d : D) (v : V) (fp : List Addr), (∀ a ∈ fp, H' a = H a) → Rep K F H d v fp → Rep K F' H' d v fp
  | .non, v, fp, hH, h => by simpa only [Rep] using h
  | .bl _, v, fp, hH, h => by simpa only [Rep] using h
  | .int _, v, fp, hH, h => by simpa only [Rep] using h
  | .str _, v, fp, hH, h => by simpa only [Rep] using h
  | .typ _, v, fp, hH, h => by simpa only [Rep] using h
  | .tup ds, v, fp, hH, h => by
    simp only [Rep] at h ⊢
    obtain ⟨a, vs, e, hs, hl⟩ := h
    exact ⟨a, vs, e, Same.seqT hF hs, RepL.mono hF ds vs fp hH hl⟩
  | .lst true ds, v, fp, hH, h => by
    simp only [Rep] at h ⊢
    obtain ⟨a, vs, fp', e, hs, hl, rfl⟩ := h
    exact ⟨a, vs, fp', e, by rw [hH a (by simp)]; exact hs, RepL.mono hF ds vs fp' (fun b hb => hH b (by simp [hb])) hl, rfl⟩
  | .lst false ds, v, fp, hH, h => by
    simp only [Rep] at h ⊢
    obtain ⟨a, vs, e, hs, hl, rfl⟩ := h
    exact ⟨a, vs, e, hF _ _ hs, RepL.mono hF ds vs [] (fun b hb => nomatch hb) hl, rfl⟩
  | .scr ds, v, fp, hH, h => by
    simp only [Rep] at h ⊢
    obtain ⟨a, vs, e, hs, hl, rfl⟩ := h
    exact ⟨a, vs, e, Same.seq hF hs, RepL.mono hF ds vs [] (fun b hb => nomatch hb) hl, rfl⟩
  | .cls _, _, _, _, h => by simp only [Rep] at h
  | .dct _ _ _, _, _, _, h => by simp only [Rep] at h
  | .exc _ _, _, _, _, h => by simp only [Rep] at h
  | .clo _ _, _, _, _, h => by simp only [Rep] at h
theorem RepL.mono (hF : Same F F') : ∀ (ds : List D) (vs : List V) (fp : List Addr), (∀ a ∈ fp, H' a = H a) → RepL K F H ds vs fp → RepL K F' H' ds vs fp
  | [], vs, fp, hH, h => by simpa only [RepL] using h
  | d :: ds, vs, fp, hH, h => by
    simp only [RepL] at h ⊢
    obtain ⟨v, vs', f1, f2, e, h1, h2, rfl⟩ := h
    exact ⟨v, vs', f1, f2, e, Rep.mono hF d v f1 (fun a ha => hH a (by simp [ha])) h1, RepL.mono hF ds vs' f2 (fun a ha => hH a (by simp [ha])) h2, rfl⟩
end
mutual
/-- nothing owned: nothing held -/
theorem Rep.noOwn : ∀ (d : D) (v : V) (fp : List Addr), d.own = false → Rep K F H d v fp → fp = []
  | .non, v, fp, _, h => by simp only [Rep] at h; exact h.2
  | .bl _, v, fp, _, h => by simp only [Rep] at h; exact h.2
  | .int _, v, fp, _, h => by simp only [Rep] at h; exact h.2
  | .str _, v, fp, _, h => by simp only [Rep] at h; exact h.2
  | .typ _, v, fp, _, h => by simp only [Rep] at h; exact h.2
  | .tup ds, v, fp, ho, h => by
    simp only [Rep] at h
    obtain ⟨a, vs, e, hs, hl⟩ := h
    exact RepL.noOwn ds vs fp (by simpa only [D.own] using ho) hl
  | .lst true ds, v, fp, ho, h => by simp [D.own] at ho
  | .lst false ds, v, fp, ho, h => by
    simp only [Rep] at h
    obtain ⟨a, vs, e, hs, hl, rfl⟩ := h
    rfl
  | .scr ds, v, fp, ho, h => by
    simp only [Rep] at h
    obtain ⟨a, vs, e, hs, hl, rfl⟩ := h
    rfl
  | .cls _, _, _, _, h => by simp only [Rep] at h
  | .dct _ _ _, _, _, _, h => by simp only [Rep] at h
  | .exc _ _, _, _, _, h => by simp only [Rep] at h
  | .clo _ _, _, _, _, h => by simp only [Rep] at h
theorem RepL.noOwn : ∀ (ds : List D) (vs : List V) (fp : List Addr), ownL ds = false → RepL K F H ds vs fp → fp = []
  | [], vs, fp, _, h => by simp only [RepL] at h; exact h.2
  | d :: ds, vs, fp, ho, h => by
    simp only [RepL] at h
    obtain ⟨v, vs', f1, f2, e, h1, h2, rfl⟩ := h
    simp only [ownL, Bool.or_eq_false_iff] at ho
    rw [Rep.noOwn d v f1 ho.1 h1, RepL.noOwn ds vs' f2 ho.2 h2]
    rfl
end
mutual
theorem Rep.frz (hF : Same F F') : ∀ (d : D) (v : V) (fp : List Addr), (∀ a ∈ fp, F' a = H a) → Rep K F H d v fp → Rep K F' H' d.frz v []
  | .non, v, fp, _, h => by simp only [Rep, D.frz] at h ⊢; exact ⟨h.1, trivial⟩
  | .bl _, v, fp, _, h => by simp only [Rep, D.frz] at h ⊢; exact ⟨h.1, trivial⟩
  | .int _, v, fp, _, h => by simp only [Rep, D.frz] at h ⊢; exact ⟨h.1, trivial⟩
  | .str _, v, fp, _, h => by simp only [Rep, D.frz] at h ⊢; exact ⟨h.1, trivial⟩
  | .typ _, v, fp, _, h => by simp only [Rep, D.frz] at h ⊢; exact ⟨h.1, trivial⟩
  | .tup ds, v, fp, hH, h => by
    simp only [Rep, D.frz] at h ⊢
    obtain ⟨a, vs, e, hs, hl⟩ := h
    exact ⟨a, vs, e, Same.seqT hF hs, RepL.frz hF ds vs fp hH hl⟩
  | .lst true ds, v, fp, hH, h => by
    simp only [Rep, D.frz] at h ⊢
    obtain ⟨a, vs, fp', e, hs, hl, rfl⟩ := h
    exact ⟨a, vs, e, (by rw [hH a (by simp)]; exact hs), RepL.frz hF ds vs fp' (fun b hb => hH b (by simp [hb])) hl, trivial⟩
  | .lst false ds, v, fp, hH, h => by
    simp only [Rep, D.frz] at h ⊢
    obtain ⟨a, vs, e, hs, hl, rfl⟩ := h
    exact ⟨a, vs, e, hF _ _ hs, RepL.frz hF ds vs [] (fun b hb => nomatch hb) hl, trivial⟩
  | .scr ds, v, fp, hH, h => by
    simp only [Rep, D.frz] at h ⊢
    obtain ⟨a, vs, e, hs, hl, rfl⟩ := h
    exact ⟨a, vs, e, Same.seq hF hs, RepL.frz hF ds vs [] (fun b hb => nomatch hb) hl, trivial⟩
  | .cls _, _, _, _, h => by simp only [Rep] at h
  | .dct _ _ _, _, _, _, h => by simp only [Rep] at h
  | .exc _ _, _, _, _, h => by simp only [Rep] at h
  | .clo _ _, _, _, _, h => by simp only [Rep] at h
theorem RepL.frz (hF : Same F F') : ∀ (ds : List D) (vs : List V) (fp : List Addr), (∀ a ∈ fp, F' a = H a) → RepL K F H ds vs fp → RepL K F' H' (frzL ds) vs []
  | [], vs, fp, _, h => by simp only [RepL, frzL] at h ⊢; exact ⟨h.1, trivial⟩
  | d :: ds, vs, fp, hH, h => by
    simp only [RepL, frzL] at h ⊢
    obtain ⟨v, vs', f1, f2, e, h1, h2, rfl⟩ := h
    exact ⟨v, vs', [], [], e, Rep.frz hF d v f1 (fun a ha => hH a (by simp [ha])) h1, RepL.frz hF ds vs' f2 (fun a ha => hH a (by simp [ha])) h2, rfl⟩
end
mutual
theorem D.frz_own : ∀ d : D, d.frz.own = false
  | .non => rfl | .bl _ => rfl | .int _ => rfl | .str _ => rfl | .typ _ => rfl | .cls _ => rfl
  | .tup ds => by simp only [D.frz, D.own]; exact frzL_own ds
  | .lst _ ds => by simp only [D.frz, D.own, Bool.false_or]; exact frzL_own ds
  | .dct _ ks vs => by simp only [D.frz, D.own, Bool.false_or]; rw [frzL_own ks, frzL_own vs]; rfl
  | .exc _ d => by simp only [D.frz, D.own]; exact D.frz_own d
  | .clo _ cs => by simp only [D.frz, D.own]; exact frzL_own cs
  | .scr cs => by simp only [D.frz, D.own]; exact frzL_own cs
theorem frzL_own : ∀ ds : List D, ownL (frzL ds) = false
  | [] => rfl
  | d :: ds => by simp only [frzL, ownL]; rw [D.frz_own d, frzL_own ds]; rfl
end
mutual
theorem D.frz_id : ∀ d : D, d.own = false → d.frz = d
  | .non, _ => rfl | .bl _, _ => rfl | .int _, _ => rfl | .str _, _ => rfl | .typ _, _ => rfl | .cls _, _ => rfl
  | .tup ds, h => by simp only [D.frz]; rw [frzL_id ds (by simpa only [D.own] using h)]
  | .lst o ds, h => by
    simp only [D.own, Bool.or_eq_false_iff] at h
    simp only [D.frz]; rw [frzL_id ds h.2, h.1]
  | .dct o ks vs, h => by
    simp only [D.own, Bool.or_eq_false_iff] at h
    simp only [D.frz]; rw [frzL_id ks h.2.1, frzL_id vs h.2.2, h.1]
  | .exc _ d, h => by simp only [D.frz]; rw [D.frz_id d (by simpa only [D.own] using h)]
  | .clo _ cs, h => by simp only [D.frz]; rw [frzL_id cs (by simpa only [D.own] using h)]
  | .scr cs, h => by simp only [D.frz]; rw [frzL_id cs (by simpa only [D.own] using h)]
theorem frzL_id : ∀ ds : List D, ownL ds = false → frzL ds = ds
  | [], _ => rfl
  | d :: ds, h => by
    simp only [ownL, Bool.or_eq_false_iff] at h
    simp only [frzL]; rw [D.frz_id d h.1, frzL_id ds h.2]
end
mutual
/-- what is held are lists -/
theorem Rep.lists : ∀ (d : D) (v : V) (fp : List Addr), Rep K F H d v fp → ∀ a ∈ fp, ∃ xs, H a = some (.lst xs)
  | .non, v, fp, h => by simp only [Rep] at h; rw [h.2]; exact fun a ha => nomatch ha
  | .bl _, v, fp, h => by simp only [Rep] at h; rw [h.2]; exact fun a ha => nomatch ha
  | .int _, v, fp, h => by simp only [Rep] at h; rw [h.2]; exact fun a ha => nomatch ha
  | .str _, v, fp, h => by simp only [Rep] at h; rw [h.2]; exact fun a ha => nomatch ha
  | .typ _, v, fp, h => by simp only [Rep] at h; rw [h.2]; exact fun a ha => nomatch ha
  | .tup ds, v, fp, h => by
    simp only [Rep] at h
    obtain ⟨a, vs, e, hs, hl⟩ := h
    exact RepL.lists ds vs fp hl
  | .lst true ds, v, fp, h => by
    simp only [Rep] at h
    obtain ⟨a, vs, fp', e, hs, hl, rfl⟩ := h
    intro b hb
    rcases List.mem_cons.mp hb with rfl | hb
    · exact ⟨_, hs⟩
    · exact RepL.lists ds vs fp' hl b hb
  | .lst false ds, v, fp, h => by
    simp only [Rep] at h
    obtain ⟨a, vs, e, hs, hl, rfl⟩ := h
    exact fun a ha => nomatch ha
  | .scr ds, v, fp, h => by
    simp only [Rep] at h
    obtain ⟨a, vs, e, hs, hl, rfl⟩ := h
    exact fun a ha => nomatch ha
  | .cls _, _, _, h => by simp only [Rep] at h
  | .dct _ _ _, _, _, h => by simp only [Rep] at h
  | .exc _ _, _, _, h => by simp only [Rep] at h
  | .clo _ _, _, _, h => by simp only [Rep] at h
theorem RepL.lists : ∀ (ds : List D) (vs : List V) (fp : List Addr), RepL K F H ds vs fp → ∀ a ∈ fp, ∃ xs, H a = some (.lst xs)
  | [], vs, fp, h => by simp only [RepL] at h; rw [h.2]; exact fun a ha => nomatch ha
  | d :: ds, vs, fp, h => by
    simp only [RepL] at h
    obtain ⟨v, vs', f1, f2, e, h1, h2, rfl⟩ := h
    intro a ha
    rcases List.mem_append.mp ha with ha | ha
    · exact Rep.lists d v f1 h1 a ha
    · exact RepL.lists ds vs' f2 h2 a ha
end
mutual
/-- plain data, for the library's rules -/
theorem Rep.dp (hs : Same F H) : ∀ (d : D) (v : V) (fp : List Addr), d.isPd = true → Rep K F H d v fp → Dp K H v d.pd
  | .non, v, fp, _, h => by simp only [Rep] at h; rw [h.1]; exact .non
  | .bl b, v, fp, _, h => by simp only [Rep] at h; rw [h.1]; exact .bl b
  | .int i, v, fp, _, h => by simp only [Rep] at h; rw [h.1]; exact .int i
  | .str s, v, fp, _, h => by simp only [Rep] at h; rw [h.1]; exact .str s
  | .tup ds, v, fp, hp, h => by
    simp only [Rep] at h
    obtain ⟨a, vs, rfl, hq, hl⟩ := h
    simp only [D.pd]
    exact .tup (Same.seqT hs hq) (RepL.dp hs ds vs fp (by simpa only [D.isPd] using hp) hl)
  | .lst true ds, v, fp, hp, h => by
    simp only [Rep] at h
    obtain ⟨a, vs, fp', rfl, hq, hl, rfl⟩ := h
    simp only [D.pd]
    exact .lst (SqL.of hq) (RepL.dp hs ds vs fp' (by simpa only [D.isPd] using hp) hl)
  | .lst false ds, v, fp, hp, h => by
    simp only [Rep] at h
    obtain ⟨a, vs, rfl, hq, hl, rfl⟩ := h
    simp only [D.pd]
    exact .lst (SqL.of (hs _ _ hq)) (RepL.dp hs ds vs [] (by simpa only [D.isPd] using hp) hl)
  | .typ _, _, _, hp, _ => by simp [D.isPd] at hp
  | .cls _, _, _, hp, _ => by simp [D.isPd] at hp
  | .dct _ _ _, _, _, hp, _ => by simp [D.isPd] at hp
  | .exc _ _, _, _, hp, _ => by simp [D.isPd] at hp
  | .clo _ _, _, _, hp, _ => by simp [D.isPd] at hp
  | .scr _, _, _, hp, _ => by simp [D.isPd] at hp
theorem RepL.dp (hs : Same F H) : ∀ (ds : List D) (vs : List V) (fp : List Addr), isPdL ds = true → RepL K F H ds vs fp → DpAll K H vs (pdL ds)
  | [], vs, fp, _, h => by simp only [RepL] at h; rw [h.1]; exact .nil
  | d :: ds, vs, fp, hp, h => by
    simp only [RepL] at h
    obtain ⟨v, vs', f1, f2, rfl, h1, h2, rfl⟩ := h
    simp only [isPdL, Bool.and_eq_true] at hp
    exact .cons (Rep.dp hs d v f1 hp.1 h1) (RepL.dp hs ds vs' f2 hp.2 h2)
end
theorem RepL.length : ∀ (ds : List D) (vs : List V) (fp : List Addr), RepL K F H ds vs fp → vs.length = ds.length
  | [], vs, fp, h => by simp only [RepL] at h; rw [h.1]; rfl
  | d :: ds, vs, fp, h => by
    simp only [RepL] at h
    obtain ⟨v, vs', f1, f2, rfl, h1, h2, rfl⟩ := h
    simp only [List.length_cons]; rw [RepL.length ds vs' f2 h2]
theorem RepL.get : ∀ {ds : List D} {vs : List V} {fp : List Addr} (i : Nat) {d : D}, RepL K F H ds vs fp → ds[i]? = some d → ∃ v f, vs[i]? = some v ∧ Rep K F H d v f ∧ ∀ a ∈ f, a ∈ fp
  | [], vs, fp, i, d, h, e => by simp at e
  | d0 :: ds, vs, fp, 0, d, h, e => by
    simp only [RepL] at h
    obtain ⟨v, vs', f1, f2, rfl, h1, h2, rfl⟩ := h
    simp at e; subst e
    exact ⟨v, f1, rfl, h1, fun a ha => by simp [ha]⟩
  | d0 :: ds, vs, fp, i + 1, d, h, e => by
    simp only [RepL] at h
    obtain ⟨v, vs', f1, f2, rfl, h1, h2, rfl⟩ := h
    obtain ⟨v', f, a1, a2, a3⟩ := RepL.get (ds := ds) i h2 (by simpa using e)
    exact ⟨v', f, by simpa using a1, a2, fun a ha => by simp [a3 a ha]⟩
theorem RepL.app : ∀ {ds es : List D} {vs us : List V} {f g : List Addr}, RepL K F H ds vs f → RepL K F H es us g → RepL K F H (ds ++ es) (vs ++ us) (f ++ g)
  | [], es, vs, us, f, g, h1, h2 => by simp only [RepL] at h1; rw [h1.1, h1.2]; simpa using h2
  | d :: ds, es, vs, us, f, g, h1, h2 => by
    simp only [RepL, List.cons_append] at h1 ⊢
    obtain ⟨v, vs', f1, f2, rfl, a1, a2, rfl⟩ := h1
    exact ⟨v, vs' ++ us, f1, f2 ++ g, rfl, a1, RepL.app a2 h2, by simp⟩
theorem RepL.drop : ∀ {ds : List D} {vs : List V} (n : Nat), RepL K F H ds vs [] → RepL K F H (ds.drop n) (vs.drop n) []
  | ds, vs, 0, h => h
  | [], vs, n + 1, h => by simp only [RepL] at h; rw [h.1]; simp [RepL]
  | d :: ds, vs, n + 1, h => by
    simp only [RepL] at h
    obtain ⟨v, vs', f1, f2, rfl, a1, a2, e⟩ := h
    obtain ⟨rfl, rfl⟩ : f1 = [] ∧ f2 = [] := List.append_eq_nil_iff.mp e.symm
    exact RepL.drop (ds := ds) n a2
theorem RepL.take : ∀ {ds : List D} {vs : List V} (n : Nat), RepL K F H ds vs [] → RepL K F H (ds.take n) (vs.take n) []
  | ds, vs, 0, h => by simp [RepL]
  | [], vs, n + 1, h => by simp only [RepL] at h; rw [h.1]; simp [RepL]
  | d :: ds, vs, n + 1, h => by
    simp only [RepL] at h
    obtain ⟨v, vs', f1, f2, rfl, a1, a2, e⟩ := h
    obtain ⟨rfl, rfl⟩ : f1 = [] ∧ f2 = [] := List.append_eq_nil_iff.mp e.symm
    simp only [List.take_succ_cons, RepL]
    exact ⟨v, vs'.take n, [], [], rfl, a1, RepL.take (ds := ds) n a2, rfl⟩
theorem RepL.rep {ds : List D} {vs : List V} (h : RepL K F H ds vs []) : ∀ n : Nat, RepL K F H (List.replicate n ds).flatten (List.replicate n vs).flatten []
  | 0 => by simp [RepL]
  | n + 1 => by
    rw [List.replicate_succ, List.replicate_succ, List.flatten_cons, List.flatten_cons]
    have := RepL.app h (RepL.rep h n)
    simpa using this
theorem Rep.nil {d : D} {v : V} {fp : List Addr} (ho : d.own = false) (h : Rep K F H d v fp) : Rep K F H d v [] := by
  have e := Rep.noOwn d v fp ho h
  subst e
  exact h
theorem RepL.nil {d : List D} {v : List V} {fp : List Addr} (ho : ownL d = false) (h : RepL K F H d v fp) : RepL K F H d v [] := by
  have e := RepL.noOwn d v fp ho h
  subst e
  exact h

/-! ### what an operation that changes nothing hands back -/
structure PrimRes (K : PySem.W.Frag) (F H F' H' : Hp) (d : D) (v : V) (fp : List Addr) : Prop where
  rep : Rep K F' H' d v fp
  fF : Same F F'
  hH : Same H H'
  sub : Same F' H'
  nw : ∀ a ∈ fp, H a = none ∧ F' a = none
  nd : fp.Nodup
  fr : ∀ b o, F' b = some o → F b = some o ∨ H b = none
theorem PrimRes.here {d : D} {v : V} (s : Same F H) (h : Rep K F H d v []) : PrimRes K F H F H d v [] :=
  ⟨h, Same.refl _, Same.refl _, s, fun _ ha => (nomatch ha), .nil, fun _ _ e => .inl e⟩
theorem same_upd {H : Hp} {p : Addr} {o : HO} (hp : H p = none) : Same H (upd H p o) := fun b u e => by
  rw [upd_ne (ne_of_none e hp)]; exact e
theorem Same.none {F H : Hp} (s : Same F H) {p : Addr} (h : H p = none) : F p = none := Same.free s h
/-- a new list of things that stay -/
theorem PrimRes.newL {ds : List D} {vs : List V} {p : Addr} (s : Same F H) (h : RepL K F H ds vs []) (hp : H p = none) : PrimRes K F H F (upd H p (.lst vs)) (.lst true ds) (.ref p) [p] := by
  refine ⟨?_, Same.refl _, same_upd hp, Same.trans s (same_upd hp), fun a ha => ?_, by simp, fun _ _ e => .inl e⟩
  · simp only [Rep]
    exact ⟨p, vs, [], rfl, upd_same, RepL.mono (Same.refl _) ds vs [] (fun _ h => nomatch h) h, rfl⟩
  · have e : a = p := by simpa using ha
    subst e
    exact ⟨hp, Same.none s hp⟩
/-- a new tuple of things that stay -/
theorem PrimRes.newT {ds : List D} {vs : List V} {p : Addr} (s : Same F H) (h : RepL K F H ds vs []) (hp : H p = none) : PrimRes K F H (upd F p (.tup vs)) (upd H p (.tup vs)) (.tup ds) (.ref p) [] := by
  have fp := Same.none s hp
  refine ⟨?_, same_upd fp, same_upd hp, fun b o e => ?_, fun a ha => (nomatch ha), .nil, fun b o e => ?_⟩
  · simp only [Rep]
    exact ⟨p, vs, rfl, SqT.of upd_same, RepL.mono (same_upd fp) ds vs [] (fun _ h => nomatch h) h⟩
  · by_cases q : b = p
    · subst q; rw [upd_same] at e ⊢; exact e
    · rw [upd_ne q] at e ⊢; exact s b o e
  · by_cases q : b = p
    · subst q; exact .inr hp
    · rw [upd_ne q] at e; exact .inl e
abbrev WRep (K : PySem.W.Frag) (F H : Hp) (d : D) (v : V) : Prop := ∃ fp, Rep K F H d v fp
def WRepL (K : PySem.W.Frag) (F H : Hp) : List D → List V → Prop
  | [], [] => True
  | d :: ds, v :: vs => WRep K F H d v ∧ WRepL K F H ds vs
  | _, _ => False
end Mi
end

section
set_option Elab.async false
set_option linter.all false
set_option maxRecDepth 100000
/-! A tuple times one, times nothing. -/
namespace Mi
open PySem PySem.Spec PyProof.Rows L2
theorem tuple_mulSame (l : Addr) (items : Array Value) (n : Nat) (dd : Option Addr) (sl : Array (Option Value)) (x : Int) (u : Tok) (c0 : (decide (x < -(2 ^ 63)) || decide (x ≥ 2 ^ 63)) = false) (c1 : (items.isEmpty || x == 1) = true) :
    Meets (Builtin.«tuple.__mul__» ⟨[.ref l, .int x u], []⟩) (fun _ R s => s.heap.get? l = some { cls := .type "tuple", dict := dd, data := .seq items n, slots := sl } ∧ R (.ok (.ret (Value.ref l))) s) :=
  .of_wp fun prog w A R s h => by
    obtain ⟨hp, g, d, tk, os⟩ := s
    obtain ⟨hl, h⟩ := h
    have f1 := AutoSeq1.idx_int
    wp_walk using wpAny_loadPart' hl
    repeat (first
      | (refine wpAny_ite_false (decide_eq_false (by rw [c0]; exact Bool.false_ne_true)) ?_; wp_walk using wpAny_loadPart' hl)
      | (refine wpAny_ite_true (decide_eq_true c1) ?_; wp_walk using wpAny_loadPart' hl))
    exact ⟨_, rfl, h⟩
theorem tuple_mulNone (l : Addr) (items : Array Value) (n : Nat) (dd : Option Addr) (sl : Array (Option Value)) (x : Int) (u : Tok) (c0 : (decide (x < -(2 ^ 63)) || decide (x ≥ 2 ^ 63)) = false) (c1 : (items.isEmpty || x == 1) = false) (c2 : (decide (x ≤ 0) || items.isEmpty) = true) :
    Meets (Builtin.«tuple.__mul__» ⟨[.ref l, .int x u], []⟩) (fun _ R s => s.heap.get? l = some { cls := .type "tuple", dict := dd, data := .seq items n, slots := sl } ∧
      R (.ok (.ret (Value.ref s.heap.objs.size))) { s with heap := s.heap.push { cls := Value.type "tuple", data := Data.seq #[] }, toks := s.toks }) :=
  .of_wp fun prog w A R s h => by
    obtain ⟨hp, g, d, tk, os⟩ := s
    obtain ⟨hl, h⟩ := h
    have f1 := AutoSeq1.idx_int
    wp_walk using wpAny_loadPart' hl
    repeat (first
      | (refine wpAny_ite_false (decide_eq_false (by rw [c0]; exact Bool.false_ne_true)) ?_; wp_walk using wpAny_loadPart' hl)
      | (refine wpAny_ite_false (decide_eq_false (by rw [c1]; exact Bool.false_ne_true)) ?_; wp_walk using wpAny_loadPart' hl)
      | (refine wpAny_ite_true (decide_eq_true c2) ?_; wp_walk using wpAny_loadPart' hl))
    exact ⟨_, rfl, h⟩
variable {X : Cx}
/-- a tuple times k: the same where k is one or nothing is in it; the empty tuple where k is not above nothing -/
def rRepU (K : PySem.W.Frag) : R2 := fun x y H Q => ∃ l k xs, x = .ref l ∧ y = .int k ∧ SqT K H l xs ∧ -1000000 < k ∧ k < 1000000 ∧ (((xs = [] ∨ k = 1) ∧ Q (.ref l) H) ∨ (xs ≠ [] ∧ k ≤ 0 ∧ ∀ p, H p = none → Q (.ref p) (upd H p (.tup []))))
theorem op_repU : OpR X (binaryOp .Mult) (rRepU X.K) := by
  intro pins s σ H x y v u Q I rx ry h
  obtain ⟨l, k, xs, rfl, rfl, hT, h1, h2, q⟩ := h
  cases rx
  obtain ⟨t, rfl⟩ := ry
  obtain ⟨its, r, ⟨⟨cls, dd, data, sl⟩, ho, hc, n, hd⟩, hs⟩ := I.tuple hT
  simp only at hc hd
  subst hc hd
  have hle := r.length
  have c0 : (decide (k < -(2 ^ 63)) || decide (k ≥ 2 ^ 63)) = false := by
    rw [decide_eq_false (by omega), decide_eq_false (by omega)] <;> rfl
  have go : ∀ {Q' : Value → Shared → Prop}, wpAny (model X.prog X.w) X.A (call (.builtin "tuple.__mul__") [.ref l, .int k t]) Q' X.xe s → wpAny (model X.prog X.w) X.A (binaryOp .Mult (.ref l) (.int k t)) Q' X.xe s := fun {Q'} h =>
    wpAny_binaryOp_repeat_ref (T := "tuple") (U := "int") (by decide) ⟨_, ho, rfl⟩ (fun s' => typeIs_int s' k t) noFill_tuple_mul F.fills_int_mul F.slot_int_rmul repeat_tuple F.slot_int_index.lookup
      (call_meets F.slot_int_rmul (typeIs_int s k t) F.entry_int_rmul (F.args_int_rmul_2 _ _) (int_rmul_tuple k t l its.toArray n dd sl) ⟨ho, rfl, ⟨_, ho, rfl⟩, h⟩)
  rcases q with ⟨hq, q⟩ | ⟨hne, hk, q⟩
  · have c1 : (its.toArray.isEmpty || k == 1) = true := by
      rcases hq with rfl | rfl
      · have : its = [] := List.eq_nil_of_length_eq_zero (by rw [← hle]; rfl)
        subst this
        rfl
      · simp
    exact go (call_meets F.slot_tuple_mul ⟨_, ho, rfl⟩ F.entry_tuple_mul (F.args_tuple_mul_2 _ _) (tuple_mulSame l its.toArray n dd sl k t c0 c1) ⟨ho, .ref l, H, I, rfl, q⟩)
  · have hi : its.toArray.isEmpty = false := by
      cases its with
      | nil => exact absurd (List.eq_nil_of_length_eq_zero hle) hne
      | cons a b => rfl
    have c1 : (its.toArray.isEmpty || k == 1) = false := by
      rw [hi, Bool.false_or]
      exact beq_eq_false_iff_ne.mpr (by omega)
    have c2 : (decide (k ≤ 0) || its.toArray.isEmpty) = true := by rw [decide_eq_true hk]; rfl
    refine go (call_meets F.slot_tuple_mul ⟨_, ho, rfl⟩ F.entry_tuple_mul (F.args_tuple_mul_2 _ _) (tuple_mulNone l its.toArray n dd sl k t c0 c1 c2) ⟨ho, ?_⟩)
    exact ⟨.ref s.heap.objs.size, upd H s.heap.objs.size (.tup []), I.laid (t' := s.toks) (fun b u e => Heap.get?_push_of_some _ e) (Nat.le_refl _) ⟨by show 0 ≤ sizeLine; decide, [], .nil, ⟨_, Heap.get?_push_size _ rfl, rfl, _, rfl⟩⟩, rfl, q _ (I.hok.fresh (Nat.le_refl _))⟩
end Mi
end

section
set_option Elab.async false
set_option linter.all false
set_option maxRecDepth 100000
/-! Each operation of the small language is what the model does. -/
namespace Mi
open PySem PySem.Spec PyProof.Rows L2
variable {X : Cx}

theorem SZ_eq : SZ = sizeLine := by unfold SZ; decide

/-- an operator's reading -/
def rP2 (K : PySem.W.Frag) (o : Op2) : R2 := fun x y H Q => ∃ F a b d, Same F H ∧ WRep K F H a x ∧ WRep K F H b y ∧ op2 o a b = some d ∧
  ∀ v F' H' fp, PrimRes K F H F' H' d v fp → Q v H'
theorem rep_int {K : PySem.W.Frag} {F H : Hp} {i : Int} {v : V} {fp : List Addr} (h : Rep K F H (.int i) v fp) : v = .int i := by simp only [Rep] at h; exact h.1
theorem rep_bl {K : PySem.W.Frag} {F H : Hp} {i : Bool} {v : V} {fp : List Addr} (h : Rep K F H (.bl i) v fp) : v = .bl i := by simp only [Rep] at h; exact h.1
theorem rep_str {K : PySem.W.Frag} {F H : Hp} {i : Str} {v : V} {fp : List Addr} (h : Rep K F H (.str i) v fp) : v = .str i := by simp only [Rep] at h; exact h.1
theorem rep_non {K : PySem.W.Frag} {F H : Hp} {v : V} {fp : List Addr} (h : Rep K F H .non v fp) : v = .non := by simp only [Rep] at h; exact h.1
theorem rep_lst {K : PySem.W.Frag} {F H : Hp} {o : Bool} {ds : List D} {v : V} {fp : List Addr} (s : Same F H) (h : Rep K F H (.lst o ds) v fp) : ∃ a vs f, v = .ref a ∧ H a = some (.lst vs) ∧ RepL K F H ds vs f := by
  cases o with
  | true =>
    simp only [Rep] at h
    obtain ⟨a, vs, f, e, h1, h2, _⟩ := h
    exact ⟨a, vs, f, e, h1, h2⟩
  | false =>
    simp only [Rep] at h
    obtain ⟨a, vs, e, h1, h2, _⟩ := h
    exact ⟨a, vs, [], e, s _ _ h1, h2⟩
theorem rep_tup {K : PySem.W.Frag} {F H : Hp} {ds : List D} {v : V} {fp : List Addr} (s : Same F H) (h : Rep K F H (.tup ds) v fp) : ∃ a vs, v = .ref a ∧ SqT K F a vs ∧ SqT K H a vs ∧ RepL K F H ds vs fp := by
  simp only [Rep] at h
  obtain ⟨a, vs, e, h1, h2⟩ := h
  exact ⟨a, vs, e, h1, Same.seqT s h1, h2⟩
theorem rep_scr {K : PySem.W.Frag} {F H : Hp} {ds : List D} {v : V} {fp : List Addr} (s : Same F H) (h : Rep K F H (.scr ds) v fp) : ∃ a vs, v = .ref a ∧ SqL K H a vs ∧ RepL K F H ds vs [] := by
  simp only [Rep] at h
  obtain ⟨a, vs, e, h1, h2, _⟩ := h
  exact ⟨a, vs, e, Same.seq s h1, h2⟩
theorem res_int {K : PySem.W.Frag} {F H : Hp} (s : Same F H) (i : Int) : PrimRes K F H F H (.int i) (.int i) [] := .here s (by simp [Rep])
theorem res_bl {K : PySem.W.Frag} {F H : Hp} (s : Same F H) (i : Bool) : PrimRes K F H F H (.bl i) (.bl i) [] := .here s (by simp [Rep])
theorem res_str {K : PySem.W.Frag} {F H : Hp} (s : Same F H) (i : Str) : PrimRes K F H F H (.str i) (.str i) [] := .here s (by simp [Rep])
theorem res_non {K : PySem.W.Frag} {F H : Hp} (s : Same F H) : PrimRes K F H F H .non .non [] := .here s (by simp [Rep])

theorem op_addP : OpR X (binaryOp .Add) (rP2 X.K .add) := by
  intro pins s σ H x y v u Q I rx ry h
  obtain ⟨F, a, b, d, sF, ⟨f1, ra⟩, ⟨f2, rb⟩, e, q⟩ := h
  simp only [op2] at e
  unfold addD at e
  split at e
  · obtain rfl := rep_int ra
    obtain rfl := rep_int rb
    cases e
    exact op_add pins s σ H _ _ v u Q I rx ry ⟨_, _, rfl, rfl, q _ _ _ _ (res_int sF _)⟩
  · rename_i i j
    obtain rfl := rep_str ra
    obtain rfl := rep_str rb
    split at e
    · rename_i hz
      cases e
      exact op_add_str pins s σ H _ _ v u Q I rx ry ⟨_, _, rfl, rfl, by rw [← SZ_eq]; exact hz, q _ _ _ _ (res_str sF _)⟩
    · cases e
  · rename_i o1 xs o2 ys
    obtain ⟨a1, vs1, g1, rfl, h1, l1⟩ := rep_lst sF ra
    obtain ⟨a2, vs2, g2, rfl, h2, l2⟩ := rep_lst sF rb
    split at e
    · cases e
    · rename_i ho
      simp only [Bool.or_eq_true, not_or, Bool.not_eq_true] at ho
      split at e
      · rename_i hz
        cases e
        have k1 := RepL.nil ho.1 l1
        have k2 := RepL.nil ho.2 l2
        refine op_cat pins s σ H _ _ v u Q I rx ry ⟨a1, a2, vs1, vs2, rfl, rfl, h1, h2, ?_, fun p hp => q _ _ _ _ (.newL sF (by simpa using RepL.app k1 k2) hp)⟩
        rw [RepL.length _ _ _ k1, RepL.length _ _ _ k2, ← SZ_eq]
        exact hz
      · cases e
  · rename_i xs ys
    obtain ⟨a1, vs1, rfl, t1, h1, l1⟩ := rep_tup sF ra
    obtain ⟨a2, vs2, rfl, t2, h2, l2⟩ := rep_tup sF rb
    split at e
    · cases e
    · rename_i ho
      simp only [Bool.or_eq_true, not_or, Bool.not_eq_true] at ho
      split at e
      · rename_i hz
        cases e
        have k1 := RepL.nil ho.1 l1
        have k2 := RepL.nil ho.2 l2
        have e1 := RepL.length _ _ _ k1
        have e2 := RepL.length _ _ _ k2
        refine op_catA pins s σ H _ _ v u Q I rx ry ⟨a1, a2, vs1, vs2, rfl, rfl, h1, h2, ?_, fun z => ?_, fun _ z => ?_, fun _ _ p hp => q _ _ _ _ (.newT sF (by simpa using RepL.app k1 k2) hp)⟩
        · rw [e1, e2, ← SZ_eq]
          exact hz
        · subst z
          have : xs = [] := List.length_eq_zero_iff.mp (by simpa using e1.symm)
          subst this
          refine q _ _ _ _ (.here sF ?_)
          simp only [Rep, List.nil_append]
          exact ⟨a2, vs2, rfl, t2, k2⟩
        · subst z
          have : ys = [] := List.length_eq_zero_iff.mp (by simpa using e2.symm)
          subst this
          refine q _ _ _ _ (.here sF ?_)
          simp only [Rep, List.append_nil]
          exact ⟨a1, vs1, rfl, t1, k1⟩
      · cases e
  · cases e
theorem op_subP : OpR X (binaryOp .Sub) (rP2 X.K .sub) := by
  intro pins s σ H x y v u Q I rx ry h
  obtain ⟨F, a, b, d, sF, ⟨f1, ra⟩, ⟨f2, rb⟩, e, q⟩ := h
  simp only [op2] at e
  unfold subD at e
  split at e
  · obtain rfl := rep_int ra
    obtain rfl := rep_int rb
    cases e
    exact op_sub pins s σ H _ _ v u Q I rx ry ⟨_, _, rfl, rfl, q _ _ _ _ (res_int sF _)⟩
  · cases e
theorem op_mulP : OpR X (binaryOp .Mult) (rP2 X.K .mul) := by
  intro pins s σ H x y v u Q I rx ry h
  obtain ⟨F, a, b, d, sF, ⟨f1, ra⟩, ⟨f2, rb⟩, e, q⟩ := h
  simp only [op2] at e
  unfold mulD at e
  split at e
  · obtain rfl := rep_int ra
    obtain rfl := rep_int rb
    split at e
    · rename_i hm
      cases e
      refine op_mul pins s σ H _ _ v u Q I rx ry ⟨_, _, rfl, rfl, ?_, q _ _ _ _ (res_int sF _)⟩
      unfold mulOk at hm
      simp only [Bool.or_eq_true, decide_eq_true_eq] at hm
      unfold CMul
      rcases hm with h | h
      · left; constructor <;> omega
      · right; constructor <;> omega
    · cases e
  · rename_i o xs k
    obtain rfl := rep_int rb
    obtain ⟨a1, vs1, g1, rfl, h1, l1⟩ := rep_lst sF ra
    split at e
    · cases e
    · rename_i ho
      split at e
      · rename_i hz
        cases e
        simp only [Bool.and_eq_true, decide_eq_true_eq] at hz
        have k1 := RepL.nil (by simpa using ho) l1
        refine op_rep pins s σ H _ _ v u Q I rx ry ⟨a1, k, vs1, rfl, rfl, h1, by omega, by omega, ?_, fun p hp => q _ _ _ _ (.newL sF (RepL.rep k1 _) hp)⟩
        rw [RepL.length _ _ _ k1, ← SZ_eq]
        unfold SZ
        omega
      · cases e
  · rename_i xs k
    obtain rfl := rep_int rb
    simp only [Rep] at ra
    obtain ⟨a1, vs1, rfl, h1, l1⟩ := ra
    have hT := Same.seqT sF h1
    split at e
    · cases e
    · rename_i ho
      have k1 := RepL.nil (by simpa using ho) l1
      have hlen := RepL.length _ _ _ k1
      split at e
      · rename_i hz
        simp only [Bool.and_eq_true, decide_eq_true_eq] at hz
        split at e
        · rename_i hc
          cases e
          refine op_repU pins s σ H _ _ v u Q I rx ry ⟨a1, k, vs1, rfl, rfl, hT, hz.1, hz.2, .inl ⟨?_, ?_⟩⟩
          · simp only [Bool.or_eq_true] at hc
            rcases hc with hc | hc
            · left
              have : xs = [] := by simpa using hc
              subst this
              exact List.eq_nil_of_length_eq_zero hlen
            · right
              simpa using hc
          · exact q _ _ _ _ (.here sF (by simp only [Rep]; exact ⟨a1, vs1, rfl, h1, k1⟩))
        · rename_i hc
          have hne : xs ≠ [] ∧ k ≠ 1 := by
            simp only [Bool.or_eq_true, not_or] at hc
            exact ⟨fun z => hc.1 (by simp [z]), fun z => hc.2 (by simp [z])⟩
          have hv : vs1 ≠ [] := fun z => by
            rw [z] at hlen
            exact hne.1 (List.eq_nil_of_length_eq_zero hlen.symm)
          split at e
          · rename_i hk
            cases e
            exact op_repU pins s σ H _ _ v u Q I rx ry ⟨a1, k, vs1, rfl, rfl, hT, hz.1, hz.2, .inr ⟨hv, hk, fun p hp => q _ _ _ _ (.newT sF (by simp [RepL]) hp)⟩⟩
          · split at e
            · rename_i hk hk2
              simp only [Bool.and_eq_true, decide_eq_true_eq] at hk2
              cases e
              exact op_repT pins s σ H _ _ v u Q I rx ry ⟨a1, k, vs1, rfl, rfl, hT, hv, by omega, hk2.1, by omega, fun p hp => q _ _ _ _ (.newT sF (RepL.rep k1 _) hp)⟩
            · cases e
      · cases e
  · cases e
theorem op_fdivP : OpR X (binaryOp .FloorDiv) (rP2 X.K .fdiv) := by
  intro pins s σ H x y v u Q I rx ry h
  obtain ⟨F, a, b, d, sF, ⟨f1, ra⟩, ⟨f2, rb⟩, e, q⟩ := h
  simp only [op2] at e
  unfold fdivD at e
  split at e
  · obtain rfl := rep_int ra
    obtain rfl := rep_int rb
    split at e
    · rename_i hz
      cases e
      exact op_fdiv pins s σ H _ _ v u Q I rx ry ⟨_, _, rfl, rfl, hz, q _ _ _ _ (res_int sF _)⟩
    · cases e
  · cases e
theorem op_modP : OpR X (binaryOp .Mod) (rP2 X.K .mod) := by
  intro pins s σ H x y v u Q I rx ry h
  obtain ⟨F, a, b, d, sF, ⟨f1, ra⟩, ⟨f2, rb⟩, e, q⟩ := h
  simp only [op2] at e
  unfold modD at e
  split at e
  · obtain rfl := rep_int ra
    obtain rfl := rep_int rb
    split at e
    · rename_i hz
      cases e
      exact op_mod pins s σ H _ _ v u Q I rx ry ⟨_, _, rfl, rfl, hz, q _ _ _ _ (res_int sF _)⟩
    · cases e
  · cases e
theorem intBits_log (x : Int) : Builtin.Int.intBits x ≤ x.natAbs.log2 + 1 := by
  unfold Builtin.Int.intBits
  split <;> omega
theorem op_powP : OpR X (binaryOp .Pow) (rP2 X.K .pow) := by
  intro pins s σ H x y v u Q I rx ry h
  obtain ⟨F, a, b, d, sF, ⟨f1, ra⟩, ⟨f2, rb⟩, e, q⟩ := h
  simp only [op2] at e
  unfold powD at e
  split at e
  · rename_i i j
    obtain rfl := rep_int ra
    obtain rfl := rep_int rb
    obtain ⟨t1, rfl⟩ := rx
    obtain ⟨t2, rfl⟩ := ry
    split at e
    · rename_i hz
      cases e
      obtain ⟨h0, h1, h2⟩ := hz
      refine pow_int h0 ?_ ⟨.int _, H, I.tok _, ⟨_, rfl⟩, q _ _ _ _ (res_int sF _)⟩
      have hb := intBits_log i
      have h3 : Builtin.Int.intBits i * j.toNat ≤ 1000000 := Nat.le_trans (Nat.mul_le_mul_right _ hb) h2
      have h4 : ((Builtin.Int.intBits i : Nat) : Int) * j = ((Builtin.Int.intBits i * j.toNat : Nat) : Int) := by
        rw [Int.natCast_mul, Int.toNat_of_nonneg h0]
      rw [h4]
      exact Int.le_trans (Int.ofNat_le.mpr h3) (by decide)
    · cases e
  · cases e
theorem op_cmpP {op : CmpOp} {p : Int → Int → Bool} {o : Op2} (ho : OpR X (compareOp op) (rI0 fun i j => .bl (p i j))) (e0 : ∀ a b, op2 o a b = cmpD p a b) : OpR X (compareOp op) (rP2 X.K o) := by
  intro pins s σ H x y v u Q I rx ry h
  obtain ⟨F, a, b, d, sF, ⟨f1, ra⟩, ⟨f2, rb⟩, e, q⟩ := h
  rw [e0] at e
  unfold cmpD at e
  split at e
  · obtain rfl := rep_int ra
    obtain rfl := rep_int rb
    cases e
    exact ho pins s σ H _ _ v u Q I rx ry ⟨_, _, rfl, rfl, q _ _ _ _ (res_bl sF _)⟩
  · cases e
theorem op_ltP : OpR X (compareOp .Lt) (rP2 X.K .lt) := op_cmpP op_lt fun _ _ => rfl
theorem op_leP : OpR X (compareOp .LtE) (rP2 X.K .le) := op_cmpP op_le fun _ _ => rfl
theorem op_gtP : OpR X (compareOp .Gt) (rP2 X.K .gt) := op_cmpP op_gt fun _ _ => rfl
theorem op_geP : OpR X (compareOp .GtE) (rP2 X.K .ge) := op_cmpP op_ge fun _ _ => rfl
theorem op_eqP (hu : X.A.units + 64 < cLine) : OpR X (compareOp .Eq) (rP2 X.K .eq) := by
  intro pins s σ H x y v u Q I rx ry h
  obtain ⟨F, a, b, d, sF, ⟨f1, ra⟩, ⟨f2, rb⟩, e, q⟩ := h
  simp only [op2] at e
  unfold eqD at e
  split at e
  · rename_i hz
    simp only [Bool.and_eq_true] at hz
    cases e
    exact op_eqD hu pins s σ H _ _ v u Q I rx ry ⟨_, _, Rep.dp sF _ _ _ hz.1.1.1 ra, Rep.dp sF _ _ _ hz.1.1.2 rb, hz.1.2, hz.2, q _ _ _ _ (res_bl sF _)⟩
  · cases e
theorem op_neP (hu : X.A.units + 64 < cLine) : OpR X (compareOp .NotEq) (rP2 X.K .ne) := by
  intro pins s σ H x y v u Q I rx ry h
  obtain ⟨F, a, b, d, sF, ⟨f1, ra⟩, ⟨f2, rb⟩, e, q⟩ := h
  simp only [op2] at e
  unfold eqD at e
  split at e
  · rename_i hz
    simp only [Bool.and_eq_true] at hz
    cases e
    exact op_neD hu pins s σ H _ _ v u Q I rx ry ⟨_, _, Rep.dp sF _ _ _ hz.1.1.1 ra, Rep.dp sF _ _ _ hz.1.1.2 rb, hz.1.2, hz.2, q _ _ _ _ (res_bl sF _)⟩
  · cases e
theorem memD_some {a : D} {xs : List D} {r : Bool} (e : memD a xs = some r) : a.isPd = true ∧ isPdL xs = true ∧ SeqAt.shaped a.pd = true ∧ SeqAt.shaped (.list (pdL xs)) = true ∧ r = (pdL xs).any fun z => PyData.eqv z a.pd := by
  unfold memD at e
  split at e
  · rename_i hz
    simp only [Bool.and_eq_true] at hz
    exact ⟨hz.1.1.1, hz.1.1.2, hz.1.2, hz.2, (Option.some.inj e).symm⟩
  · cases e
theorem shaped_list {ds : List PyData} (h : SeqAt.shaped (.list ds) = true) : PyData.canLayAll0 ds = true := by
  have := SeqAt.canLay_of_shaped h
  simpa only [PyData.canLay0] using this
theorem op_inP (hu : X.A.units + 65 < cLine) : OpR X (compareOp .In) (rP2 X.K .mem) := by
  intro pins s σ H x y v u Q I rx ry h
  obtain ⟨F, a, b, d, sF, ⟨f1, ra⟩, ⟨f2, rb⟩, e, q⟩ := h
  simp only [op2] at e
  unfold inD at e
  split at e
  · rename_i o xs
    cases em : memD a xs with
    | none => rw [em] at e; cases e
    | some r =>
      rw [em] at e
      cases e
      obtain ⟨p1, p2, s1, s2, rfl⟩ := memD_some em
      have hb := Rep.dp sF (.lst o xs) y _ (by simpa only [D.isPd] using p2) rb
      simp only [D.pd] at hb
      refine op_inD hu pins s σ H _ _ v u Q I rx ry ⟨_, _, Rep.dp sF _ _ _ p1 ra, hb, s1, s2, ?_⟩
      have := q _ _ _ _ (res_bl sF _)
      simpa using this
  · rename_i xs
    cases em : memD a xs with
    | none => rw [em] at e; cases e
    | some r =>
      rw [em] at e
      cases e
      obtain ⟨p1, p2, s1, s2, rfl⟩ := memD_some em
      have hb := Rep.dp sF (.tup xs) y _ (by simpa only [D.isPd] using p2) rb
      simp only [D.pd] at hb
      obtain ⟨as, r1⟩ := Dp.reads I _ x v (Rep.dp sF _ _ _ p1 ra) rx
      obtain ⟨bs, r2⟩ := Dp.reads I _ y u hb ry
      refine SeqAt.in_tuple_reads r2 r1 (shaped_list s2) (SeqAt.canLay_of_shaped s1) (room_in_shaped s1 hu) ⟨.bl _, H, I, rfl, ?_⟩
      have := q _ _ _ _ (res_bl sF _)
      simpa using this
  · cases e
theorem op_notInP (hu : X.A.units + 65 < cLine) : OpR X (compareOp .NotIn) (rP2 X.K .nmem) := by
  intro pins s σ H x y v u Q I rx ry h
  obtain ⟨F, a, b, d, sF, ⟨f1, ra⟩, ⟨f2, rb⟩, e, q⟩ := h
  simp only [op2] at e
  unfold inD at e
  split at e
  · rename_i o xs
    cases em : memD a xs with
    | none => rw [em] at e; cases e
    | some r =>
      rw [em] at e
      cases e
      obtain ⟨p1, p2, s1, s2, rfl⟩ := memD_some em
      have hb := Rep.dp sF (.lst o xs) y _ (by simpa only [D.isPd] using p2) rb
      simp only [D.pd] at hb
      refine op_notInD hu pins s σ H _ _ v u Q I rx ry ⟨_, _, Rep.dp sF _ _ _ p1 ra, hb, s1, s2, ?_⟩
      have := q _ _ _ _ (res_bl sF _)
      simpa using this
  · rename_i xs
    cases em : memD a xs with
    | none => rw [em] at e; cases e
    | some r =>
      rw [em] at e
      cases e
      obtain ⟨p1, p2, s1, s2, rfl⟩ := memD_some em
      have hb := Rep.dp sF (.tup xs) y _ (by simpa only [D.isPd] using p2) rb
      simp only [D.pd] at hb
      obtain ⟨as, r1⟩ := Dp.reads I _ x v (Rep.dp sF _ _ _ p1 ra) rx
      obtain ⟨bs, r2⟩ := Dp.reads I _ y u hb ry
      refine SeqAt.notIn_tuple_reads r2 r1 (shaped_list s2) (SeqAt.canLay_of_shaped s1) (room_in_shaped s1 hu) ⟨.bl _, H, I, rfl, ?_⟩
      have := q _ _ _ _ (res_bl sF _)
      simpa using this
  · cases e

/-! ### subscripts -/
def rIxP (K : PySem.W.Frag) : R2 := fun x y H Q => ∃ F a b d, Same F H ∧ WRep K F H a x ∧ WRep K F H b y ∧ idxD a b = some d ∧
  ∀ v F' H' fp, PrimRes K F H F' H' d v fp → Q v H'
theorem atI_rep {K : PySem.W.Frag} {F H : Hp} {ds : List D} {vs : List V} {fp : List Addr} {i : Int} {d : D} (h : RepL K F H ds vs fp) (e : (atI ds i).bind itemD = some d) : ∃ v, atI vs i = some v ∧ Rep K F H d v [] := by
  have hl := RepL.length _ _ _ h
  cases e1 : atI ds i with
  | none => rw [e1] at e; cases e
  | some d0 =>
    rw [e1] at e
    have e : itemD d0 = some d := e
    unfold itemD at e
    split at e
    · cases e
    · rename_i ho
      cases e
      unfold atI at e1 ⊢
      rw [hl]
      cases e2 : ixN ds.length i with
      | none => rw [e2] at e1; cases e1
      | some j =>
        rw [e2] at e1
        obtain ⟨v, f, a1, a2, _⟩ := RepL.get j h e1
        exact ⟨v, a1, Rep.nil (by simpa using ho) a2⟩
theorem ix_P : IxR X (rIxP X.K) := by
  intro value slice pins s σ H x y v u Q I rx ry h
  obtain ⟨F, a, b, d, sF, ⟨f1, ra⟩, ⟨f2, rb⟩, e, q⟩ := h
  unfold idxD at e
  split at e
  · obtain rfl := rep_int rb
    obtain ⟨a1, vs1, g1, rfl, h1, l1⟩ := rep_lst sF ra
    obtain ⟨w, e1, e2⟩ := atI_rep l1 e
    exact ix_list value slice pins s σ H _ _ v u Q I rx ry ⟨a1, vs1, _, w, rfl, rfl, SqL.of h1, e1, q _ _ _ _ (.here sF e2)⟩
  · obtain rfl := rep_int rb
    obtain ⟨a1, vs1, rfl, _, h1, l1⟩ := rep_tup sF ra
    obtain ⟨w, e1, e2⟩ := atI_rep l1 e
    exact ix_tup value slice pins s σ H _ _ v u Q I rx ry ⟨a1, vs1, _, w, rfl, rfl, h1, e1, q _ _ _ _ (.here sF e2)⟩
  · obtain rfl := rep_int rb
    obtain ⟨a1, vs1, rfl, h1, l1⟩ := rep_scr sF ra
    obtain ⟨w, e1, e2⟩ := atI_rep l1 e
    exact ix_list value slice pins s σ H _ _ v u Q I rx ry ⟨a1, vs1, _, w, rfl, rfl, h1, e1, q _ _ _ _ (.here sF e2)⟩
  · cases e
def rSlP (K : PySem.W.Frag) : V → Option Int → Option Int → Hp → VK → Prop := fun x lo hi H Q => ∃ F a d, Same F H ∧ WRep K F H a x ∧ slcD a lo hi = some d ∧
  ∀ v F' H' fp, PrimRes K F H F' H' d v fp → Q v H'
theorem cut_rep {K : PySem.W.Frag} {F H : Hp} {ds : List D} {vs : List V} (lo hi : Option Int) (h : RepL K F H ds vs []) : RepL K F H (cutD ds lo hi) (cutV vs lo hi) [] := by
  unfold cutD cutV
  rw [RepL.length _ _ _ h]
  exact RepL.take _ (RepL.drop _ h)
theorem sl_P : SlR X (rSlP X.K) := by
  intro pins s σ H x v vl vu lo hi sl Q I rx hs pl pu h
  obtain ⟨F, a, d, sF, ⟨f1, ra⟩, e, q⟩ := h
  cases a with
  | lst o xs =>
    simp only [slcD] at e
    obtain ⟨a1, vs1, g1, rfl, h1, l1⟩ := rep_lst sF ra
    split at e
    · cases e
    · rename_i ho
      cases e
      have k1 := RepL.nil (by simpa using ho) l1
      exact sl_list pins s σ H _ v vl vu _ _ sl Q I rx hs pl pu ⟨a1, vs1, rfl, SqL.of h1, fun p hp => q _ _ _ _ (.newL sF (cut_rep _ _ k1) hp)⟩
  | tup xs =>
    simp only [slcD] at e
    obtain ⟨a1, vs1, rfl, h0, h1, l1⟩ := rep_tup sF ra
    split at e
    · cases e
    · rename_i ho
      cases e
      have k1 := RepL.nil (by simpa using ho) l1
      have hl := RepL.length _ _ _ k1
      refine sl_tupA pins s σ H _ v vl vu _ _ sl Q I rx hs pl pu ⟨a1, vs1, rfl, h1, fun z => ?_, fun _ p hp => q _ _ _ _ (.newT sF (cut_rep _ _ k1) hp)⟩
      have e : cutD xs lo hi = xs := by
        unfold cutD
        rw [hl] at z
        rw [z.1, z.2]
        simp
      refine q _ _ _ _ (.here sF ?_)
      rw [e]
      simp only [Rep]
      exact ⟨a1, vs1, rfl, h0, k1⟩
  | scr xs =>
    simp only [slcD] at e
    obtain ⟨a1, vs1, rfl, h1, l1⟩ := rep_scr sF ra
    split at e
    · cases e
    · rename_i ho
      cases e
      exact sl_list pins s σ H _ v vl vu _ _ sl Q I rx hs pl pu ⟨a1, vs1, rfl, h1, fun p hp => q _ _ _ _ (.newL sF (cut_rep _ _ l1) hp)⟩
  | _ => simp [slcD] at e

/-! ### built-ins by name -/
def rPr (K : PySem.W.Frag) (p : Pr) : List V → Hp → VK → Prop := fun vs H Q => ∃ F ds d, Same F H ∧ WRepL K F H ds vs ∧ prD p ds = some d ∧
  ∀ v F' H' fp, PrimRes K F H F' H' d v fp → Q v H'
theorem prD1 {p : Pr} {g : D → Option D} {K : PySem.W.Frag} {F H : Hp} {ds : List D} {vs : List V} {d : D} (w : WRepL K F H ds vs) (e : prD p ds = some d)
    (hp : ∀ ds, prD p ds = some d → ∃ a, ds = [a] ∧ g a = some d) : ∃ a x, ds = [a] ∧ vs = [x] ∧ WRep K F H a x ∧ g a = some d := by
  obtain ⟨a, rfl, ea⟩ := hp ds e
  cases vs with
  | nil => exact absurd w (by simp [WRepL])
  | cons x r =>
    cases r with
    | nil => exact ⟨a, x, rfl, rfl, w.1, ea⟩
    | cons _ _ => exact absurd w.2 (by simp [WRepL])
theorem one_of {p : Pr} {g : D → Option D} {ds : List D} {d : D} (h1 : ∀ a, prD p [a] = g a) (h0 : prD p [] = none) (h2 : ∀ a b r, prD p (a :: b :: r) = none) (e : prD p ds = some d) : ∃ a, ds = [a] ∧ g a = some d := by
  match ds with
  | [] => rw [h0] at e; cases e
  | [a] => exact ⟨a, rfl, by rw [← h1]; exact e⟩
  | a :: b :: r => rw [h2] at e; cases e
/-- a built-in of one argument -/
theorem cb_one {f : Value} {p : Pr} {g : D → Option D} (h1 : ∀ a, prD p [a] = g a) (h0 : prD p [] = none) (h2 : ∀ a b r, prD p (a :: b :: r) = none)
    (k : ∀ (pins : List (Addr × Obj)) (s : Shared) (σ : L2.St) (H : Hp) (x : V) (u : Value) (Q : VK) (F : Hp) (a d : D), Inv X pins σ H s → RelV x u → Same F H → WRep X.K F H a x → g a = some d →
      (∀ v F' H' fp, PrimRes X.K F H F' H' d v fp → Q v H') → wpAny (model X.prog X.w) X.A (call f [u]) (EP X pins σ Q) X.xe s) : CallR X f (rPr X.K p) := by
  intro pins s σ H xs us Q I r h
  obtain ⟨F, ds, d, sF, w, e, q⟩ := h
  obtain ⟨a, x, rfl, rfl, wa, ea⟩ := prD1 w e (fun ds e => one_of h1 h0 h2 e)
  obtain ⟨u, rfl, rx⟩ := vals1 r
  exact k pins s σ H x u Q F a d I rx sF wa ea q
theorem vcons {x : V} {u : Value} (r : RelV x u) : Vals [x] [u] := .cons r .nil
theorem cb_len : CallR X (.builtin "len") (rPr X.K .len) := by
  refine cb_one (g := lenD) (fun _ => rfl) rfl (fun _ _ _ => rfl) fun pins s σ H x u Q F a d I rx sF ⟨fp, ra⟩ e q => ?_
  unfold lenD at e
  split at e
  · obtain ⟨a1, vs1, g1, rfl, h1, l1⟩ := rep_lst sF ra
    cases e
    refine call_len pins s σ H _ _ Q I (vcons rx) ⟨_, _, rfl, .inl ⟨vs1, SqL.of h1, rfl⟩, ?_⟩
    rw [RepL.length _ _ _ l1]
    exact q _ _ _ _ (res_int sF _)
  · obtain ⟨a1, vs1, rfl, _, h1, l1⟩ := rep_tup sF ra
    cases e
    refine call_len pins s σ H _ _ Q I (vcons rx) ⟨_, _, rfl, .inr ⟨vs1, h1, rfl⟩, ?_⟩
    rw [RepL.length _ _ _ l1]
    exact q _ _ _ _ (res_int sF _)
  · obtain ⟨a1, vs1, rfl, h1, l1⟩ := rep_scr sF ra
    cases e
    refine call_len pins s σ H _ _ Q I (vcons rx) ⟨_, _, rfl, .inl ⟨vs1, h1, rfl⟩, ?_⟩
    rw [RepL.length _ _ _ l1]
    exact q _ _ _ _ (res_int sF _)
  · obtain rfl := rep_str ra
    split at e
    · rename_i hz
      cases e
      exact call_len pins s σ H _ _ Q I (vcons rx) ⟨_, _, rfl, ⟨by rw [← SZ_eq]; exact hz, rfl⟩, q _ _ _ _ (res_int sF _)⟩
    · cases e
  · cases e
theorem intsOf_map : ∀ {ds : List D} {is : List Int} {K : PySem.W.Frag} {F H : Hp} {vs : List V} {fp : List Addr}, intsOf ds = some is → RepL K F H ds vs fp → vs = is.map V.int
  | [], is, K, F, H, vs, fp, e, h => by
    simp only [intsOf] at e; cases e
    simp only [RepL] at h; exact h.1
  | d :: ds, is, K, F, H, vs, fp, e, h => by
    simp only [RepL] at h
    obtain ⟨v, vs', f1, f2, rfl, h1, h2, rfl⟩ := h
    cases d <;> simp only [intsOf] at e <;> try (cases e)
    rename_i i
    cases e1 : intsOf ds with
    | none => rw [e1] at e; cases e
    | some r =>
      rw [e1] at e
      cases e
      rw [intsOf_map e1 h2, rep_int h1]
      rfl
theorem boolsOf_map : ∀ {ds : List D} {is : List Bool} {K : PySem.W.Frag} {F H : Hp} {vs : List V} {fp : List Addr}, boolsOf ds = some is → RepL K F H ds vs fp → vs = is.map V.bl
  | [], is, K, F, H, vs, fp, e, h => by
    simp only [boolsOf] at e; cases e
    simp only [RepL] at h; exact h.1
  | d :: ds, is, K, F, H, vs, fp, e, h => by
    simp only [RepL] at h
    obtain ⟨v, vs', f1, f2, rfl, h1, h2, rfl⟩ := h
    cases d <;> simp only [boolsOf] at e <;> try (cases e)
    rename_i i
    cases e1 : boolsOf ds with
    | none => rw [e1] at e; cases e
    | some r =>
      rw [e1] at e
      cases e
      rw [boolsOf_map e1 h2, rep_bl h1]
      rfl
theorem cb_all (hc : X.calm = true) : CallR X (.builtin "all") (rPr X.K .all) := by
  refine cb_one (g := allD) (fun _ => rfl) rfl (fun _ _ _ => rfl) fun pins s σ H x u Q F a d I rx sF ⟨fp, ra⟩ e q => ?_
  cases a with
  | lst o xs =>
    simp only [allD] at e
    obtain ⟨a1, vs1, g1, rfl, h1, l1⟩ := rep_lst sF ra
    cases eb : boolsOf xs with
    | none => rw [eb] at e; cases e
    | some bs =>
      rw [eb] at e
      cases e
      exact cr_all hc pins s σ H _ _ Q I (vcons rx) ⟨a1, bs, rfl, by rw [← boolsOf_map eb l1]; exact SqL.of h1, q _ _ _ _ (res_bl sF _)⟩
  | _ => simp [allD] at e
theorem cb_any (hc : X.calm = true) : CallR X (.builtin "any") (rPr X.K .any) := by
  refine cb_one (g := anyD) (fun _ => rfl) rfl (fun _ _ _ => rfl) fun pins s σ H x u Q F a d I rx sF ⟨fp, ra⟩ e q => ?_
  cases a with
  | lst o xs =>
    simp only [anyD] at e
    obtain ⟨a1, vs1, g1, rfl, h1, l1⟩ := rep_lst sF ra
    cases eb : boolsOf xs with
    | none => rw [eb] at e; cases e
    | some bs =>
      rw [eb] at e
      cases e
      exact cr_any hc pins s σ H _ _ Q I (vcons rx) ⟨a1, bs, rfl, by rw [← boolsOf_map eb l1]; exact SqL.of h1, q _ _ _ _ (res_bl sF _)⟩
  | _ => simp [anyD] at e
theorem cb_abs : CallR X (.builtin "abs") (rPr X.K .abs) := by
  refine cb_one (g := absD) (fun _ => rfl) rfl (fun _ _ _ => rfl) fun pins s σ H x u Q F a d I rx sF ⟨fp, ra⟩ e q => ?_
  unfold absD at e
  split at e
  · obtain rfl := rep_int ra
    cases e
    exact call_abs pins s σ H _ _ Q I (vcons rx) ⟨_, rfl, q _ _ _ _ (res_int sF _)⟩
  · cases e
theorem cb_int : CallR X (.type "int") (rPr X.K .int) := by
  refine cb_one (g := intD) (fun _ => rfl) rfl (fun _ _ _ => rfl) fun pins s σ H x u Q F a d I rx sF ⟨fp, ra⟩ e q => ?_
  unfold intD at e
  split at e
  · obtain rfl := rep_int ra
    cases e
    exact call_int1 pins s σ H _ _ Q I (vcons rx) (.inl ⟨_, rfl, q _ _ _ _ (res_int sF _)⟩)
  · obtain rfl := rep_bl ra
    cases e
    exact call_int1 pins s σ H _ _ Q I (vcons rx) (.inr ⟨_, rfl, q _ _ _ _ (res_int sF _)⟩)
  · cases e
theorem maxI_spec : ∀ (is : List Int) (m : Int), maxI m is ∈ m :: is ∧ ∀ y ∈ m :: is, y ≤ maxI m is
  | [], m => ⟨by simp [maxI], by simp [maxI]⟩
  | x :: r, m => by
    simp only [maxI]
    by_cases hx : x > m
    · rw [if_pos hx]
      obtain ⟨h1, h2⟩ := maxI_spec r x
      refine ⟨?_, fun y hy => ?_⟩
      · rcases List.mem_cons.mp h1 with h | h
        · rw [h]; simp
        · simp [h]
      · have h3 := h2 x (List.mem_cons_self ..)
        rcases List.mem_cons.mp hy with rfl | hy
        · omega
        · exact h2 y hy
    · rw [if_neg hx]
      obtain ⟨h1, h2⟩ := maxI_spec r m
      refine ⟨?_, fun y hy => ?_⟩
      · rcases List.mem_cons.mp h1 with h | h
        · rw [h]; simp
        · simp [h]
      · have h3 := h2 m (List.mem_cons_self ..)
        rcases List.mem_cons.mp hy with rfl | hy
        · exact h3
        · rcases List.mem_cons.mp hy with rfl | hy
          · omega
          · exact h2 y (by simp [hy])
theorem minI_spec : ∀ (is : List Int) (m : Int), minI m is ∈ m :: is ∧ ∀ y ∈ m :: is, minI m is ≤ y
  | [], m => ⟨by simp [minI], by simp [minI]⟩
  | x :: r, m => by
    simp only [minI]
    by_cases hx : x < m
    · rw [if_pos hx]
      obtain ⟨h1, h2⟩ := minI_spec r x
      refine ⟨?_, fun y hy => ?_⟩
      · rcases List.mem_cons.mp h1 with h | h
        · rw [h]; simp
        · simp [h]
      · have h3 := h2 x (List.mem_cons_self ..)
        rcases List.mem_cons.mp hy with rfl | hy
        · omega
        · exact h2 y hy
    · rw [if_neg hx]
      obtain ⟨h1, h2⟩ := minI_spec r m
      refine ⟨?_, fun y hy => ?_⟩
      · rcases List.mem_cons.mp h1 with h | h
        · rw [h]; simp
        · simp [h]
      · have h3 := h2 m (List.mem_cons_self ..)
        rcases List.mem_cons.mp hy with rfl | hy
        · exact h3
        · rcases List.mem_cons.mp hy with rfl | hy
          · omega
          · exact h2 y (by simp [hy])
theorem two_of {p : Pr} {g : D → Option D} {g2 : D → D → Option D} {ds : List D} {d : D} (h1 : ∀ a, prD p [a] = g a) (h0 : prD p [] = none) (h2 : ∀ a b, prD p [a, b] = g2 a b) (h3 : ∀ a b c r, prD p (a :: b :: c :: r) = none) (e : prD p ds = some d) :
    (∃ a, ds = [a] ∧ g a = some d) ∨ ∃ a b, ds = [a, b] ∧ g2 a b = some d := by
  match ds with
  | [] => rw [h0] at e; cases e
  | [a] => exact .inl ⟨a, rfl, by rw [← h1]; exact e⟩
  | [a, b] => exact .inr ⟨a, b, rfl, by rw [← h2]; exact e⟩
  | a :: b :: c :: r => rw [h3] at e; cases e
theorem wrep1 {K : PySem.W.Frag} {F H : Hp} {a : D} {vs : List V} (w : WRepL K F H [a] vs) : ∃ x, vs = [x] ∧ WRep K F H a x := by
  cases vs with
  | nil => exact absurd w (by simp [WRepL])
  | cons x r =>
    cases r with
    | nil => exact ⟨x, rfl, w.1⟩
    | cons _ _ => exact absurd w.2 (by simp [WRepL])
theorem wrep2 {K : PySem.W.Frag} {F H : Hp} {a b : D} {vs : List V} (w : WRepL K F H [a, b] vs) : ∃ x y, vs = [x, y] ∧ WRep K F H a x ∧ WRep K F H b y := by
  cases vs with
  | nil => exact absurd w (by simp [WRepL])
  | cons x r =>
    obtain ⟨y, rfl, wy⟩ := wrep1 (vs := r) w.2
    exact ⟨x, y, rfl, w.1, wy⟩
theorem cb_max (hc : X.calm = true) : CallR X (.builtin "max") (rPr X.K .max) := by
  intro pins s σ H xs us Q I r h
  obtain ⟨F, ds, d, sF, w, e, q⟩ := h
  rcases two_of (p := .max) (g := max1) (g2 := max2D) (fun _ => rfl) rfl (fun _ _ => rfl) (fun _ _ _ _ => rfl) e with ⟨a, rfl, ea⟩ | ⟨a, b, rfl, ea⟩
  · obtain ⟨x, rfl, fp, ra⟩ := wrep1 w
    unfold max1 at ea
    split at ea
    · rename_i o xs
      obtain ⟨a1, vs1, g1, rfl, h1, l1⟩ := rep_lst sF ra
      split at ea
      · rename_i i is ei
        cases ea
        obtain ⟨k1, k2⟩ := maxI_spec is i
        refine cr_max hc pins s σ H _ _ Q I r ⟨a1, i :: is, rfl, by rw [← intsOf_map ei l1]; exact SqL.of h1, by simp, fun m hm hle => ?_⟩
        obtain rfl : m = maxI i is := Int.le_antisymm (k2 m hm) (hle _ k1)
        exact q _ _ _ _ (res_int sF _)
      · cases ea
    · cases ea
  · obtain ⟨x, y, rfl, ⟨f1, ra⟩, ⟨f2, rb⟩⟩ := wrep2 w
    unfold max2D at ea
    split at ea
    · obtain rfl := rep_int ra
      obtain rfl := rep_int rb
      cases ea
      exact call_max2 hc pins s σ H _ _ Q I r ⟨_, _, rfl, q _ _ _ _ (res_int sF _)⟩
    · cases ea
theorem cb_min (hc : X.calm = true) : CallR X (.builtin "min") (rPr X.K .min) := by
  intro pins s σ H xs us Q I r h
  obtain ⟨F, ds, d, sF, w, e, q⟩ := h
  rcases two_of (p := .min) (g := min1) (g2 := min2D) (fun _ => rfl) rfl (fun _ _ => rfl) (fun _ _ _ _ => rfl) e with ⟨a, rfl, ea⟩ | ⟨a, b, rfl, ea⟩
  · obtain ⟨x, rfl, fp, ra⟩ := wrep1 w
    unfold min1 at ea
    split at ea
    · rename_i o xs
      obtain ⟨a1, vs1, g1, rfl, h1, l1⟩ := rep_lst sF ra
      split at ea
      · rename_i i is ei
        cases ea
        obtain ⟨k1, k2⟩ := minI_spec is i
        refine cr_min hc pins s σ H _ _ Q I r ⟨a1, i :: is, rfl, by rw [← intsOf_map ei l1]; exact SqL.of h1, by simp, fun m hm hle => ?_⟩
        obtain rfl : m = minI i is := Int.le_antisymm (hle _ k1) (k2 m hm)
        exact q _ _ _ _ (res_int sF _)
      · cases ea
    · cases ea
  · obtain ⟨x, y, rfl, ⟨f1, ra⟩, ⟨f2, rb⟩⟩ := wrep2 w
    unfold min2D at ea
    split at ea
    · obtain rfl := rep_int ra
      obtain rfl := rep_int rb
      cases ea
      exact call_min2 hc pins s σ H _ _ Q I r ⟨_, _, rfl, q _ _ _ _ (res_int sF _)⟩
    · cases ea
theorem insI_perm (x : Int) : ∀ l : List Int, (insI x l).Perm (x :: l)
  | [] => .refl _
  | y :: r => by
    unfold insI
    split
    · exact .refl _
    · exact ((insI_perm x r).cons y).trans (.swap x y r)
theorem sortI_perm : ∀ l : List Int, (sortI l).Perm l
  | [] => .refl _
  | x :: r => (insI_perm x (sortI r)).trans ((sortI_perm r).cons x)
theorem insI_sorted (x : Int) : ∀ l : List Int, l.Pairwise (· ≤ ·) → (insI x l).Pairwise (· ≤ ·)
  | [], _ => by simp [insI]
  | y :: r, h => by
    unfold insI
    have hy := List.pairwise_cons.mp h
    split
    · rename_i hxy
      refine List.pairwise_cons.mpr ⟨fun z hz => ?_, h⟩
      rcases List.mem_cons.mp hz with rfl | hz
      · exact hxy
      · exact Int.le_trans hxy (hy.1 z hz)
    · rename_i hxy
      refine List.pairwise_cons.mpr ⟨fun z hz => ?_, insI_sorted x r hy.2⟩
      rcases List.mem_cons.mp ((insI_perm x r).mem_iff.mp hz) with rfl | hz
      · omega
      · exact hy.1 z hz
theorem sortI_sorted : ∀ l : List Int, (sortI l).Pairwise (· ≤ ·)
  | [] => .nil
  | x :: r => insI_sorted x _ (sortI_sorted r)
theorem sorted_one {l m : List Int} (hp : l.Perm m) (h1 : l.Pairwise (· ≤ ·)) (h2 : m.Pairwise (· ≤ ·)) : l = m := List.Perm.eq_of_pairwise (le := (· ≤ ·)) (fun a b _ _ h h' => Int.le_antisymm h h') h1 h2 hp
theorem rep_ints {K : PySem.W.Frag} {F H : Hp} : ∀ is : List Int, RepL K F H (is.map D.int) (is.map V.int) []
  | [] => by simp [RepL]
  | i :: r => by
    simp only [List.map_cons, RepL]
    exact ⟨.int i, r.map V.int, [], [], rfl, by simp [Rep], rep_ints r, rfl⟩
theorem cb_sorted : CallR X (.builtin "sorted") (rPr X.K .sorted) := by
  refine cb_one (g := sortedD) (fun _ => rfl) rfl (fun _ _ _ => rfl) fun pins s σ H x u Q F a d I rx sF ⟨fp, ra⟩ e q => ?_
  cases a with
  | lst o xs =>
    simp only [sortedD] at e
    obtain ⟨a1, vs1, g1, rfl, h1, l1⟩ := rep_lst sF ra
    cases eb : intsOf xs with
    | none => rw [eb] at e; cases e
    | some bs =>
      rw [eb] at e
      cases e
      refine cr_sortedI pins s σ H _ _ Q I (vcons rx) ⟨a1, bs, rfl, by rw [← intsOf_map eb l1]; exact SqL.of h1, fun ns' p h1 h2 hp => ?_⟩
      obtain rfl : ns' = sortI bs := sorted_one (h1.trans (sortI_perm bs).symm) h2 (sortI_sorted bs)
      exact q _ _ _ _ (.newL sF (rep_ints _) hp)
  | _ => simp [sortedD] at e
theorem rep_seq {K : PySem.W.Frag} {F H : Hp} {d : D} {xs : List D} {v : V} {fp : List Addr} (s : Same F H) (e : seqOf d = some xs) (h : Rep K F H d v fp) : ∃ a vs f, v = .ref a ∧ (SqL K H a vs ∨ SqT K H a vs) ∧ RepL K F H xs vs f := by
  unfold seqOf at e
  split at e
  · cases e
    obtain ⟨a1, vs1, g1, rfl, h1, l1⟩ := rep_lst s h
    exact ⟨a1, vs1, g1, rfl, .inl (SqL.of h1), l1⟩
  · cases e
    obtain ⟨a1, vs1, rfl, _, h1, l1⟩ := rep_tup s h
    exact ⟨a1, vs1, _, rfl, .inr h1, l1⟩
  · cases e
    obtain ⟨a1, vs1, rfl, h1, l1⟩ := rep_scr s h
    exact ⟨a1, vs1, _, rfl, .inl h1, l1⟩
  · cases e
theorem cb_list : CallR X (.type "list") (rPr X.K .list) := by
  refine cb_one (g := listD) (fun _ => rfl) rfl (fun _ _ _ => rfl) fun pins s σ H x u Q F a d I rx sF ⟨fp, ra⟩ e q => ?_
  unfold listD at e
  cases es : seqOf a with
  | none => rw [es] at e; cases e
  | some xs =>
    rw [es] at e
    have e : (if ownL xs = true then none else some (D.lst true xs)) = some d := e
    obtain ⟨a1, vs1, g1, rfl, h1, l1⟩ := rep_seq sF es ra
    split at e
    · cases e
    · rename_i ho
      cases e
      exact call_list_of pins s σ H _ _ Q I (vcons rx) ⟨a1, vs1, rfl, h1, fun p hp => q _ _ _ _ (.newL sF (RepL.nil (by simpa using ho) l1) hp)⟩
theorem cb_tuple : CallR X (.type "tuple") (rPr X.K .tuple) := by
  refine cb_one (g := tupleD) (fun _ => rfl) rfl (fun _ _ _ => rfl) fun pins s σ H x u Q F a d I rx sF ⟨fp, ra⟩ e q => ?_
  unfold tupleD at e
  cases es : seqOf a with
  | none => rw [es] at e; cases e
  | some xs =>
    rw [es] at e
    have e : (if ownL xs = true then none else some (D.tup xs)) = some d := e
    split at e
    · cases e
    · rename_i ho
      cases e
      unfold seqOf at es
      split at es
      · cases es
        obtain ⟨a1, vs1, g1, rfl, h1, l1⟩ := rep_lst sF ra
        exact call_tuple_of pins s σ H _ _ Q I (vcons rx) ⟨a1, vs1, rfl, .inl ⟨SqL.of h1, fun p hp => q _ _ _ _ (.newT sF (RepL.nil (by simpa using ho) l1) hp)⟩⟩
      · cases es
        obtain ⟨a1, vs1, rfl, h0, h1, l1⟩ := rep_tup sF ra
        refine call_tuple_of pins s σ H _ _ Q I (vcons rx) ⟨a1, vs1, rfl, .inr ⟨h1, q _ _ _ _ (.here sF ?_)⟩⟩
        simp only [Rep]
        exact ⟨a1, vs1, rfl, h0, RepL.nil (by simpa using ho) l1⟩
      · cases es
        obtain ⟨a1, vs1, rfl, h1, l1⟩ := rep_scr sF ra
        exact call_tuple_of pins s σ H _ _ Q I (vcons rx) ⟨a1, vs1, rfl, .inl ⟨h1, fun p hp => q _ _ _ _ (.newT sF (RepL.nil (by simpa using ho) l1) hp)⟩⟩
      · cases es
mutual
theorem pd_noDict : ∀ d : D, d.pd.hasDict = false
  | .non => rfl | .bl _ => rfl | .int _ => rfl | .str _ => rfl | .typ _ => rfl | .cls _ => rfl | .dct _ _ _ => rfl | .exc _ _ => rfl | .clo _ _ => rfl | .scr _ => rfl
  | .lst _ ds => by simp only [D.pd, PyData.hasDict]; exact pdL_noDict ds
  | .tup ds => by simp only [D.pd, PyData.hasDict]; exact pdL_noDict ds
theorem pdL_noDict : ∀ ds : List D, PyData.hasDictAll (pdL ds) = false
  | [] => rfl
  | d :: ds => by simp only [pdL, PyData.hasDictAll]; rw [pd_noDict d, pdL_noDict ds]; rfl
end
theorem cb_repr (hg : X.A.guards = some []) (hu : X.A.units + 64 < cLine) : CallR X (.builtin "repr") (rPr X.K .repr) := by
  refine cb_one (g := reprD) (fun _ => rfl) rfl (fun _ _ _ => rfl) fun pins s σ H x u Q F a d I rx sF ⟨fp, ra⟩ e q => ?_
  unfold reprD at e
  split at e
  · rename_i hz
    simp only [Bool.and_eq_true, decide_eq_true_eq] at hz
    obtain ⟨⟨⟨hp, hs⟩, hd⟩, hl⟩ := hz
    cases e
    have q1 := q _ _ _ _ (res_str sF a.pd.shown)
    obtain ⟨as, rd⟩ := Dp.reads I _ x u (Rep.dp sF _ _ _ hp ra) rx
    have hn : a.pd.hasDict = true → sysModules ∉ as := fun z => by rw [pd_noDict] at z; cases z
    rw [SZ_eq] at hl
    have big : ∀ b : Addr, u = .ref b → wpAny (model X.prog X.w) X.A (call (.builtin "repr") [u]) (EP X pins σ Q) X.xe s := fun b e => by
      subst e
      exact repr_of_reads' (h₀ := s.heap) rd hs hn hg (by omega) (fun _ _ h => h) (fun h' t tk hk => ⟨.str _, H, I.kept hk, ⟨_, rfl⟩, q1⟩) hl
    cases a with
    | non =>
      obtain rfl := rep_non ra
      cases rx
      exact PySem.P.repr_of_none ⟨.str _, H, I.tok _, ⟨_, rfl⟩, q1⟩
    | bl b =>
      obtain rfl := rep_bl ra
      cases rx
      exact PySem.P.repr_of_bool ⟨.str _, H, I.tok _, ⟨_, rfl⟩, q1⟩
    | int i =>
      obtain rfl := rep_int ra
      obtain ⟨t, rfl⟩ := rx
      simp only [D.pd, PyData.showable, decide_eq_true_eq] at hs
      exact PySem.P.repr_of_int hs ⟨.str _, H, I.tok _, ⟨_, rfl⟩, q1⟩
    | str z =>
      obtain rfl := rep_str ra
      obtain ⟨t, rfl⟩ := rx
      exact PySem.P.repr_of_str ⟨.str _, H, I.tok _, ⟨_, rfl⟩, q1⟩ hl
    | tup ds =>
      obtain ⟨a1, _, rfl, _⟩ := rep_tup sF ra
      exact big a1 rx
    | lst o ds =>
      obtain ⟨a1, _, _, rfl, _⟩ := rep_lst sF ra
      exact big a1 rx
    | dct _ _ _ => simp [D.isPd] at hp
    | scr _ => simp [D.isPd] at hp
    | typ _ => simp [D.isPd] at hp
    | cls _ => simp [D.isPd] at hp
    | exc _ _ => simp [D.isPd] at hp
    | clo _ _ => simp [D.isPd] at hp
  · cases e
theorem cb_isi : CallR X (.builtin "isinstance") (rPr X.K .isi) := by
  intro pins s σ H xs us Q I r h
  obtain ⟨F, ds, d, sF, w, e, q⟩ := h
  have e2 : ∃ a b, ds = [a, b] ∧ isD a b = some d := by
    match ds, e with
    | [a, b], e => exact ⟨a, b, rfl, e⟩
    | [], e => cases e
    | [a], e => cases e
    | _ :: _ :: _ :: _, e => cases e
  obtain ⟨a, b, rfl, ea⟩ := e2
  obtain ⟨x, y, rfl, ⟨f1, ra⟩, ⟨f2, rb⟩⟩ := wrep2 w
  unfold isD at ea
  split at ea
  · rename_i n
    split at ea
    · rename_i hn
      obtain rfl : y = .ty n := by simp only [Rep] at rb; exact rb.1
      cases ei : isiD a n with
      | none => rw [ei] at ea; cases ea
      | some k =>
        rw [ei] at ea
        cases ea
        have fin : ∀ t : String, TyX X.K H x (.type t) → kitB t n = some k → wpAny (model X.prog X.w) X.A (call (.builtin "isinstance") us) (EP X pins σ Q) X.xe s := fun t ht hk =>
          call_isi pins s σ H _ us Q I r ⟨x, .ty n, .type t, .type n, k, rfl, .ty n, ht, kit_ty hk, q _ _ _ _ (res_bl sF _)⟩
        have tab : ∀ t : String, (n = "int" ∨ n = "bool" ∨ n = "str" ∨ n = "tuple" ∨ n = "list" ∨ n = "dict") := fun _ => by
          simp only [typeKnown, Bool.or_eq_true, beq_iff_eq] at hn
          rcases hn with ((((h | h) | h) | h) | h) | h <;> simp [h]
        have hn6 := tab ""
        clear tab
        unfold isiD at ei
        split at ei
        · obtain rfl := rep_int ra
          refine fin "int" (.base (.int _)) ?_
          rcases hn6 with rfl | rfl | rfl | rfl | rfl | rfl <;> (rw [← ei]; decide +kernel)
        · obtain rfl := rep_bl ra
          refine fin "bool" (.base (.bl _)) ?_
          rcases hn6 with rfl | rfl | rfl | rfl | rfl | rfl <;> (rw [← ei]; decide +kernel)
        · obtain rfl := rep_str ra
          refine fin "str" (.base (.str _)) ?_
          rcases hn6 with rfl | rfl | rfl | rfl | rfl | rfl <;> (rw [← ei]; decide +kernel)
        · obtain rfl := rep_non ra
          refine fin "NoneType" (.base .non) ?_
          rcases hn6 with rfl | rfl | rfl | rfl | rfl | rfl <;> (rw [← ei]; decide +kernel)
        · obtain ⟨a1, vs1, rfl, _, h1, l1⟩ := rep_tup sF ra
          have ht : TyX X.K H (.ref a1) (.type "tuple") := by
            rcases h1 with (h1 | ⟨o, h1⟩) | ⟨o, its, m, lk, hc, _⟩
            · exact .base (.tup h1)
            · exact .fTuple h1
            · exact .kTuple lk hc
          refine fin "tuple" ht ?_
          rcases hn6 with rfl | rfl | rfl | rfl | rfl | rfl <;> (rw [← ei]; decide +kernel)
        · obtain ⟨a1, vs1, g1, rfl, h1, l1⟩ := rep_lst sF ra
          refine fin "list" (.base (.lst h1)) ?_
          rcases hn6 with rfl | rfl | rfl | rfl | rfl | rfl <;> (rw [← ei]; decide +kernel)
        · cases ei
    · cases ea
  · cases ea
end Mi
end

section
set_option Elab.async false
set_option linter.all false
set_option maxRecDepth 100000
namespace Mi
open PySem PySem.Spec PyProof.Rows L2
variable {X : Cx}
/-- the sum of a tuple of ints -/
theorem tupleSum {prog : Program} {w : World} {A : Around} {E : Value → Shared → Prop} {s : Shared} {l : Addr} {its : List Value} {ns : List Int} {Q : Value → Shared → Prop} (hh : A.handled = none) (hT : s.heap.IsTuple l its.toArray) (hi : IntsAre its ns)
    (h : ∀ h' tk t', (∀ b o, s.heap.get? b = some o → h'.get? b = some o) → Q (.int ns.sum t') { s with heap := h', toks := tk }) : wpAny (model prog w) A (call (.builtin "sum") [.ref l]) Q E s := by
  obtain ⟨xs, e⟩ := hi.allInts.items
  have hn : numsOf (intItems xs).toList = ns := by rw [← e]; exact hi.numsOf
  rw [nums_intItems] at hn
  rw [e] at hT
  refine call_sum_walkG (wpAny_pyIter_tuple hT ?_)
  have hlt : l < s.heap.objs.size := by obtain ⟨o, ho, _⟩ := hT; exact Heap.lt_size ho
  refine ⟨_, [_, l], [_], _, _, _, numAt xs, rfl, Walks.tuple (A := A.in1) hh _ l (Nat.ne_of_lt hlt) (intItems xs), ⟨⟨_, Heap.get?_push_size _ rfl, rfl, rfl⟩, hT.push _⟩, fun c hc => ?_, fun i v hv => intItems_at hv, fun h' tk t' hk => ?_⟩
  · show c < (s.heap.push _).objs.size
    rw [Heap.size_push]
    rcases List.mem_cons.mp hc with rfl | hc
    · exact Nat.lt_succ_self _
    · rcases List.mem_cons.mp hc with rfl | hc
      · exact Nat.lt_succ_of_lt hlt
      · cases hc
  · have q := h h' tk t' fun b o e => hk b o (fun hm => by
      rcases List.mem_cons.mp hm with e1 | hm
      · have := Heap.lt_size e; rw [e1] at this; exact Nat.lt_irrefl _ this
      · cases hm) (Heap.get?_push_of_some _ e)
    have hsz : (intItems xs).size = xs.size := by simp [intItems]
    rw [hsz, preSum_eq, List.take_of_length_le (by simp), hn]
    exact q
theorem ints_of_vals : ∀ {is : List Int} {us : List Value}, Vals (is.map V.int) us → IntsAre us is := fun r => r.ints
theorem cb_sum (hc : X.calm = true) : CallR X (.builtin "sum") (rPr X.K .sum) := by
  refine cb_one (g := sumD) (fun _ => rfl) rfl (fun _ _ _ => rfl) fun pins s σ H x u Q F a d I rx sF ⟨fp, ra⟩ e q => ?_
  unfold sumD at e
  cases es : seqOf a with
  | none => rw [es] at e; cases e
  | some xs =>
    rw [es] at e
    have e : (intsOf xs).map (fun is => D.int is.sum) = some d := e
    cases ei : intsOf xs with
    | none => rw [ei] at e; cases e
    | some is =>
      rw [ei] at e
      cases e
      obtain ⟨a1, vs1, f, rfl, h1, l1⟩ := rep_seq sF es ra
      have ev := intsOf_map ei l1
      subst ev
      rcases h1 with h1 | h1
      · exact cr_sum hc pins s σ H _ _ Q I (vcons rx) ⟨a1, is, rfl, h1, q _ _ _ _ (res_int sF _)⟩
      · obtain ⟨its, rv, hT, hz⟩ := I.tuple h1
        cases rx
        obtain ⟨o, ho, hcl, n, hd⟩ := hT
        exact tupleSum (I.ok.hd hc) ⟨o, ho, hcl, n, hd⟩ (ints_of_vals rv) fun h' tk t' hk => ⟨.int _, H, I.kept hk, ⟨_, rfl⟩, q _ _ _ _ (res_int sF _)⟩
end Mi
end

section
set_option Elab.async false
set_option linter.all false
set_option maxRecDepth 100000
/-! The state of a body: its slots, its values in flight, what they hold. -/
namespace Mi
open PySem PySem.Spec PyProof.Rows L2

inductive Tm where
  | own (d : D) (fp : List Addr) | ref (i : Nat)
def Tm.fp : Tm → List Addr
  | .own _ fp => fp
  | .ref _ => []
/-- the heap at a def's entry: what stays, all, what the arguments hold -/
structure Bs where
  F0 : Hp
  H0 : Hp
  fp0 : List Addr
/-- what is held: all addresses, no one twice, apart from what stays -/
structure OwnOk (B : Bs) (F H : Hp) (all : List Addr) : Prop where
  sub : Same F H
  base : Same B.F0 F
  frame : ∀ b o, B.H0 b = some o → b ∉ B.fp0 → H b = some o
  ownB : ∀ a ∈ all, a ∈ B.fp0 ∨ B.H0 a = none
  frzB : ∀ b o, F b = some o → B.F0 b = some o ∨ b ∈ B.fp0 ∨ B.H0 b = none
  nodup : all.Nodup
  disj : ∀ a ∈ all, F a = none
  live : ∀ a ∈ all, ∃ xs, H a = some (.lst xs)
def SubP (l m : List Addr) : Prop := ∃ r, (l ++ r).Perm m
theorem SubP.refl (l : List Addr) : SubP l l := ⟨[], by simp⟩
theorem SubP.trans {l m n : List Addr} (h : SubP l m) (k : SubP m n) : SubP l n := by
  obtain ⟨r, h⟩ := h
  obtain ⟨q, k⟩ := k
  exact ⟨r ++ q, by rw [← List.append_assoc]; exact (h.append_right q).trans k⟩
theorem SubP.mem {l m : List Addr} (h : SubP l m) {a : Addr} (ha : a ∈ l) : a ∈ m := by
  obtain ⟨r, h⟩ := h
  exact h.mem_iff.mp (List.mem_append_left r ha)
theorem SubP.of_perm {l m : List Addr} (h : l.Perm m) : SubP l m := ⟨[], by simpa using h⟩
theorem SubP.right (l m : List Addr) : SubP m (l ++ m) := ⟨l, List.perm_append_comm⟩
theorem SubP.left (l m : List Addr) : SubP l (l ++ m) := ⟨m, .refl _⟩
theorem SubP.app {l m : List Addr} (h : SubP l m) (k : List Addr) : SubP (k ++ l) (k ++ m) := by
  obtain ⟨r, h⟩ := h
  exact ⟨r, by rw [List.append_assoc]; exact h.append_left k⟩
theorem SubP.app2 {l m : List Addr} (h : SubP l m) (k : List Addr) : SubP (l ++ k) (m ++ k) := by
  obtain ⟨r, h⟩ := h
  refine ⟨r, ?_⟩
  exact ((List.perm_append_comm (l₁ := l ++ k) (l₂ := r)).trans (by rw [← List.append_assoc]; exact (List.perm_append_comm.append_right k))).trans (h.append_right k)
theorem SubP.nodup {l m : List Addr} (h : SubP l m) (n : m.Nodup) : l.Nodup := by
  obtain ⟨r, h⟩ := h
  exact (List.nodup_append.mp (h.nodup_iff.mpr n)).1
variable {K : PySem.W.Frag} {B : Bs} {F F' H H' : Hp} {all fp : List Addr}
theorem OwnOk.less (o : OwnOk B F H all) {l : List Addr} (h : SubP l all) : OwnOk B F H l :=
  ⟨o.sub, o.base, o.frame, fun a ha => o.ownB a (h.mem ha), o.frzB, h.nodup o.nodup, fun a ha => o.disj a (h.mem ha), fun a ha => o.live a (h.mem ha)⟩
theorem nodup_app {l m : List Addr} (h1 : l.Nodup) (h2 : m.Nodup) (h : ∀ a ∈ l, a ∉ m) : (l ++ m).Nodup :=
  List.nodup_append.mpr ⟨h1, h2, fun a ha b hb e => h a ha (e ▸ hb)⟩
theorem apart {l m : List Addr} (h : (l ++ m).Nodup) {a : Addr} (h1 : a ∈ l) (h2 : a ∈ m) : False :=
  (List.nodup_append.mp h).2.2 a h1 a h2 rfl
theorem OwnOk.grow (o : OwnOk B F H all) (hF : Same F F') (hH : Same H H') (hs : Same F' H') (nw : ∀ a ∈ fp, H a = none ∧ F' a = none) (nd : fp.Nodup) (fr : ∀ b u, F' b = some u → F b = some u ∨ H b = none)
    (lv : ∀ a ∈ fp, ∃ xs, H' a = some (.lst xs)) : OwnOk B F' H' (fp ++ all) where
  sub := hs
  base := Same.trans o.base hF
  frame := fun b u e n => hH _ _ (o.frame b u e n)
  ownB := fun a ha => by
    rcases List.mem_append.mp ha with h | h
    · by_cases hb : a ∈ B.fp0
      · exact .inl hb
      · right
        cases q : B.H0 a with
        | none => rfl
        | some u =>
          have := o.frame a u q hb
          rw [(nw a h).1] at this
          cases this
    · exact o.ownB a h
  frzB := fun b u e => by
    rcases fr b u e with h | h
    · exact o.frzB b u h
    · by_cases hb : b ∈ B.fp0
      · exact .inr (.inl hb)
      · right; right
        cases q : B.H0 b with
        | none => rfl
        | some u' =>
          have := o.frame b u' q hb
          rw [h] at this
          cases this
  nodup := nodup_app nd o.nodup fun a h1 h2 => by
    obtain ⟨xs, e⟩ := o.live a h2
    rw [(nw a h1).1] at e
    cases e
  disj := fun a ha => by
    rcases List.mem_append.mp ha with h | h
    · exact (nw a h).2
    · cases q : F' a with
      | none => rfl
      | some u =>
        rcases fr a u q with z | z
        · rw [o.disj a h] at z; cases z
        · obtain ⟨xs, e⟩ := o.live a h
          rw [z] at e; cases e
  live := fun a ha => by
    rcases List.mem_append.mp ha with h | h
    · exact lv a h
    · obtain ⟨xs, e⟩ := o.live a h
      exact ⟨xs, hH _ _ e⟩
theorem OwnOk.prim {d : D} {v : V} (o : OwnOk B F H all) (p : PrimRes K F H F' H' d v fp) : OwnOk B F' H' (fp ++ all) :=
  o.grow p.fF p.hH p.sub p.nw p.nd p.fr (Rep.lists d v fp p.rep)
/-- a tuple is made -/
theorem OwnOk.tuple (o : OwnOk B F H all) {p : Addr} (hp : H p = none) (vs : List V) : OwnOk B (upd F p (.tup vs)) (upd H p (.tup vs)) all := by
  have e := Same.none o.sub hp
  have := o.grow (F' := upd F p (.tup vs)) (H' := upd H p (.tup vs)) (fp := []) (same_upd e) (same_upd hp) (fun b u z => by
    by_cases q : b = p
    · subst q; rw [upd_same] at z ⊢; exact z
    · rw [upd_ne q] at z ⊢; exact o.sub b u z) (fun _ h => nomatch h) .nil (fun b u z => by
    by_cases q : b = p
    · subst q; exact .inr hp
    · rw [upd_ne q] at z; exact .inl z) (fun _ h => nomatch h)
  simpa using this
theorem OwnOk.list (o : OwnOk B F H all) {p : Addr} (hp : H p = none) (vs : List V) : OwnOk B F (upd H p (.lst vs)) (p :: all) := by
  have e := Same.none o.sub hp
  have := o.grow (F' := F) (H' := upd H p (.lst vs)) (fp := [p]) (Same.refl _) (same_upd hp) (Same.trans o.sub (same_upd hp)) (fun a h => by
    have z : a = p := by simpa using h
    subst z; exact ⟨hp, e⟩) (by simp) (fun b u z => .inl z) (fun a h => by
    have z : a = p := by simpa using h
    subst z; exact ⟨vs, upd_same⟩)
  simpa using this
/-- what is held at fp becomes a thing that stays -/
def frzF (F H : Hp) (fp : List Addr) : Hp := fun b => if b ∈ fp then H b else F b
theorem frzF_same (o : OwnOk B F H (fp ++ all)) : Same F (frzF F H fp) := fun b u e => by
  unfold frzF
  split
  · exact o.sub b u e
  · exact e
theorem frzF_at {a : Addr} (h : a ∈ fp) : frzF F H fp a = H a := by unfold frzF; rw [if_pos h]
theorem OwnOk.freeze (o : OwnOk B F H (fp ++ all)) : OwnOk B (frzF F H fp) H all where
  sub := fun b u e => by
    unfold frzF at e
    split at e
    · exact e
    · exact o.sub b u e
  base := Same.trans o.base (frzF_same o)
  frame := o.frame
  ownB := fun a ha => o.ownB a (List.mem_append_right _ ha)
  frzB := fun b u e => by
    unfold frzF at e
    split at e
    · rename_i hb
      rcases o.ownB b (List.mem_append_left _ hb) with h | h
      · exact .inr (.inl h)
      · exact .inr (.inr h)
    · exact o.frzB b u e
  nodup := (SubP.right fp all).nodup o.nodup
  disj := fun a ha => by
    unfold frzF
    rw [if_neg fun h => apart o.nodup h ha]
    exact o.disj a (List.mem_append_right _ ha)
  live := fun a ha => o.live a (List.mem_append_right _ ha)
theorem OwnOk.write (o : OwnOk B F H all) {a : Addr} (ha : a ∈ all) (xs : List V) : OwnOk B F (upd H a (.lst xs)) all where
  sub := fun b u e => by
    have : b ≠ a := fun z => by subst z; rw [o.disj b ha] at e; cases e
    rw [upd_ne this]
    exact o.sub b u e
  base := o.base
  frame := fun b u e n => by
    have : b ≠ a := fun z => by
      subst z
      rcases o.ownB b ha with h | h
      · exact n h
      · rw [h] at e; cases e
    rw [upd_ne this]
    exact o.frame b u e n
  ownB := o.ownB
  frzB := o.frzB
  nodup := o.nodup
  disj := o.disj
  live := fun b hb => by
    by_cases e : b = a
    · subst e; exact ⟨xs, upd_same⟩
    · rw [upd_ne e]; exact o.live b hb

/-! ### slots and values in flight -/
def tfp : List (V × Tm) → List Addr
  | [] => []
  | t :: ts => t.2.fp ++ tfp ts
theorem tfp_app : ∀ a b : List (V × Tm), tfp (a ++ b) = tfp a ++ tfp b
  | [], b => rfl
  | t :: a, b => by simp only [List.cons_append, tfp]; rw [tfp_app a b, List.append_assoc]
def TmOk (K : PySem.W.Frag) (F H : Hp) (σ : L2.St) (t : V × Tm) : Prop := match t.2 with
  | .own d fp => Rep K F H d t.1 fp
  | .ref i => σ[i]? = some (some t.1)
structure Sta (K : PySem.W.Frag) (B : Bs) (lk : List (Nat × V)) (F H : Hp) (σ : L2.St) (ρ : Env) (fps : List (List Addr)) (ts : List (V × Tm)) : Prop where
  own : OwnOk B F H (tfp ts ++ fps.flatten)
  len : σ.length = ρ.length
  lenF : fps.length = ρ.length
  slots : ∀ i d, getE ρ i = some d → ∃ v, σ[i]? = some (some v) ∧ Rep K F H d v (fps.getD i [])
  temps : ∀ t ∈ ts, TmOk K F H σ t
  locks : ∀ p ∈ lk, σ[p.1]? = some (some p.2)
variable {lk : List (Nat × V)} {σ : L2.St} {ρ : Env} {fps : List (List Addr)} {ts : List (V × Tm)}

theorem getE_lt {i : Nat} {d : D} (h : getE ρ i = some d) : i < ρ.length := by
  unfold getE at h
  split at h
  · rename_i o e
    exact (List.getElem?_eq_some_iff.mp e).1
  · cases h
theorem getE_set_same {i : Nat} {x : Option D} (h : i < ρ.length) : getE (ρ.set i x) i = x := by
  unfold getE
  rw [List.getElem?_set_self h]
theorem getE_set_ne {i j : Nat} {x : Option D} (h : i ≠ j) : getE (ρ.set i x) j = getE ρ j := by
  unfold getE
  rw [List.getElem?_set_ne h]
theorem flat_split : ∀ (fps : List (List Addr)) (i : Nat), i < fps.length → fps.flatten.Perm (fps.getD i [] ++ (fps.set i []).flatten)
  | [], i, h => by simp at h
  | f :: r, 0, _ => by simp
  | f :: r, i + 1, h => by
    simp only [List.flatten_cons, List.getD_cons_succ, List.set_cons_succ]
    have := flat_split r i (by simpa using h)
    refine (this.append_left f).trans ?_
    rw [← List.append_assoc, ← List.append_assoc]
    exact List.perm_append_comm.append_right _
theorem flat_set (fps : List (List Addr)) (i : Nat) (x : List Addr) (h : i < fps.length) : (fps.set i x).flatten.Perm (x ++ (fps.set i []).flatten) := by
  have := flat_split (fps.set i x) i (by simpa using h)
  simpa [List.getD, h] using this
theorem getD_set_ne {fps : List (List Addr)} {i j : Nat} {x : List Addr} (h : i ≠ j) : (fps.set i x).getD j [] = fps.getD j [] := by
  simp [List.getD, List.getElem?_set_ne h]
theorem getD_set_same {fps : List (List Addr)} {i : Nat} {x : List Addr} (h : i < fps.length) : (fps.set i x).getD i [] = x := by
  simp [List.getD, h]
theorem getD_mem {fps : List (List Addr)} {i : Nat} {a : Addr} (h : a ∈ fps.getD i []) : a ∈ fps.flatten := by
  rw [List.getD_eq_getElem?_getD] at h
  cases e : fps[i]? with
  | none => rw [e] at h; simp at h
  | some f =>
    rw [e] at h
    exact List.mem_flatten.mpr ⟨f, List.mem_of_getElem? e, h⟩
theorem tfp_mem : ∀ {ts : List (V × Tm)} {t : V × Tm} {a : Addr}, t ∈ ts → a ∈ t.2.fp → a ∈ tfp ts
  | [], _, _, h, _ => nomatch h
  | u :: ts, t, a, h, ha => by
    simp only [tfp]
    rcases List.mem_cons.mp h with rfl | h
    · exact List.mem_append_left _ ha
    · exact List.mem_append_right _ (tfp_mem h ha)
/-- where nothing held is changed -/
theorem TmOk.mono {t : V × Tm} (hF : Same F F') (hH : ∀ a ∈ t.2.fp, H' a = H a) (h : TmOk K F H σ t) : TmOk K F' H' σ t := by
  unfold TmOk at h ⊢
  cases e : t.2 with
  | own d fp => rw [e] at h hH; exact Rep.mono hF _ _ _ hH h
  | ref i => rw [e] at h; exact h
theorem Sta.mono {all : List Addr} (S : Sta K B lk F H σ ρ fps ts) (hF : Same F F') (hH : ∀ a ∈ tfp ts ++ fps.flatten, H' a = H a) (o : OwnOk B F' H' (tfp ts ++ fps.flatten)) : Sta K B lk F' H' σ ρ fps ts :=
  ⟨o, S.len, S.lenF, fun i d e => by
    obtain ⟨v, e1, r⟩ := S.slots i d e
    exact ⟨v, e1, Rep.mono hF _ _ _ (fun a ha => hH a (List.mem_append_right _ (getD_mem ha))) r⟩,
    fun t ht => TmOk.mono hF (h := S.temps t ht) fun a ha => hH a (List.mem_append_left _ (tfp_mem ht ha)), S.locks⟩
theorem live_keep {a : Addr} (o : OwnOk B F H all) (hH : Same H H') (ha : a ∈ all) : H' a = H a := by
  obtain ⟨xs, e⟩ := o.live a ha
  rw [e, hH _ _ e]
theorem Sta.push {d : D} {v : V} (S : Sta K B lk F H σ ρ fps ts) (p : PrimRes K F H F' H' d v fp) : Sta K B lk F' H' σ ρ fps ((v, .own d fp) :: ts) := by
  have o := S.own.prim p
  have S' := Sta.mono (all := []) S p.fF (fun a ha => live_keep S.own p.hH ha) (o.less (SubP.right _ _))
  refine ⟨?_, S'.len, S'.lenF, S'.slots, fun t ht => ?_, S'.locks⟩
  · simp only [tfp, Tm.fp]
    rw [List.append_assoc]
    exact o
  · rcases List.mem_cons.mp ht with rfl | ht
    · exact p.rep
    · exact S'.temps t ht
theorem Sta.drop {t : V × Tm} (S : Sta K B lk F H σ ρ fps (t :: ts)) : Sta K B lk F H σ ρ fps ts :=
  ⟨S.own.less (by simp only [tfp]; rw [List.append_assoc]; exact SubP.right _ _), S.len, S.lenF, S.slots, fun u hu => S.temps u (List.mem_cons_of_mem _ hu), S.locks⟩
theorem Sta.drops {us : List (V × Tm)} (S : Sta K B lk F H σ ρ fps (us ++ ts)) : Sta K B lk F H σ ρ fps ts := by
  induction us with
  | nil => exact S
  | cons u us ih => exact ih S.drop
theorem Sta.pushS {d : D} {v : V} (S : Sta K B lk F H σ ρ fps ts) (h : Rep K F H d v []) : Sta K B lk F H σ ρ fps ((v, .own d []) :: ts) := S.push (.here S.own.sub h)
theorem Sta.pushRef {i : Nat} {v : V} (S : Sta K B lk F H σ ρ fps ts) (h : σ[i]? = some (some v)) : Sta K B lk F H σ ρ fps ((v, .ref i) :: ts) := by
  refine ⟨?_, S.len, S.lenF, S.slots, fun t ht => ?_, S.locks⟩
  · simp only [tfp, Tm.fp, List.nil_append]; exact S.own
  · rcases List.mem_cons.mp ht with rfl | ht
    · exact h
    · exact S.temps t ht
theorem Sta.pushOwn {d : D} {v : V} {fp : List Addr} (S : Sta K B lk F H σ ρ fps ts) (o : OwnOk B F H (fp ++ (tfp ts ++ fps.flatten))) (h : Rep K F H d v fp) : Sta K B lk F H σ ρ fps ((v, .own d fp) :: ts) := by
  refine ⟨?_, S.len, S.lenF, S.slots, fun t ht => ?_, S.locks⟩
  · simp only [tfp, Tm.fp]; rw [List.append_assoc]; exact o
  · rcases List.mem_cons.mp ht with rfl | ht
    · exact h
    · exact S.temps t ht
/-- all that is held, the i-th slot's first -/
theorem Sta.split {i : Nat} (S : Sta K B lk F H σ ρ fps ts) (h : i < ρ.length) : (tfp ts ++ fps.flatten).Perm (fps.getD i [] ++ (tfp ts ++ (fps.set i []).flatten)) := by
  refine ((flat_split fps i (by rw [S.lenF]; exact h)).append_left (tfp ts)).trans ?_
  rw [← List.append_assoc, ← List.append_assoc]
  exact List.perm_append_comm.append_right _
theorem OwnOk.perm {l : List Addr} (o : OwnOk B F H all) (h : l.Perm all) : OwnOk B F H l := o.less (.of_perm h)
/-- a slot is emptied -/
theorem Sta.clear {i : Nat} (S : Sta K B lk F H σ ρ fps ts) (h : i < ρ.length) : Sta K B lk F H σ (ρ.set i none) (fps.set i []) ts := by
  refine ⟨(S.own.perm (S.split h).symm).less (SubP.right _ _), by simp [S.len], by simp [S.lenF], fun j d e => ?_, S.temps, S.locks⟩
  by_cases hj : i = j
  · subst hj
    rw [getE_set_same h] at e
    cases e
  · rw [getE_set_ne hj] at e
    rw [getD_set_ne hj]
    exact S.slots j d e
theorem Sta.move {i : Nat} {d : D} (S : Sta K B lk F H σ ρ fps ts) (e : getE ρ i = some d) : ∃ v, σ[i]? = some (some v) ∧ Sta K B lk F H σ (ρ.set i none) (fps.set i []) ((v, .own d (fps.getD i [])) :: ts) := by
  obtain ⟨v, e1, r⟩ := S.slots i d e
  have hl := getE_lt e
  exact ⟨v, e1, (S.clear hl).pushOwn (S.own.perm (S.split hl).symm) r⟩
/-- a name's value is frozen -/
theorem Sta.freeze {i : Nat} {d : D} (S : Sta K B lk F H σ ρ fps ts) (e : getE ρ i = some d) : ∃ v F', σ[i]? = some (some v) ∧ Same F F' ∧ Rep K F' H d.frz v [] ∧ Sta K B lk F' H σ (ρ.set i (some d.frz)) (fps.set i []) ts := by
  obtain ⟨v, e1, r⟩ := S.slots i d e
  have hl := getE_lt e
  have o := S.own.perm (S.split hl).symm
  have r' : Rep K (frzF F H (fps.getD i [])) H d.frz v [] := Rep.frz (frzF_same o) _ _ _ (fun a ha => frzF_at ha) r
  have C := Sta.mono (all := []) (S.clear hl) (frzF_same o) (fun _ _ => rfl) o.freeze
  refine ⟨v, _, e1, frzF_same o, r', C.own, by simp [S.len], by simp [S.lenF], fun j d' e' => ?_, C.temps, C.locks⟩
  by_cases hj : i = j
  · subst hj
    rw [getE_set_same hl] at e'
    cases e'
    rw [getD_set_same (by rw [S.lenF]; exact hl)]
    exact ⟨v, e1, r'⟩
  · have := C.slots j d' (by rw [getE_set_ne hj]; rw [getE_set_ne hj] at e'; exact e')
    exact this
/-- a value in flight is frozen -/
theorem Sta.freezeT {d : D} {v : V} {fp : List Addr} (S : Sta K B lk F H σ ρ fps ((v, .own d fp) :: ts)) : ∃ F', Same F F' ∧ Rep K F' H d.frz v [] ∧ Sta K B lk F' H σ ρ fps ts := by
  have o : OwnOk B F H (fp ++ (tfp ts ++ fps.flatten)) := by
    have := S.own
    simp only [tfp, Tm.fp] at this
    rw [List.append_assoc] at this
    exact this
  have r : Rep K F H d v fp := S.temps _ (List.mem_cons_self ..)
  exact ⟨_, frzF_same o, Rep.frz (frzF_same o) _ _ _ (fun a ha => frzF_at ha) r, Sta.mono (all := []) S.drop (frzF_same o) (fun _ _ => rfl) o.freeze⟩
/-- a value goes into a slot -/
theorem Sta.store {i : Nat} {d : D} {v : V} {fp : List Addr} (S : Sta K B lk F H σ ρ fps ((v, .own d fp) :: ts)) (hi : i < ρ.length) (hk : ∀ p ∈ lk, p.1 ≠ i) (ht : ∀ t ∈ ts, t.2 ≠ .ref i) :
    Sta K B lk F H (σ.set i (some v)) (ρ.set i (some d)) (fps.set i fp) ts := by
  have hf : i < fps.length := by rw [S.lenF]; exact hi
  have r : Rep K F H d v fp := S.temps _ (List.mem_cons_self ..)
  refine ⟨?_, by simp [S.len], by simp [S.lenF], fun j d' e => ?_, fun t h => ?_, fun p hp => ?_⟩
  · refine S.own.less ?_
    simp only [tfp, Tm.fp]
    rw [List.append_assoc]
    have h1 : (tfp ts ++ (fps.set i fp).flatten).Perm (fp ++ (tfp ts ++ (fps.set i []).flatten)) := by
      refine ((flat_set fps i fp hf).append_left (tfp ts)).trans ?_
      rw [← List.append_assoc, ← List.append_assoc]
      exact List.perm_append_comm.append_right _
    have h2 : SubP (fps.set i []).flatten fps.flatten := SubP.trans (SubP.right (fps.getD i []) _) (.of_perm (flat_split fps i hf).symm)
    exact SubP.trans (.of_perm h1) (SubP.app (SubP.app h2 (tfp ts)) fp)
  · by_cases hj : i = j
    · subst hj
      rw [getE_set_same hi] at e
      cases e
      rw [getD_set_same hf, List.getElem?_set_self (by rw [S.len]; exact hi)]
      exact ⟨v, rfl, r⟩
    · rw [getE_set_ne hj] at e
      rw [getD_set_ne hj, List.getElem?_set_ne hj]
      exact S.slots j d' e
  · have q := S.temps t (List.mem_cons_of_mem _ h)
    have ne := ht t h
    unfold TmOk at q ⊢
    cases e : t.2 with
    | own d fp => rw [e] at q; exact q
    | ref j =>
      rw [e] at q ne
      show (σ.set i (some v))[j]? = some (some t.1)
      rw [List.getElem?_set_ne (fun z => ne (by rw [z]))]
      exact q
  · rw [List.getElem?_set_ne (fun z => hk p hp z.symm)]
    exact S.locks p hp
/-- a held list's items are changed; what the new ones hold is what the old ones and a value in flight held -/
theorem Sta.write {i : Nat} {o : Bool} {ds ds' : List D} {a : Addr} {vs vs' : List V} {f f' g : List Addr} {v : V} {e : D} (S : Sta K B lk F H σ ρ fps ((v, .own e g) :: ts)) (hd : getE ρ i = some (.lst true ds)) (hv : σ[i]? = some (some (.ref a))) (ha : H a = some (.lst vs))
    (hp : fps.getD i [] = a :: f) (hr : ∀ H', (∀ b ∈ f ++ g, H' b = H b) → RepL K F H' ds' vs' f') (hf : SubP f' (f ++ g)) :
    Sta K B lk F (upd H a (.lst vs')) σ (ρ.set i (some (.lst true ds'))) (fps.set i (a :: f')) ts := by
  have hl := getE_lt hd
  have hfl : i < fps.length := by rw [S.lenF]; exact hl
  have hperm : (tfp ((v, .own e g) :: ts) ++ fps.flatten).Perm (a :: ((f ++ g) ++ (tfp ts ++ (fps.set i []).flatten))) := by
    simp only [tfp, Tm.fp]
    rw [List.append_assoc]
    refine ((S.drop.split hl).append_left g).trans ?_
    rw [hp]
    refine (List.perm_append_comm (l₁ := g) (l₂ := (a :: f) ++ (tfp ts ++ (fps.set i []).flatten))).trans ?_
    simp only [List.cons_append, List.append_assoc]
    refine List.Perm.cons a ?_
    refine List.Perm.append_left f ?_
    rw [← List.append_assoc]
    exact List.perm_append_comm
  have o0 := S.own.perm hperm.symm
  have o1 := o0.write (a := a) (List.mem_cons_self ..) vs'
  have hn : a ∉ (f ++ g) ++ (tfp ts ++ (fps.set i []).flatten) := (List.nodup_cons.mp o0.nodup).1
  have keepH : ∀ b ∈ (f ++ g) ++ (tfp ts ++ (fps.set i []).flatten), upd H a (.lst vs') b = H b := fun b hb => upd_ne fun z => hn (z ▸ hb)
  refine ⟨?_, by simp [S.len], by simp [S.lenF], fun j d e => ?_, fun t ht => ?_, S.locks⟩
  · refine o1.less (SubP.trans (m := a :: (f' ++ (tfp ts ++ (fps.set i []).flatten))) (.of_perm (((flat_set fps i (a :: f') hfl).append_left (tfp ts)).trans ?_)) ?_)
    · simp only [List.cons_append]
      refine (List.perm_middle).trans (List.Perm.cons a ?_)
      rw [← List.append_assoc, ← List.append_assoc]
      exact List.perm_append_comm.append_right _
    · have := SubP.app (SubP.app2 hf (tfp ts ++ (fps.set i []).flatten)) [a]
      simpa using this
  · by_cases hj : i = j
    · subst hj
      rw [getE_set_same hl] at e
      cases e
      rw [getD_set_same hfl]
      refine ⟨.ref a, hv, ?_⟩
      simp only [Rep]
      exact ⟨a, vs', f', rfl, upd_same, hr _ fun b hb => keepH b (List.mem_append_left _ hb), rfl⟩
    · rw [getE_set_ne hj] at e
      rw [getD_set_ne hj]
      obtain ⟨w, e1, r⟩ := S.slots j d e
      refine ⟨w, e1, Rep.mono (Same.refl _) _ _ _ (fun b hb => keepH b (List.mem_append_right _ (List.mem_append_right _ ?_))) r⟩
      rw [← getD_set_ne (i := i) (x := []) hj] at hb
      exact getD_mem hb
  · exact TmOk.mono (Same.refl _) (h := S.temps t (List.mem_cons_of_mem _ ht)) fun b hb => keepH b (List.mem_append_right _ (List.mem_append_left _ (tfp_mem ht hb)))
end Mi
end

section
set_option Elab.async false
set_option linter.all false
set_option maxRecDepth 100000
/-! What the small language computes, as readings. -/
namespace Mi
open PySem PySem.Spec PyProof.Rows L2

/-- x: what is wanted of an exception -/
def Out {α : Type} (x : Nat → D → Env → Prop) (r : R α) (k : α → Env → Prop) : Prop := match r with
  | .ok a ρ => k a ρ
  | .exc c d ρ => x c d ρ
  | .stk => False
theorem out_bind {α β : Type} {x : Nat → D → Env → Prop} {r : R α} {f : α → Env → R β} {k : β → Env → Prop} : Out x (r.bind f) k ↔ Out x r fun a ρ => Out x (f a ρ) k := by
  cases r <;> exact Iff.rfl
theorem Out.imp {α : Type} {x : Nat → D → Env → Prop} {r : R α} {k k' : α → Env → Prop} (h : Out x r k) (hk : ∀ a ρ, k a ρ → k' a ρ) : Out x r k' := by
  cases r with
  | ok a ρ => exact hk _ _ h
  | exc _ _ _ => exact h
  | stk => exact h

theorem Out.imp' {α : Type} {x : Nat → D → Env → Prop} {r : R α} {k k' : α → Env → Prop} (h : Out x r k) (hk : ∀ a ρ, r = .ok a ρ → k a ρ → k' a ρ) : Out x r k' := by
  cases r with
  | ok a ρ => exact hk _ _ rfl h
  | exc _ _ _ => exact h
  | stk => exact h

/-- an exception of the class at c that bears d -/
def RepX (K : PySem.W.Frag) (F H : Hp) (c : Nat) (d : D) (cls : Value) (dx : Option Addr) : Prop := cls = .ref c ∧ ∃ a v, dx = some a ∧ F a = some (.xd [("value", v)]) ∧ Rep K F H d v []
/-- what is wanted of an exception that leaves the body -/
def XC (K : PySem.W.Frag) (E : XK) (B : Bs) (lk : List (Nat × V)) (σ : L2.St) (c : Nat) (d : D) (ρ : Env) : Prop := ∀ cls dx F H fps, Sta K B lk F H σ ρ fps [] → RepX K F H c d cls dx → E cls dx H
def noX : XK := fun _ _ _ => False

def OvIs : OV → Tm → Prop
  | .val d, t => ∃ fp, t = .own d fp
  | .ref i, t => t = .ref i
def OvsIs : List OV → List (V × Tm) → Prop
  | [], [] => True
  | o :: os, t :: ts => OvIs o t.2 ∧ OvsIs os ts
  | _, _ => False
theorem OvsIs.app : ∀ {os os' : List OV} {ts ts' : List (V × Tm)}, OvsIs os ts → OvsIs os' ts' → OvsIs (os ++ os') (ts ++ ts')
  | [], os', [], ts', _, h => h
  | o :: os, os', t :: ts, ts', h, h' => ⟨h.1, OvsIs.app h.2 h'⟩
  | [], _, _ :: _, _, h, _ => h.elim
  | _ :: _, _, [], _, h, _ => h.elim
theorem OvsIs.length : ∀ {os : List OV} {ts : List (V × Tm)}, OvsIs os ts → os.length = ts.length
  | [], [], _ => rfl
  | o :: os, t :: ts, h => by simp [OvsIs.length h.2]
  | [], _ :: _, h => h.elim
  | _ :: _, [], h => h.elim

/-- an expression's reading -/
def tI (K : PySem.W.Frag) (Φ : Fns) (E : XK) (ie : IE) : TE := fun σ H Q => ∃ B lk F ρ fps ts, Sta K B lk F H σ ρ fps ts ∧
  Out (XC K E B lk σ) (ev Φ ie ρ) fun d ρ' => ∀ v fp F' H' fps', Sta K B lk F' H' σ ρ' fps' ((v, .own d fp) :: ts) → Q v H'
/-- an operand's -/
def tO (K : PySem.W.Frag) (Φ : Fns) (E : XK) (ie : IE) : TE := fun σ H Q => ∃ B lk F ρ fps ts, Sta K B lk F H σ ρ fps ts ∧
  Out (XC K E B lk σ) (evs Φ [ie] ρ) fun os ρ' => ∃ o, os = [o] ∧ ∀ v tm F' H' fps', OvIs o tm → Sta K B lk F' H' σ ρ' fps' ((v, tm) :: ts) → Q v H'
/-- operands, from the left -/
def tOs (K : PySem.W.Frag) (Φ : Fns) (E : XK) (ies : List IE) : TA := fun σ H Q => ∃ B lk F ρ fps ts, Sta K B lk F H σ ρ fps ts ∧
  Out (XC K E B lk σ) (evs Φ ies ρ) fun os ρ' => ∀ tms F' H' fps', OvsIs os tms → Sta K B lk F' H' σ ρ' fps' (tms.reverse ++ ts) → Q (tms.map (·.1)) H'
/-- a test's -/
def tT (K : PySem.W.Frag) (Φ : Fns) (E : XK) (ie : IE) : TT := fun σ H Q => ∃ B lk F ρ fps ts, Sta K B lk F H σ ρ fps ts ∧
  Out (XC K E B lk σ) (ev Φ ie ρ) fun d ρ' => ∃ b, d = .bl b ∧ ∀ F' H' fps', Sta K B lk F' H' σ ρ' fps' ts → Q b H'

theorem PE.imp {X : Cx} {e : Expr} {t t' : TE} (h : PE X e t) (hi : ∀ σ H Q, t' σ H Q → t σ H Q) : PE X e t' := ⟨fun pins s σ H Q I q => h.run pins s σ H Q I (hi σ H Q q)⟩
theorem PT.imp {X : Cx} {e : Expr} {t t' : TT} (h : PT X e t) (hi : ∀ σ H Q, t' σ H Q → t σ H Q) : PT X e t' := ⟨fun pins s σ H Q I q => h.run pins s σ H Q I (hi σ H Q q)⟩
theorem PA.imp {X : Cx} {e : List Expr} {t t' : TA} (h : PA X e t) (hi : ∀ σ H Q, t' σ H Q → t σ H Q) : PA X e t' := ⟨fun pos pins s σ H Q I q => h.run pos pins s σ H Q I (hi σ H Q q)⟩

variable {K : PySem.W.Frag} {Φ : Fns} {E : XK} {B : Bs} {lk : List (Nat × V)} {F F' H H' : Hp} {σ : L2.St} {ρ : Env} {fps : List (List Addr)} {ts : List (V × Tm)} {Q : VK}
theorem tT_tI {ie : IE} {Q : Bool → Hp → Prop} (h : tT K Φ E ie σ H Q) : tI K Φ E ie σ H (fun x H' => ∃ k, x = .bl k ∧ Q k H') := by
  obtain ⟨B, lk, F, ρ, fps, ts, S, o⟩ := h
  refine ⟨B, lk, F, ρ, fps, ts, S, o.imp fun d ρ' h v fp F' H' fps' S' => ?_⟩
  obtain ⟨b, rfl, q⟩ := h
  have r : Rep K F' H' (.bl b) v fp := S'.temps _ (List.mem_cons_self ..)
  exact ⟨b, rep_bl r, q _ _ _ S'.drop⟩
/-- an operand in flight -/
theorem Sta.wrep {t : V × Tm} {o : OV} {d : D} (S : Sta K B lk F H σ ρ fps ts) (ht : t ∈ ts) (hi : OvIs o t.2) (e : o.get ρ = some d) : WRep K F H d t.1 := by
  have q := S.temps t ht
  unfold TmOk at q
  cases o with
  | val d0 =>
    obtain ⟨fp, e2⟩ := hi
    rw [e2] at q
    cases e
    exact ⟨fp, q⟩
  | ref i =>
    have e2 : t.2 = .ref i := hi
    rw [e2] at q
    obtain ⟨v, e1, r⟩ := S.slots i d e
    have q : σ[i]? = some (some t.1) := q
    rw [e1] at q
    cases q
    exact ⟨_, r⟩
theorem Sta.wreps : ∀ {tms : List (V × Tm)} {os : List OV} {ds : List D}, Sta K B lk F H σ ρ fps ts → (∀ t ∈ tms, t ∈ ts) → OvsIs os tms → getAll ρ os = some ds → WRepL K F H ds (tms.map (·.1))
  | [], [], ds, S, _, _, e => by simp only [getAll] at e; cases e; trivial
  | t :: tms, o :: os, ds, S, ht, hi, e => by
    simp only [getAll] at e
    cases e1 : o.get ρ with
    | none => rw [e1] at e; cases e
    | some d =>
      cases e2 : getAll ρ os with
      | none => rw [e1, e2] at e; cases e
      | some ds' =>
        rw [e1, e2] at e
        cases e
        exact ⟨S.wrep (ht t (List.mem_cons_self ..)) hi.1 e1, Sta.wreps S (fun u hu => ht u (List.mem_cons_of_mem _ hu)) hi.2 e2⟩
  | [], _ :: _, _, _, _, h, _ => h.elim
  | _ :: _, [], _, _, _, h, _ => h.elim
/-! ### operands in a row -/
def isStar : IE → Bool
  | .star _ => true
  | _ => false
theorem evs_cons (a : IE) (es : List IE) (ρ : Env) : evs Φ (a :: es) ρ = (evs Φ [a] ρ).bind fun o ρ1 => (evs Φ es ρ1).bind fun os ρ2 => .ok (o ++ os) ρ2 := by
  cases a with
  | peek i =>
    simp only [evs]
    cases getE ρ i <;> rfl
  | peekF i =>
    simp only [evs]
    cases getE ρ i <;> rfl
  | star e =>
    simp only [evs]
    cases ev Φ e ρ with
    | ok d ρ1 =>
      simp only [R.bind]
      cases seqOf d with
      | none => rfl
      | some ds =>
        simp only
        split
        · rfl
        · simp only [List.append_nil]
    | exc c d ρ1 => rfl
    | stk => rfl
  | _ =>
    simp only [evs]
    cases ev Φ _ ρ <;> rfl
theorem ovs_one {o : OV} {tms : List (V × Tm)} (h : OvsIs [o] tms) : ∃ v tm, tms = [(v, tm)] ∧ OvIs o tm := by
  match tms, h with
  | [(v, tm)], h => exact ⟨v, tm, rfl, h.1⟩
theorem t_cons {a : IE} {es : List IE} {Q : List V → Hp → Prop} (hs : ∀ os ρ ρ', evs Φ [a] ρ = .ok os ρ' → ∃ o, os = [o]) (h : tOs K Φ E (a :: es) σ H Q) : tCons (tO K Φ E a) (tOs K Φ E es) σ H Q := by
  obtain ⟨B, lk, F, ρ, fps, ts, S, o⟩ := h
  rw [evs_cons, out_bind] at o
  refine ⟨B, lk, F, ρ, fps, ts, S, ?_⟩
  cases e : evs Φ [a] ρ with
  | exc _ _ _ => rw [e] at o; exact o
  | stk => rw [e] at o; exact o
  | ok os1 ρ1 =>
    rw [e] at o
    obtain ⟨o1, rfl⟩ := hs _ _ _ e
    refine ⟨o1, rfl, fun v tm F' H' fps' hi S' => ?_⟩
    refine ⟨B, lk, F', ρ1, fps', (v, tm) :: ts, S', ?_⟩
    have o' : Out (XC K E B lk σ) ((evs Φ es ρ1).bind fun os ρ2 => .ok ([o1] ++ os) ρ2) _ := o
    rw [out_bind] at o'
    refine o'.imp fun os ρ2 q tms F'' H'' fps'' hi2 S'' => ?_
    exact q ((v, tm) :: tms) F'' H'' fps'' ⟨hi, hi2⟩ (by simpa using S'')
theorem t_nil {Q : List V → Hp → Prop} (h : tOs K Φ E [] σ H Q) : tNil σ H Q := by
  obtain ⟨B, lk, F, ρ, fps, ts, S, o⟩ := h
  exact o [] F H fps trivial S
/-- an operand that is a value -/
theorem t_val {ie : IE} (he : ∀ ρ, evs Φ [ie] ρ = (ev Φ ie ρ).bind fun d ρ1 => .ok [.val d] ρ1) (h : tO K Φ E ie σ H Q) : tI K Φ E ie σ H Q := by
  obtain ⟨B, lk, F, ρ, fps, ts, S, o⟩ := h
  rw [he, out_bind] at o
  refine ⟨B, lk, F, ρ, fps, ts, S, o.imp fun d ρ' q v fp F' H' fps' S' => ?_⟩
  obtain ⟨o1, e, q⟩ := q
  cases e
  exact q v (.own d fp) F' H' fps' ⟨fp, rfl⟩ S'
theorem t_peek {i : Nat} (h : tO K Φ E (.peek i) σ H Q) : tVar i σ H Q := by
  obtain ⟨B, lk, F, ρ, fps, ts, S, o⟩ := h
  simp only [evs] at o
  cases e : getE ρ i with
  | none => rw [e] at o; exact o.elim
  | some d =>
    rw [e] at o
    obtain ⟨o1, e1, q⟩ := o
    cases e1
    obtain ⟨v, ev, r⟩ := S.slots i d e
    exact ⟨v, ev, q v (.ref i) F H fps rfl (S.pushRef ev)⟩
theorem t_peekF {i : Nat} (h : tO K Φ E (.peekF i) σ H Q) : tVar i σ H Q := by
  obtain ⟨B, lk, F, ρ, fps, ts, S, o⟩ := h
  simp only [evs] at o
  cases e : getE ρ i with
  | none => rw [e] at o; exact o.elim
  | some d =>
    rw [e] at o
    obtain ⟨o1, e1, q⟩ := o
    cases e1
    obtain ⟨v, F', ev, sF, r, S'⟩ := S.freeze e
    exact ⟨v, ev, q v (.ref i) F' H _ rfl (S'.pushRef ev)⟩
theorem t_var {i : Nat} (h : tI K Φ E (.var i) σ H Q) : tVar i σ H Q := by
  obtain ⟨B, lk, F, ρ, fps, ts, S, o⟩ := h
  simp only [ev] at o
  cases e : getE ρ i with
  | none => rw [e] at o; exact o.elim
  | some d =>
    rw [e] at o
    simp only at o
    split at o
    · obtain ⟨v, F', ev, sF, r, S'⟩ := S.freeze e
      exact ⟨v, ev, o v [] F' H _ (S'.pushS r)⟩
    · rename_i ho
      obtain ⟨v, ev, r⟩ := S.slots i d e
      exact ⟨v, ev, o v [] F H fps (S.pushS (Rep.nil (by simpa using ho) r))⟩
theorem t_mov {i : Nat} (h : tI K Φ E (.mov i) σ H Q) : tVar i σ H Q := by
  obtain ⟨B, lk, F, ρ, fps, ts, S, o⟩ := h
  simp only [ev] at o
  cases e : getE ρ i with
  | none => rw [e] at o; exact o.elim
  | some d =>
    rw [e] at o
    obtain ⟨v, ev, S'⟩ := S.move e
    exact ⟨v, ev, o v _ F H _ S'⟩
theorem t_const {d : D} {v : V} (hr : ∀ F H, Rep K F H d v []) (h : tI K Φ E (.const d) σ H Q) : tC v σ H Q := by
  obtain ⟨B, lk, F, ρ, fps, ts, S, o⟩ := h
  exact o v [] F H fps (S.pushS (hr F H))
theorem t_glob {d : D} {v : V} (hr : ∀ F H, Rep K F H d v []) (h : tI K Φ E (.glob d) σ H Q) : tC v σ H Q := by
  obtain ⟨B, lk, F, ρ, fps, ts, S, o⟩ := h
  exact o v [] F H fps (S.pushS (hr F H))
/-- two operands, then what is wanted of them -/
theorem t_two {a b : IE} {k : Bs → List (Nat × V) → List (V × Tm) → List OV → Env → Prop} {R2 : V → V → Hp → Prop} (ha : ∀ os ρ ρ', evs Φ [a] ρ = .ok os ρ' → ∃ o, os = [o]) (hb : ∀ os ρ ρ', evs Φ [b] ρ = .ok os ρ' → ∃ o, os = [o])
    (h : ∃ B lk F ρ fps ts, Sta K B lk F H σ ρ fps ts ∧ Out (XC K E B lk σ) (evs Φ [a, b] ρ) fun os ρ' => k B lk ts os ρ')
    (hk : ∀ B lk ts o1 o2 ρ' x y t1 t2 F' H' fps', k B lk ts [o1, o2] ρ' → OvIs o1 t1 → OvIs o2 t2 → Sta K B lk F' H' σ ρ' fps' ((y, t2) :: (x, t1) :: ts) → R2 x y H') :
    tO K Φ E a σ H fun x H1 => tO K Φ E b σ H1 fun y H2 => R2 x y H2 := by
  obtain ⟨B, lk, F, ρ, fps, ts, S, o⟩ := h
  rw [evs_cons, out_bind] at o
  refine ⟨B, lk, F, ρ, fps, ts, S, ?_⟩
  cases e : evs Φ [a] ρ with
  | exc _ _ _ => rw [e] at o; exact o
  | stk => rw [e] at o; exact o
  | ok os1 ρ1 =>
    rw [e] at o
    obtain ⟨o1, rfl⟩ := ha _ _ _ e
    refine ⟨o1, rfl, fun v tm F' H' fps' hi S' => ?_⟩
    have o : Out (XC K E B lk σ) ((evs Φ [b] ρ1).bind fun os ρ2 => .ok ([o1] ++ os) ρ2) (k B lk ts) := o
    rw [out_bind] at o
    refine ⟨B, lk, F', ρ1, fps', (v, tm) :: ts, S', ?_⟩
    cases e2 : evs Φ [b] ρ1 with
    | exc _ _ _ => rw [e2] at o; exact o
    | stk => rw [e2] at o; exact o
    | ok os2 ρ2 =>
      rw [e2] at o
      obtain ⟨o2, rfl⟩ := hb _ _ _ e2
      exact ⟨o2, rfl, fun v2 tm2 F2 H2 fps2 hi2 S2 => hk B lk ts o1 o2 ρ2 v v2 tm tm2 F2 H2 fps2 o hi hi2 S2⟩
theorem getAll2 {o1 o2 : OV} {ds : List D} (h : getAll ρ [o1, o2] = some ds) : ∃ a b, ds = [a, b] ∧ o1.get ρ = some a ∧ o2.get ρ = some b := by
  simp only [getAll] at h
  cases e1 : o1.get ρ with
  | none => rw [e1] at h; cases h
  | some a =>
    cases e2 : o2.get ρ with
    | none => rw [e1, e2] at h; cases h
    | some b => rw [e1, e2] at h; cases h; exact ⟨a, b, rfl, rfl, rfl⟩
theorem getAll1 {o1 : OV} {ds : List D} (h : getAll ρ [o1] = some ds) : ∃ a, ds = [a] ∧ o1.get ρ = some a := by
  simp only [getAll] at h
  cases e1 : o1.get ρ with
  | none => rw [e1] at h; cases h
  | some a => rw [e1] at h; cases h; exact ⟨a, rfl, rfl⟩
abbrev OneO (Φ : Fns) (a : IE) : Prop := ∀ os ρ ρ', evs Φ [a] ρ = .ok os ρ' → ∃ o, os = [o]
theorem t_op {o : Op2} {a b : IE} (ha : OneO Φ a) (hb : OneO Φ b) (h : tI K Φ E (.op o [a, b]) σ H Q) : tOp (rP2 K o) (tO K Φ E a) (tO K Φ E b) σ H Q := by
  obtain ⟨B, lk, F, ρ, fps, ts, S, w⟩ := h
  simp only [ev] at w
  rw [out_bind] at w
  refine t_two ha hb ⟨B, lk, F, ρ, fps, ts, S, w⟩ (k := fun B lk ts os ρ1 => Out (XC K E B lk σ) (match getAll ρ1 os with
    | some [a, b] => match op2 o a b with
      | some d => .ok d ρ1
      | none => .stk
    | _ => .stk) fun d ρ' => ∀ v fp F' H' fps', Sta K B lk F' H' σ ρ' fps' ((v, .own d fp) :: ts) → Q v H') ?_
  intro B lk ts o1 o2 ρ' x y t1 t2 F' H' fps' w h1 h2 S'
  cases e : getAll ρ' [o1, o2] with
  | none => rw [e] at w; exact w.elim
  | some ds =>
    obtain ⟨da, db, rfl, e1, e2⟩ := getAll2 e
    rw [e] at w
    simp only at w
    cases eo : op2 o da db with
    | none => rw [eo] at w; exact w.elim
    | some d =>
      rw [eo] at w
      exact ⟨F', da, db, d, S'.own.sub, S'.wrep (t := (x, t1)) (by simp) h1 e1, S'.wrep (t := (y, t2)) (by simp) h2 e2, eo, fun v F2 H2 fp p => w v fp F2 H2 fps' (S'.drop.drop.push p)⟩
theorem t_idx {a b : IE} (ha : OneO Φ a) (hb : OneO Φ b) (h : tI K Φ E (.idx [a, b]) σ H Q) : tOp (rIxP K) (tO K Φ E a) (tO K Φ E b) σ H Q := by
  obtain ⟨B, lk, F, ρ, fps, ts, S, w⟩ := h
  simp only [ev] at w
  rw [out_bind] at w
  refine t_two ha hb ⟨B, lk, F, ρ, fps, ts, S, w⟩ (k := fun B lk ts os ρ1 => Out (XC K E B lk σ) (match getAll ρ1 os with
    | some [a, b] => match idxD a b with
      | some d => .ok d ρ1
      | none => .stk
    | _ => .stk) fun d ρ' => ∀ v fp F' H' fps', Sta K B lk F' H' σ ρ' fps' ((v, .own d fp) :: ts) → Q v H') ?_
  intro B lk ts o1 o2 ρ' x y t1 t2 F' H' fps' w h1 h2 S'
  cases e : getAll ρ' [o1, o2] with
  | none => rw [e] at w; exact w.elim
  | some ds =>
    obtain ⟨da, db, rfl, e1, e2⟩ := getAll2 e
    rw [e] at w
    simp only at w
    cases eo : idxD da db with
    | none => rw [eo] at w; exact w.elim
    | some d =>
      rw [eo] at w
      exact ⟨F', da, db, d, S'.own.sub, S'.wrep (t := (x, t1)) (by simp) h1 e1, S'.wrep (t := (y, t2)) (by simp) h2 e2, eo, fun v F2 H2 fp p => w v fp F2 H2 fps' (S'.drop.drop.push p)⟩
theorem t_one {a : IE} {k : Bs → List (Nat × V) → List (V × Tm) → List OV → Env → Prop} {R1 : V → Hp → Prop} (ha : OneO Φ a)
    (h : ∃ B lk F ρ fps ts, Sta K B lk F H σ ρ fps ts ∧ Out (XC K E B lk σ) (evs Φ [a] ρ) fun os ρ' => k B lk ts os ρ')
    (hk : ∀ B lk ts o1 ρ' x t1 F' H' fps', k B lk ts [o1] ρ' → OvIs o1 t1 → Sta K B lk F' H' σ ρ' fps' ((x, t1) :: ts) → R1 x H') :
    tO K Φ E a σ H R1 := by
  obtain ⟨B, lk, F, ρ, fps, ts, S, o⟩ := h
  refine ⟨B, lk, F, ρ, fps, ts, S, ?_⟩
  cases e : evs Φ [a] ρ with
  | exc _ _ _ => rw [e] at o; exact o
  | stk => rw [e] at o; exact o
  | ok os1 ρ1 =>
    rw [e] at o
    obtain ⟨o1, rfl⟩ := ha _ _ _ e
    exact ⟨o1, rfl, fun v tm F' H' fps' hi S' => hk B lk ts o1 ρ1 v tm F' H' fps' o hi S'⟩
theorem isNon_rep {a : D} {x : V} (h : WRep K F H a x) : decide (x = V.non) = isNon a := by
  obtain ⟨fp, h⟩ := h
  cases a with
  | non => simp only [Rep] at h; rw [h.1]; rfl
  | bl _ => simp only [Rep] at h; rw [h.1]; rfl
  | int _ => simp only [Rep] at h; rw [h.1]; rfl
  | str _ => simp only [Rep] at h; rw [h.1]; rfl
  | typ _ => simp only [Rep] at h; rw [h.1]; rfl
  | tup _ => simp only [Rep] at h; obtain ⟨_, _, e, _⟩ := h; rw [e]; rfl
  | scr _ => simp only [Rep] at h; obtain ⟨_, _, e, _⟩ := h; rw [e]; rfl
  | lst o _ => cases o <;> (simp only [Rep] at h; obtain ⟨_, _, h⟩ := h)
               · rw [h.1]; rfl
               · obtain ⟨_, e, _⟩ := h; rw [e]; rfl
  | cls _ => simp only [Rep] at h
  | dct _ _ _ => simp only [Rep] at h
  | exc _ _ => simp only [Rep] at h
  | clo _ _ => simp only [Rep] at h
theorem t_isn {neg : Bool} {a : IE} (ha : OneO Φ a) (h : tI K Φ E (.isn neg [a]) σ H Q) : tO K Φ E a σ H fun x H1 => Q (.bl (decide (x = .non) != neg)) H1 := by
  obtain ⟨B, lk, F, ρ, fps, ts, S, w⟩ := h
  simp only [ev] at w
  rw [out_bind] at w
  refine t_one ha ⟨B, lk, F, ρ, fps, ts, S, w⟩ (k := fun B lk ts os ρ1 => Out (XC K E B lk σ) (match getAll ρ1 os with
    | some [a] => R.ok (.bl (isNon a != neg)) ρ1
    | _ => .stk) fun d ρ' => ∀ v fp F' H' fps', Sta K B lk F' H' σ ρ' fps' ((v, .own d fp) :: ts) → Q v H') ?_
  intro B lk ts o1 ρ' x t1 F' H' fps' w h1 S'
  cases e : getAll ρ' [o1] with
  | none => rw [e] at w; exact w.elim
  | some ds =>
    obtain ⟨da, rfl, e1⟩ := getAll1 e
    rw [e] at w
    rw [isNon_rep (S'.wrep (t := (x, t1)) (by simp) h1 e1)]
    exact w _ [] F' H' fps' (S'.drop.pushS (by simp [Rep]))
theorem t_neg {a : IE} (ha : OneO Φ a) (h : tI K Φ E (.neg [a]) σ H Q) : tUn (rU fun i => .int (-i)) (tO K Φ E a) σ H Q := by
  obtain ⟨B, lk, F, ρ, fps, ts, S, w⟩ := h
  simp only [ev] at w
  rw [out_bind] at w
  refine t_one ha ⟨B, lk, F, ρ, fps, ts, S, w⟩ (k := fun B lk ts os ρ1 => Out (XC K E B lk σ) (match getAll ρ1 os with
    | some [.int i] => R.ok (.int (-i)) ρ1
    | _ => .stk) fun d ρ' => ∀ v fp F' H' fps', Sta K B lk F' H' σ ρ' fps' ((v, .own d fp) :: ts) → Q v H') ?_
  intro B lk ts o1 ρ' x t1 F' H' fps' w h1 S'
  cases e : getAll ρ' [o1] with
  | none => rw [e] at w; exact w.elim
  | some ds =>
    obtain ⟨da, rfl, e1⟩ := getAll1 e
    rw [e] at w
    obtain ⟨fp, r⟩ := S'.wrep (t := (x, t1)) (by simp) h1 e1
    cases da <;> try exact w.elim
    exact ⟨_, rep_int r, w _ [] F' H' fps' (S'.drop.pushS (by simp [Rep]))⟩
theorem t_not {a : IE} (h : tI K Φ E (.notE a) σ H Q) : tNotV (tI K Φ E a) σ H Q := by
  obtain ⟨B, lk, F, ρ, fps, ts, S, w⟩ := h
  simp only [ev] at w
  rw [out_bind] at w
  refine ⟨B, lk, F, ρ, fps, ts, S, w.imp fun d ρ' q v fp F' H' fps' S' => ?_⟩
  have r : Rep K F' H' d v fp := S'.temps _ (List.mem_cons_self ..)
  cases d <;> try exact q.elim
  exact ⟨_, rep_bl r, q _ [] F' H' fps' (S'.drop.pushS (by simp [Rep]))⟩
theorem tT_not {a : IE} {Q : Bool → Hp → Prop} (h : tT K Φ E (.notE a) σ H Q) : tNot (tT K Φ E a) σ H Q := by
  obtain ⟨B, lk, F, ρ, fps, ts, S, w⟩ := h
  simp only [ev] at w
  rw [out_bind] at w
  refine ⟨B, lk, F, ρ, fps, ts, S, w.imp fun d ρ' q => ?_⟩
  cases d <;> try exact q.elim
  obtain ⟨b, e, q⟩ := q
  cases e
  exact ⟨_, rfl, q⟩
theorem t_and {a b : IE} (h : tI K Φ E (.andE a b) σ H Q) : tAndV (tI K Φ E a) (tI K Φ E b) σ H Q := by
  obtain ⟨B, lk, F, ρ, fps, ts, S, w⟩ := h
  simp only [ev] at w
  rw [out_bind] at w
  refine ⟨B, lk, F, ρ, fps, ts, S, w.imp fun d ρ' q v fp F' H' fps' S' => ?_⟩
  have r : Rep K F' H' d v fp := S'.temps _ (List.mem_cons_self ..)
  cases d <;> try exact q.elim
  rename_i c
  refine ⟨c, rep_bl r, ?_⟩
  cases c with
  | true => exact iteT ⟨B, lk, F', ρ', fps', ts, S'.drop, q⟩
  | false => exact iteF (q _ [] F' H' fps' (S'.drop.pushS (by simp [Rep])))
theorem t_or {a b : IE} (h : tI K Φ E (.orE a b) σ H Q) : tOrV (tI K Φ E a) (tI K Φ E b) σ H Q := by
  obtain ⟨B, lk, F, ρ, fps, ts, S, w⟩ := h
  simp only [ev] at w
  rw [out_bind] at w
  refine ⟨B, lk, F, ρ, fps, ts, S, w.imp fun d ρ' q v fp F' H' fps' S' => ?_⟩
  have r : Rep K F' H' d v fp := S'.temps _ (List.mem_cons_self ..)
  cases d <;> try exact q.elim
  rename_i c
  refine ⟨c, rep_bl r, ?_⟩
  cases c with
  | false => exact iteF ⟨B, lk, F', ρ', fps', ts, S'.drop, q⟩
  | true => exact iteT (q _ [] F' H' fps' (S'.drop.pushS (by simp [Rep])))
theorem tT_and {a b : IE} {Q : Bool → Hp → Prop} (h : tT K Φ E (.andE a b) σ H Q) : tAnd (tT K Φ E a) (tT K Φ E b) σ H Q := by
  obtain ⟨B, lk, F, ρ, fps, ts, S, w⟩ := h
  simp only [ev] at w
  rw [out_bind] at w
  refine ⟨B, lk, F, ρ, fps, ts, S, w.imp fun d ρ' q => ?_⟩
  cases d <;> try exact q.elim
  rename_i c
  refine ⟨c, rfl, fun F' H' fps' S' => ?_⟩
  cases c with
  | true => exact iteT ⟨B, lk, F', ρ', fps', ts, S', q⟩
  | false =>
    obtain ⟨b, e, q⟩ := q
    cases e
    exact iteF (q _ _ _ S')
theorem tT_or {a b : IE} {Q : Bool → Hp → Prop} (h : tT K Φ E (.orE a b) σ H Q) : tOr (tT K Φ E a) (tT K Φ E b) σ H Q := by
  obtain ⟨B, lk, F, ρ, fps, ts, S, w⟩ := h
  simp only [ev] at w
  rw [out_bind] at w
  refine ⟨B, lk, F, ρ, fps, ts, S, w.imp fun d ρ' q => ?_⟩
  cases d <;> try exact q.elim
  rename_i c
  refine ⟨c, rfl, fun F' H' fps' S' => ?_⟩
  cases c with
  | false => exact iteF ⟨B, lk, F', ρ', fps', ts, S', q⟩
  | true =>
    obtain ⟨b, e, q⟩ := q
    cases e
    exact iteT (q _ _ _ S')
theorem t_ite {c a b : IE} (h : tI K Φ E (.ite c a b) σ H Q) : tIf (tT K Φ E c) (tI K Φ E a) (tI K Φ E b) σ H Q := by
  obtain ⟨B, lk, F, ρ, fps, ts, S, w⟩ := h
  simp only [ev] at w
  rw [out_bind] at w
  refine ⟨B, lk, F, ρ, fps, ts, S, w.imp fun d ρ' q => ?_⟩
  cases d <;> try exact q.elim
  rename_i k
  refine ⟨k, rfl, fun F' H' fps' S' => ?_⟩
  cases k with
  | true => exact iteT ⟨B, lk, F', ρ', fps', ts, S', q⟩
  | false => exact iteF ⟨B, lk, F', ρ', fps', ts, S', q⟩
end Mi
end

section
set_option Elab.async false
set_option linter.all false
set_option maxRecDepth 100000
/-! Displays, slices, built-ins, chains, calls. -/
namespace Mi
open PySem PySem.Spec PyProof.Rows L2
variable {K : PySem.W.Frag} {Φ : Fns} {E : XK} {B : Bs} {lk : List (Nat × V)} {F F' H H' : Hp} {σ : L2.St} {ρ : Env} {fps : List (List Addr)} {ts : List (V × Tm)} {Q : VK}

/-- all operands stand, what is done with them is g -/
def OpsAt (K : PySem.W.Frag) (E : XK) (g : List OV → Env → R D) (σ : L2.St) (Q : VK) (vs : List V) (H : Hp) : Prop := ∃ B lk F ρ fps ts os tms, vs = tms.map (·.1) ∧ OvsIs os tms ∧ Sta K B lk F H σ ρ fps (tms.reverse ++ ts) ∧
  Out (XC K E B lk σ) (g os ρ) fun d ρ' => ∀ v fp F' H' fps', Sta K B lk F' H' σ ρ' fps' ((v, .own d fp) :: ts) → Q v H'
theorem t_ops {es : List IE} {g : List OV → Env → R D} (h : ∃ B lk F ρ fps ts, Sta K B lk F H σ ρ fps ts ∧ Out (XC K E B lk σ) ((evs Φ es ρ).bind g) fun d ρ' => ∀ v fp F' H' fps', Sta K B lk F' H' σ ρ' fps' ((v, .own d fp) :: ts) → Q v H') :
    tOs K Φ E es σ H (OpsAt K E g σ Q) := by
  obtain ⟨B, lk, F, ρ, fps, ts, S, o⟩ := h
  rw [out_bind] at o
  exact ⟨B, lk, F, ρ, fps, ts, S, o.imp fun os ρ' q tms F' H' fps' hi S' => ⟨B, lk, F', ρ', fps', ts, os, tms, rfl, hi, S', q⟩⟩
theorem tOs.mono {es : List IE} {Q Q' : List V → Hp → Prop} (h : tOs K Φ E es σ H Q) (hq : ∀ vs H, Q vs H → Q' vs H) : tOs K Φ E es σ H Q' := by
  obtain ⟨B, lk, F, ρ, fps, ts, S, o⟩ := h
  exact ⟨B, lk, F, ρ, fps, ts, S, o.imp fun os ρ' q tms F' H' fps' hi S' => hq _ _ (q tms F' H' fps' hi S')⟩
theorem Sta.wrepsR {tms : List (V × Tm)} {os : List OV} {ds : List D} (S : Sta K B lk F H σ ρ fps (tms.reverse ++ ts)) (hi : OvsIs os tms) (e : getAll ρ os = some ds) : WRepL K F H ds (tms.map (·.1)) :=
  Sta.wreps S (fun t ht => by simp [ht]) hi e
theorem o_cb {p : Pr} {vs : List V} (h : OpsAt K E (fun os ρ1 => match getAll ρ1 os with
    | some ds => match prD p ds with
      | some d => .ok d ρ1
      | none => .stk
    | none => .stk) σ Q vs H) : rPr K p vs H Q := by
  obtain ⟨B, lk, F, ρ, fps, ts, os, tms, rfl, hi, S, o⟩ := h
  cases e : getAll ρ os with
  | none => simp only [e] at o; exact o.elim
  | some ds =>
    simp only [e] at o
    cases e2 : prD p ds with
    | none => rw [e2] at o; exact o.elim
    | some d =>
      rw [e2] at o
      exact ⟨F, ds, d, S.own.sub, S.wrepsR hi e, e2, fun v F' H' fp pr => o v fp F' H' fps (S.drops.push pr)⟩
/-- values in flight, taken together -/
theorem tfp_reverse : ∀ tms : List (V × Tm), (tfp tms.reverse).Perm (tfp tms)
  | [] => .refl _
  | t :: r => by
    rw [List.reverse_cons, tfp_app]
    simp only [tfp, List.append_nil]
    exact ((tfp_reverse r).append_right _).trans List.perm_append_comm
theorem getAll_nil_val : ∀ {os : List OV} {ds : List D}, getAll [] os = some ds → os = ds.map .val
  | [], ds, h => by simp only [getAll] at h; cases h; rfl
  | .val d :: os, ds, h => by
    simp only [getAll, OV.get] at h
    cases e : getAll [] os with
    | none => rw [e] at h; cases h
    | some ds' => rw [e] at h; cases h; rw [getAll_nil_val e]; rfl
  | .ref i :: os, ds, h => by
    simp only [getAll, OV.get, getE] at h
    simp at h
theorem tms_rep : ∀ {tms : List (V × Tm)} {ds : List D}, OvsIs (ds.map .val) tms → (∀ t ∈ tms, TmOk K F H σ t) → RepL K F H ds (tms.map (·.1)) (tfp tms)
  | [], [], _, _ => by simp [RepL, tfp]
  | t :: tms, d :: ds, hi, ht => by
    obtain ⟨⟨fp, e⟩, hi2⟩ := hi
    have q := ht t (List.mem_cons_self ..)
    unfold TmOk at q
    rw [e] at q
    simp only [List.map_cons, RepL, tfp]
    exact ⟨t.1, tms.map (·.1), fp, tfp tms, rfl, q, tms_rep hi2 fun u hu => ht u (List.mem_cons_of_mem _ hu), by rw [e]; rfl⟩
  | [], _ :: _, h, _ => h.elim
  | _ :: _, [], h, _ => h.elim
theorem packed (tms ts : List (V × Tm)) (fps : List (List Addr)) : (tfp (tms.reverse ++ ts) ++ fps.flatten).Perm (tfp tms ++ (tfp ts ++ fps.flatten)) := by
  rw [tfp_app, List.append_assoc]
  exact (tfp_reverse tms).append_right _
theorem o_lst {vs : List V} (h : OpsAt K E (fun os ρ1 => match getAll [] os with
    | some ds => if ds.length ≤ SZ then .ok (.lst true ds) ρ1 else .stk
    | none => .stk) σ Q vs H) : vs.length ≤ sizeLine ∧ ∀ p, H p = none → Q (.ref p) (upd H p (.lst vs)) := by
  obtain ⟨B, lk, F, ρ, fps, ts, os, tms, rfl, hi, S, o⟩ := h
  cases e : getAll [] os with
  | none => simp only [e] at o; exact o.elim
  | some ds =>
    simp only [e] at o
    obtain rfl := getAll_nil_val e
    split at o
    · rename_i hz
      have r := tms_rep hi fun t ht => S.temps t (by simp [ht])
      have hl := RepL.length _ _ _ r
      refine ⟨by rw [hl, ← SZ_eq]; exact hz, fun p hp => o (.ref p) (p :: tfp tms) F _ fps ?_⟩
      have ow := (S.own.perm (packed tms ts fps).symm).list hp (tms.map (·.1))
      have keep : ∀ a ∈ tfp tms ++ (tfp ts ++ fps.flatten), upd H p (.lst (tms.map (·.1))) a = H a := fun a ha => upd_ne fun z => (List.nodup_cons.mp ow.nodup).1 (z ▸ ha)
      refine Sta.pushOwn (Sta.mono (all := []) S.drops (Same.refl _) (fun a ha => keep a (List.mem_append_right _ ha)) (ow.less ?_)) (by simpa using ow) ?_
      · have := SubP.right (p :: tfp tms) (tfp ts ++ fps.flatten)
        simpa using this
      · simp only [Rep]
        exact ⟨p, _, tfp tms, rfl, upd_same, RepL.mono (Same.refl _) _ _ _ (fun a ha => keep a (List.mem_append_left _ ha)) r, rfl⟩
    · exact o.elim
theorem o_tup {vs : List V} (h : OpsAt K E (fun os ρ1 => match getAll [] os with
    | some ds => if ds.length ≤ SZ then .ok (.tup ds) ρ1 else .stk
    | none => .stk) σ Q vs H) : vs.length ≤ sizeLine ∧ ∀ p, H p = none → Q (.ref p) (upd H p (.tup vs)) := by
  obtain ⟨B, lk, F, ρ, fps, ts, os, tms, rfl, hi, S, o⟩ := h
  cases e : getAll [] os with
  | none => simp only [e] at o; exact o.elim
  | some ds =>
    simp only [e] at o
    obtain rfl := getAll_nil_val e
    split at o
    · rename_i hz
      have r := tms_rep hi fun t ht => S.temps t (by simp [ht])
      have hl := RepL.length _ _ _ r
      refine ⟨by rw [hl, ← SZ_eq]; exact hz, fun p hp => o (.ref p) (tfp tms) (upd F p (.tup (tms.map (·.1)))) _ fps ?_⟩
      have ow0 := S.own.perm (packed tms ts fps).symm
      have ow := ow0.tuple hp (tms.map (·.1))
      have hF := same_upd (o := HO.tup (tms.map (·.1))) (Same.none S.own.sub hp)
      have keep : ∀ a ∈ tfp tms ++ (tfp ts ++ fps.flatten), upd H p (.tup (tms.map (·.1))) a = H a := fun a ha => live_keep ow0 (same_upd hp) ha
      refine Sta.pushOwn (Sta.mono (all := []) S.drops hF (fun a ha => keep a (List.mem_append_right _ ha)) (ow.less (SubP.right _ _))) ow ?_
      simp only [Rep]
      exact ⟨p, _, rfl, SqT.of upd_same, RepL.mono hF _ _ _ (fun a ha => keep a (List.mem_append_left _ ha)) r⟩
    · exact o.elim
/-! ### slices -/
theorem t_three {a b c : IE} {Q : List V → Hp → Prop} (ha : OneO Φ a) (hb : OneO Φ b) (hc : OneO Φ c) (h : tOs K Φ E [a, b, c] σ H Q) :
    tO K Φ E a σ H fun x H1 => tO K Φ E b σ H1 fun y H2 => tO K Φ E c σ H2 fun z H3 => Q [x, y, z] H3 := by
  have h1 : tCons (tO K Φ E a) (tOs K Φ E [b, c]) σ H Q := t_cons ha h
  refine tO_mono h1 fun x H1 h2 => ?_
  have h3 : tCons (tO K Φ E b) (tOs K Φ E [c]) σ H1 (fun xs H2 => Q (x :: xs) H2) := t_cons hb h2
  refine tO_mono h3 fun y H2 h4 => ?_
  have h5 : tCons (tO K Φ E c) (tOs K Φ E []) σ H2 (fun xs H2 => Q (x :: y :: xs) H2) := t_cons hc h4
  exact tO_mono h5 fun z H3 h6 => t_nil h6
where
  tO_mono {a : IE} {H : Hp} {Q Q' : VK} (h : tO K Φ E a σ H Q) (hq : ∀ x H, Q x H → Q' x H) : tO K Φ E a σ H Q' := by
    obtain ⟨B, lk, F, ρ, fps, ts, S, o⟩ := h
    exact ⟨B, lk, F, ρ, fps, ts, S, o.imp fun os ρ' ⟨o1, e, q⟩ => ⟨o1, e, fun v tm F' H' fps' hi S' => hq _ _ (q v tm F' H' fps' hi S')⟩⟩
theorem tO_mono {a : IE} {H : Hp} {Q Q' : VK} (h : tO K Φ E a σ H Q) (hq : ∀ x H, Q x H → Q' x H) : tO K Φ E a σ H Q' := t_three.tO_mono h hq
theorem t_two' {a b : IE} {Q : List V → Hp → Prop} (ha : OneO Φ a) (hb : OneO Φ b) (h : tOs K Φ E [a, b] σ H Q) : tO K Φ E a σ H fun x H1 => tO K Φ E b σ H1 fun y H2 => Q [x, y] H2 := by
  have h1 : tCons (tO K Φ E a) (tOs K Φ E [b]) σ H Q := t_cons ha h
  refine tO_mono h1 fun x H1 h2 => ?_
  have h3 : tCons (tO K Φ E b) (tOs K Φ E []) σ H1 (fun xs H2 => Q (x :: xs) H2) := t_cons hb h2
  exact tO_mono h3 fun y H2 h4 => t_nil h4
theorem t_one' {a : IE} {Q : List V → Hp → Prop} (ha : OneO Φ a) (h : tOs K Φ E [a] σ H Q) : tO K Φ E a σ H fun x H1 => Q [x] H1 := by
  have h1 : tCons (tO K Φ E a) (tOs K Φ E []) σ H Q := t_cons ha h
  exact tO_mono h1 fun x H1 h2 => t_nil h2
theorem getAll_cons {o : OV} {os : List OV} {ds : List D} (h : getAll ρ (o :: os) = some ds) : ∃ d ds', ds = d :: ds' ∧ o.get ρ = some d ∧ getAll ρ os = some ds' := by
  simp only [getAll] at h
  cases e1 : o.get ρ with
  | none => rw [e1] at h; cases h
  | some a =>
    cases e2 : getAll ρ os with
    | none => rw [e1, e2] at h; cases h
    | some b => rw [e1, e2] at h; cases h; exact ⟨a, b, rfl, rfl, rfl⟩
theorem wrep3 {a b c : D} {vs : List V} (w : WRepL K F H [a, b, c] vs) : ∃ x y z, vs = [x, y, z] ∧ WRep K F H a x ∧ WRep K F H b y ∧ WRep K F H c z := by
  cases vs with
  | nil => exact absurd w (by simp [WRepL])
  | cons x r =>
    obtain ⟨y, z, rfl, wy, wz⟩ := wrep2 (vs := r) w.2
    exact ⟨x, y, z, rfl, w.1, wy, wz⟩
/-- a slice's bound -/
def tBd (K : PySem.W.Frag) (Φ : Fns) (E : XK) (bs : List IE) : TO := fun σ H Q => ∃ B lk F ρ fps ts, Sta K B lk F H σ ρ fps ts ∧
  Out (XC K E B lk σ) (evB Φ bs ρ) fun o ρ' => ∀ F' H' fps', Sta K B lk F' H' σ ρ' fps' ts → Q o H'
theorem t_bd0 {Q : Option Int → Hp → Prop} (h : tBd K Φ E [] σ H Q) : tNoPart σ H Q := by
  obtain ⟨B, lk, F, ρ, fps, ts, S, w⟩ := h
  exact w F H fps S
theorem t_bd1 {b : IE} {Q : Option Int → Hp → Prop} (h : tBd K Φ E [b] σ H Q) : tPart (tI K Φ E b) σ H Q := by
  obtain ⟨B, lk, F, ρ, fps, ts, S, w⟩ := h
  simp only [evB] at w
  rw [out_bind] at w
  refine ⟨B, lk, F, ρ, fps, ts, S, w.imp fun d ρ' q v fp F' H' fps' S' => ?_⟩
  have r : Rep K F' H' d v fp := S'.temps _ (List.mem_cons_self ..)
  cases d <;> try exact q.elim
  exact ⟨_, rep_int r, q _ _ _ S'.drop⟩
theorem t_slc {a : IE} {lo hi : List IE} (ha : OneO Φ a) (h : tI K Φ E (.slc [a] lo hi) σ H Q) : L2.tSl (rSlP K) (tO K Φ E a) (tBd K Φ E lo) (tBd K Φ E hi) σ H Q := by
  obtain ⟨B, lk, F, ρ, fps, ts, S, w⟩ := h
  simp only [ev] at w
  rw [out_bind] at w
  refine t_one ha ⟨B, lk, F, ρ, fps, ts, S, w⟩ (k := fun B lk ts os ρ1 => Out (XC K E B lk σ) ((evB Φ lo ρ1).bind fun l ρ2 => (evB Φ hi ρ2).bind fun u ρ3 => match getAll ρ3 os with
    | some [a] => match slcD a l u with
      | some d => R.ok d ρ3
      | none => .stk
    | _ => .stk) fun d ρ' => ∀ v fp F' H' fps', Sta K B lk F' H' σ ρ' fps' ((v, .own d fp) :: ts) → Q v H') ?_
  intro B lk ts o1 ρ1 x t1 F1 H1 fps1 w h1 S1
  rw [out_bind] at w
  refine ⟨B, lk, F1, ρ1, fps1, (x, t1) :: ts, S1, w.imp fun l ρ2 w F2 H2 fps2 S2 => ?_⟩
  rw [out_bind] at w
  refine ⟨B, lk, F2, ρ2, fps2, (x, t1) :: ts, S2, w.imp fun u ρ3 w F3 H3 fps3 S3 => ?_⟩
  cases e : getAll ρ3 [o1] with
  | none => rw [e] at w; exact w.elim
  | some ds =>
    obtain ⟨da, rfl, e1⟩ := getAll1 e
    rw [e] at w
    simp only at w
    cases e2 : slcD da l u with
    | none => rw [e2] at w; exact w.elim
    | some r =>
      rw [e2] at w
      exact ⟨F3, da, r, S3.own.sub, S3.wrep (t := (x, t1)) (by simp) h1 e1, e2, fun v F' H' fp p => w v fp F' H' fps3 (S3.drop.push p)⟩
/-! ### chains -/
theorem t_chain {o1 o2 : Op2} {a b c : IE} (ha : OneO Φ a) (hb : OneO Φ b) (hc : OneO Φ c) (h : tI K Φ E (.chain o1 o2 [a, b] [c]) σ H Q) : tChain (rP2 K o1) (rP2 K o2) (tO K Φ E a) (tO K Φ E b) (tO K Φ E c) σ H Q := by
  obtain ⟨B, lk, F, ρ, fps, ts, S, w⟩ := h
  simp only [ev] at w
  rw [out_bind] at w
  refine t_two ha hb ⟨B, lk, F, ρ, fps, ts, S, w⟩ (k := fun B lk ts os ρ1 => Out (XC K E B lk σ) (match getAll ρ1 os with
    | some [a, b] => match op2 o1 a b with
      | some (.bl true) => (evs Φ [c] ρ1).bind fun os2 ρ2 => match getAll ρ2 (os ++ os2) with
        | some [_, b2, c] => match op2 o2 b2 c with
          | some (.bl k) => .ok (.bl k) ρ2
          | _ => .stk
        | _ => .stk
      | some (.bl false) => .ok (.bl false) ρ1
      | _ => .stk
    | _ => .stk) fun d ρ' => ∀ v fp F' H' fps', Sta K B lk F' H' σ ρ' fps' ((v, .own d fp) :: ts) → Q v H') ?_
  intro B lk ts p1 p2 ρ1 x y t1 t2 F1 H1 fps1 w h1 h2 S1
  cases e : getAll ρ1 [p1, p2] with
  | none => rw [e] at w; exact w.elim
  | some ds =>
    obtain ⟨da, db, rfl, e1, e2⟩ := getAll2 e
    rw [e] at w
    simp only at w
    cases eo : op2 o1 da db with
    | none => rw [eo] at w; exact w.elim
    | some d =>
      rw [eo] at w
      cases d <;> try exact w.elim
      rename_i k
      refine ⟨F1, da, db, .bl k, S1.own.sub, S1.wrep (t := (x, t1)) (by simp) h1 e1, S1.wrep (t := (y, t2)) (by simp) h2 e2, eo, fun v F2 H2 fp p => ?_⟩
      have S2 := (S1.push p).drop
      refine ⟨k, rep_bl p.rep, ?_⟩
      cases k with
      | false => exact iteF (w _ [] F2 H2 fps1 (S2.drop.drop.pushS (by simp [Rep])))
      | true =>
        refine iteT ?_
        simp only at w
        rw [out_bind] at w
        refine ⟨B, lk, F2, ρ1, fps1, (y, t2) :: (x, t1) :: ts, S2, w.imp' fun os2 ρ2 e3 w => ?_⟩
        obtain ⟨p3, rfl⟩ := hc _ _ _ e3
        refine ⟨p3, rfl, fun z t3 F3 H3 fps3 h3 S3 => ?_⟩
        cases e4 : getAll ρ2 [p1, p2, p3] with
        | none =>
          have e4' : getAll ρ2 ([p1, p2] ++ [p3]) = none := e4
          rw [e4'] at w; exact w.elim
        | some ds =>
          have e4' : getAll ρ2 ([p1, p2] ++ [p3]) = some ds := e4
          obtain ⟨d1, ds1, rfl, g1, e5⟩ := getAll_cons e4
          obtain ⟨d2, d3, rfl, g2, g3⟩ := getAll2 e5
          rw [e4'] at w
          simp only at w
          cases eo2 : op2 o2 d2 d3 with
          | none => rw [eo2] at w; exact w.elim
          | some d =>
            rw [eo2] at w
            cases d <;> try exact w.elim
            exact ⟨F3, d2, d3, _, S3.own.sub, S3.wrep (t := (y, t2)) (by simp) h2 g2, S3.wrep (t := (z, t3)) (by simp) h3 g3, eo2, fun v F4 H4 fp p => w v fp F4 H4 fps3 (S3.drop.drop.drop.push p)⟩
end Mi
end

section
set_option Elab.async false
set_option linter.all false
set_option maxRecDepth 100000
/-! Calls of the text's own functions. -/
namespace Mi
open PySem PySem.Spec PyProof.Rows L2
variable {K : PySem.W.Frag} {Φ : Fns} {E : XK} {B : Bs} {lk : List (Nat × V)} {F F' H H' : Hp} {σ : L2.St} {ρ : Env} {fps : List (List Addr)} {ts : List (V × Tm)} {Q : VK}

def RepP (K : PySem.W.Frag) (F H : Hp) : List D → List V → List (List Addr) → Prop
  | [], [], [] => True
  | d :: ds, v :: vs, f :: fs => Rep K F H d v f ∧ RepP K F H ds vs fs
  | _, _, _ => False
theorem RepP.length : ∀ {ds : List D} {vs : List V} {fs : List (List Addr)}, RepP K F H ds vs fs → vs.length = ds.length ∧ fs.length = ds.length
  | [], [], [], _ => ⟨rfl, rfl⟩
  | d :: ds, v :: vs, f :: fs, h => by
    obtain ⟨h1, h2⟩ := RepP.length h.2
    simp [h1, h2]
  | [], _ :: _, _, h => h.elim
  | [], [], _ :: _, h => h.elim
  | _ :: _, [], _, h => h.elim
  | _ :: _, _ :: _, [], h => h.elim
theorem RepP.get : ∀ {ds : List D} {vs : List V} {fs : List (List Addr)} {i : Nat} {d : D}, RepP K F H ds vs fs → ds[i]? = some d → ∃ v, vs[i]? = some v ∧ Rep K F H d v (fs.getD i [])
  | d0 :: ds, v :: vs, f :: fs, 0, d, h, e => by
    simp at e; subst e
    exact ⟨v, rfl, by simpa using h.1⟩
  | d0 :: ds, v :: vs, f :: fs, i + 1, d, h, e => by
    obtain ⟨w, h1, h2⟩ := RepP.get (i := i) h.2 (by simpa using e)
    exact ⟨w, by simpa using h1, by simpa using h2⟩
  | [], [], [], i, d, _, e => by simp at e
  | [], _ :: _, _, _, _, h, _ => h.elim
  | [], [], _ :: _, _, _, h, _ => h.elim
  | _ :: _, [], _, _, _, h, _ => h.elim
  | _ :: _, _ :: _, [], _, _, h, _ => h.elim
theorem RepP.mono (hF : Same F F') : ∀ {ds : List D} {vs : List V} {fs : List (List Addr)}, (∀ a ∈ fs.flatten, H' a = H a) → RepP K F H ds vs fs → RepP K F' H' ds vs fs
  | [], [], [], _, _ => trivial
  | d :: ds, v :: vs, f :: fs, hH, h => ⟨Rep.mono hF _ _ _ (fun a ha => hH a (by simp [ha])) h.1, RepP.mono hF (fun a ha => hH a (by rw [List.flatten_cons]; exact List.mem_append_right _ ha)) h.2⟩
  | [], _ :: _, _, _, h => h.elim
  | [], [], _ :: _, _, h => h.elim
  | _ :: _, [], _, _, h => h.elim
  | _ :: _, _ :: _, [], _, h => h.elim

/-- what a call of the i-th function promises -/
def spI (K : PySem.W.Frag) (Φ : Fns) (f : Nat) : Sp := fun vs H Q E => ∃ F ds fps, Same F H ∧ RepP K F H ds vs fps ∧ fps.flatten.Nodup ∧ (∀ a ∈ fps.flatten, F a = none) ∧
  match Φ f ds with
  | .ok d as => ∀ v F' H' fp fps', OwnOk ⟨F, H, fps.flatten⟩ F' H' (fp ++ fps'.flatten) → Rep K F' H' d v fp → RepP K F' H' as vs fps' → Q v H'
  | .exc c d as => ∀ cls dx F' H' fps', OwnOk ⟨F, H, fps.flatten⟩ F' H' fps'.flatten → RepX K F' H' c d cls dx → RepP K F' H' as vs fps' → E cls dx H'
  | .stk => False

/-- a call within a body: what the caller holds besides stays -/
theorem OwnOk.call {A R Z : List Addr} (o : OwnOk B F H (A ++ R)) (i : OwnOk ⟨F, H, A⟩ F' H' Z) : OwnOk B F' H' (Z ++ R) ∧ (∀ r ∈ R, H' r = H r) ∧ Same F F' := by
  have hF : Same F F' := i.base
  have hR : ∀ r ∈ R, r ∉ A := fun r hr ha => apart o.nodup ha hr
  have keep : ∀ r ∈ R, H' r = H r := fun r hr => by
    obtain ⟨xs, e⟩ := o.live r (List.mem_append_right _ hr)
    rw [e, i.frame r _ e (hR r hr)]
  have fresh : ∀ b, H b = none → b ∈ B.fp0 ∨ B.H0 b = none := fun b h => by
    by_cases hb : b ∈ B.fp0
    · exact .inl hb
    · right
      cases q : B.H0 b with
      | none => rfl
      | some u => have := o.frame b u q hb; rw [h] at this; cases this
  refine ⟨⟨i.sub, Same.trans o.base hF, fun b u e n => ?_, fun a ha => ?_, fun b u e => ?_, ?_, fun a ha => ?_, fun a ha => ?_⟩, keep, hF⟩
  · refine i.frame b u (o.frame b u e n) fun ha => ?_
    rcases o.ownB b (List.mem_append_left _ ha) with h | h
    · exact n h
    · rw [h] at e; cases e
  · rcases List.mem_append.mp ha with h | h
    · rcases i.ownB a h with h | h
      · exact o.ownB a (List.mem_append_left _ h)
      · exact fresh a h
    · exact o.ownB a (List.mem_append_right _ h)
  · rcases i.frzB b u e with h | h | h
    · exact o.frzB b u h
    · exact .inr (o.ownB b (List.mem_append_left _ h))
    · exact .inr (fresh b h)
  · refine nodup_app i.nodup (SubP.right A R |>.nodup o.nodup) fun a h1 h2 => ?_
    rcases i.ownB a h1 with h | h
    · exact hR a h2 h
    · obtain ⟨xs, e⟩ := o.live a (List.mem_append_right _ h2)
      have h : H a = none := h
      rw [h] at e; cases e
  · rcases List.mem_append.mp ha with h | h
    · exact i.disj a h
    · cases q : F' a with
      | none => rfl
      | some u =>
        rcases i.frzB a u q with z | z | z
        · have z : F a = some u := z
          rw [o.disj a (List.mem_append_right _ h)] at z; cases z
        · exact (hR a h z).elim
        · obtain ⟨xs, e⟩ := o.live a (List.mem_append_right _ h)
          have z : H a = none := z
          rw [z] at e; cases e
  · rcases List.mem_append.mp ha with h | h
    · exact i.live a h
    · obtain ⟨xs, e⟩ := o.live a (List.mem_append_right _ h)
      exact ⟨xs, by rw [keep a h]; exact e⟩
/-! ### lending -/
def opFp (fps : List (List Addr)) (t : V × Tm) : List Addr := match t.2 with
  | .own _ fp => fp
  | .ref i => fps.getD i []
def lendF : List OV → List (List Addr) → List (List Addr)
  | [], fps => fps
  | .val _ :: os, fps => lendF os fps
  | .ref i :: os, fps => lendF os (fps.set i [])
def clearE : List OV → Env → Env
  | [], ρ => ρ
  | .val _ :: os, ρ => clearE os ρ
  | .ref i :: os, ρ => clearE os (ρ.set i none)
theorem refs_mem_ov : ∀ {os : List OV} {tms : List (V × Tm)} {j : Nat}, OvsIs os tms → (∃ t ∈ tms, t.2 = .ref j) → j ∈ OV.refs os
  | [], [], j, _, ⟨t, h, _⟩ => nomatch h
  | .val d :: os, t :: tms, j, hi, ⟨u, hu, e⟩ => by
    rcases List.mem_cons.mp hu with rfl | hu
    · obtain ⟨fp, e2⟩ := hi.1
      rw [e2] at e; cases e
    · simp only [OV.refs]; exact refs_mem_ov hi.2 ⟨u, hu, e⟩
  | .ref i :: os, t :: tms, j, hi, ⟨u, hu, e⟩ => by
    simp only [OV.refs]
    rcases List.mem_cons.mp hu with rfl | hu
    · have e2 : u.2 = .ref i := hi.1
      rw [e2] at e; cases e; exact List.mem_cons_self ..
    · exact List.mem_cons_of_mem _ (refs_mem_ov hi.2 ⟨u, hu, e⟩)
  | [], _ :: _, _, h, _ => h.elim
  | _ :: _, [], _, h, _ => h.elim
theorem lend_perm : ∀ {os : List OV} {tms : List (V × Tm)} (fps : List (List Addr)), OvsIs os tms → nodupN (OV.refs os) = true → (∀ j ∈ OV.refs os, j < fps.length) →
    (tfp tms ++ fps.flatten).Perm ((tms.map (opFp fps)).flatten ++ (lendF os fps).flatten)
  | [], [], fps, _, _, _ => by simp [tfp, lendF]
  | .val d :: os, t :: tms, fps, hi, hn, hl => by
    obtain ⟨fp, e⟩ := hi.1
    have ih := lend_perm (tms := tms) fps hi.2 (by simpa only [OV.refs] using hn) (by simpa only [OV.refs] using hl)
    simp only [tfp, List.map_cons, List.flatten_cons, lendF]
    have e1 : opFp fps t = t.2.fp := by unfold opFp; rw [e]; rfl
    rw [e1, List.append_assoc, List.append_assoc]
    exact ih.append_left _
  | .ref i :: os, t :: tms, fps, hi, hn, hl => by
    have e : t.2 = .ref i := hi.1
    simp only [OV.refs, nodupN, Bool.and_eq_true, Bool.not_eq_true', List.contains_eq_mem, decide_eq_false_iff_not] at hn
    have ih := lend_perm (tms := tms) (fps.set i []) hi.2 hn.2 (fun j hj => by simpa using hl j (by simp only [OV.refs]; exact List.mem_cons_of_mem _ hj))
    simp only [tfp, List.map_cons, List.flatten_cons, lendF]
    have e1 : opFp fps t = fps.getD i [] := by unfold opFp; rw [e]
    have e2 : t.2.fp = [] := by rw [e]; rfl
    have e3 : tms.map (opFp fps) = tms.map (opFp (fps.set i [])) := by
      refine List.map_congr_left fun u hu => ?_
      unfold opFp
      cases eu : u.2 with
      | own _ _ => rfl
      | ref j =>
        have : j ∈ OV.refs os := refs_mem_ov hi.2 ⟨u, hu, eu⟩
        simp only
        rw [getD_set_ne (i := i) (j := j) fun z => hn.1 (by rw [z]; exact this)]
    rw [e1, e2, e3, List.nil_append, List.append_assoc]
    refine ((flat_split fps i (hl i (by simp [OV.refs]))).append_left (tfp tms)).trans ?_
    rw [← List.append_assoc]
    refine (List.perm_append_comm.append_right _).trans ?_
    rw [List.append_assoc]
    exact ih.append_left _
  | [], _ :: _, _, h, _, _ => h.elim
  | _ :: _, [], _, h, _, _ => h.elim
theorem Sta.lend : ∀ {os : List OV} {ρ : Env} {fps : List (List Addr)}, Sta K B lk F H σ ρ fps ts → (∀ j ∈ OV.refs os, j < ρ.length) → Sta K B lk F H σ (clearE os ρ) (lendF os fps) ts
  | [], _, _, S, _ => S
  | .val _ :: os, _, _, S, h => Sta.lend (os := os) S (by simpa only [OV.refs] using h)
  | .ref i :: os, ρ, fps, S, h => by
    have S1 := S.clear (i := i) (h i (by simp [OV.refs]))
    exact Sta.lend (os := os) S1 fun j hj => by simpa using h j (by simp only [OV.refs]; exact List.mem_cons_of_mem _ hj)
/-- a value in flight goes back into the slot that names it -/
theorem Sta.put {i : Nat} {d : D} {v : V} {fp : List Addr} (S : Sta K B lk F H σ ρ fps ((v, .own d fp) :: ts)) (hi : i < ρ.length) (hv : σ[i]? = some (some v)) :
    Sta K B lk F H σ (ρ.set i (some d)) (fps.set i fp) ts := by
  have hf : i < fps.length := by rw [S.lenF]; exact hi
  have r : Rep K F H d v fp := S.temps _ (List.mem_cons_self ..)
  refine ⟨?_, by simp [S.len], by simp [S.lenF], fun j d' e => ?_, fun t h => S.temps t (List.mem_cons_of_mem _ h), S.locks⟩
  · refine S.own.less ?_
    simp only [tfp, Tm.fp]
    rw [List.append_assoc]
    have h1 : (tfp ts ++ (fps.set i fp).flatten).Perm (fp ++ (tfp ts ++ (fps.set i []).flatten)) := by
      refine ((flat_set fps i fp hf).append_left (tfp ts)).trans ?_
      rw [← List.append_assoc, ← List.append_assoc]
      exact List.perm_append_comm.append_right _
    have h2 : SubP (fps.set i []).flatten fps.flatten := SubP.trans (SubP.right (fps.getD i []) _) (.of_perm (flat_split fps i hf).symm)
    exact SubP.trans (.of_perm h1) (SubP.app (SubP.app h2 (tfp ts)) fp)
  · by_cases hj : i = j
    · subst hj
      rw [getE_set_same hi] at e
      cases e
      rw [getD_set_same hf]
      exact ⟨v, hv, r⟩
    · rw [getE_set_ne hj] at e
      rw [getD_set_ne hj]
      exact S.slots j d' e
theorem putBack_length : ∀ (os : List OV) (as : List D) (ρ : Env), (putBack os as ρ).length = ρ.length
  | [], as, ρ => by cases as <;> rfl
  | .val _ :: os, [], ρ => rfl
  | .ref _ :: os, [], ρ => rfl
  | .val _ :: os, a :: as, ρ => by simp only [putBack]; exact putBack_length os as ρ
  | .ref i :: os, a :: as, ρ => by simp only [putBack]; rw [putBack_length os as]; simp
/-- params in flight, as they stand behind a call -/
def inFlight : List V → List D → List (List Addr) → List (V × Tm)
  | v :: vs, d :: ds, f :: fs => (v, .own d f) :: inFlight vs ds fs
  | _, _, _ => []
theorem tfp_inFlight : ∀ {vs : List V} {ds : List D} {fs : List (List Addr)}, RepP K F H ds vs fs → tfp (inFlight vs ds fs) = fs.flatten
  | [], [], [], _ => rfl
  | v :: vs, d :: ds, f :: fs, h => by simp only [inFlight, tfp, Tm.fp, List.flatten_cons]; rw [tfp_inFlight h.2]
  | _ :: _, [], _, h => h.elim
  | [], _ :: _, [], h => h.elim
  | [], _ :: _, _ :: _, h => h.elim
  | [], [], _ :: _, h => h.elim
  | _ :: _, _ :: _, [], h => h.elim
theorem ok_inFlight : ∀ {vs : List V} {ds : List D} {fs : List (List Addr)}, RepP K F H ds vs fs → ∀ t ∈ inFlight vs ds fs, TmOk K F H σ t
  | [], [], [], _, t, ht => nomatch ht
  | v :: vs, d :: ds, f :: fs, h, t, ht => by
    rcases List.mem_cons.mp ht with rfl | ht
    · exact h.1
    · exact ok_inFlight h.2 t ht
  | _ :: _, [], _, h, _, _ => h.elim
  | [], _ :: _, [], h, _, _ => h.elim
  | [], _ :: _, _ :: _, h, _, _ => h.elim
  | [], [], _ :: _, h, _, _ => h.elim
  | _ :: _, _ :: _, [], h, _, _ => h.elim
theorem Sta.back : ∀ {os : List OV} {tms : List (V × Tm)} {as : List D} {fs : List (List Addr)} {ρ : Env} {fps : List (List Addr)}, OvsIs os tms → RepP K F H as (tms.map (·.1)) fs → (∀ j ∈ OV.refs os, j < ρ.length) → (∀ t ∈ tms, ∀ j, t.2 = .ref j → σ[j]? = some (some t.1)) →
    Sta K B lk F H σ ρ fps (inFlight (tms.map (·.1)) as fs ++ ts) → ∃ fps', Sta K B lk F H σ (putBack os as ρ) fps' ts
  | [], [], as, fs, ρ, fps, _, h, _, _, S => by
    cases as with
    | nil => cases fs with
      | nil => exact ⟨fps, S⟩
      | cons _ _ => exact h.elim
    | cons _ _ => exact h.elim
  | .val d :: os, t :: tms, a :: as, f :: fs, ρ, fps, hi, h, hl, hr, S => by
    simp only [putBack]
    exact Sta.back (os := os) hi.2 h.2 (by simpa only [OV.refs] using hl) (fun u hu => hr u (List.mem_cons_of_mem _ hu)) S.drop
  | .ref i :: os, t :: tms, a :: as, f :: fs, ρ, fps, hi, h, hl, hr, S => by
    simp only [putBack]
    have e : t.2 = .ref i := hi.1
    have S1 := Sta.put S (hl i (by simp [OV.refs])) (hr t (List.mem_cons_self ..) i e)
    exact Sta.back (os := os) hi.2 h.2 (fun j hj => by simpa using hl j (by simp only [OV.refs]; exact List.mem_cons_of_mem _ hj)) (fun u hu => hr u (List.mem_cons_of_mem _ hu)) S1
  | .val _ :: os, t :: tms, [], _, _, _, _, h, _, _, _ => h.elim
  | .ref _ :: os, t :: tms, [], _, _, _, _, h, _, _, _ => h.elim
  | .val _ :: os, t :: tms, _ :: _, [], _, _, _, h, _, _, _ => h.elim
  | .ref _ :: os, t :: tms, _ :: _, [], _, _, _, h, _, _, _ => h.elim
  | [], _ :: _, _, _, _, _, h, _, _, _, _ => h.elim
  | .val _ :: _, [], _, _, _, _, h, _, _, _, _ => h.elim
  | .ref _ :: _, [], _, _, _, _, h, _, _, _, _ => h.elim
theorem clearE_comm : ∀ (os : List OV) (ρ : Env) (i : Nat) (x : Option D), i ∉ OV.refs os → (clearE os ρ).set i x = clearE os (ρ.set i x)
  | [], _, _, _, _ => rfl
  | .val _ :: os, ρ, i, x, h => by simp only [clearE]; exact clearE_comm os ρ i x (by simpa only [OV.refs] using h)
  | .ref j :: os, ρ, i, x, h => by
    simp only [OV.refs, List.mem_cons, not_or] at h
    simp only [clearE]
    rw [clearE_comm os _ i x h.2, List.set_comm _ _ (Ne.symm h.1)]
theorem putBack_clear : ∀ (os : List OV) (as : List D) (ρ : Env), nodupN (OV.refs os) = true → as.length = os.length → putBack os as (clearE os ρ) = putBack os as ρ
  | [], as, ρ, _, _ => rfl
  | .val _ :: os, a :: as, ρ, hn, hl => by simp only [putBack, clearE]; exact putBack_clear os as ρ (by simpa only [OV.refs] using hn) (by simpa using hl)
  | .ref i :: os, a :: as, ρ, hn, hl => by
    simp only [OV.refs, nodupN, Bool.and_eq_true, Bool.not_eq_true', List.contains_eq_mem, decide_eq_false_iff_not] at hn
    simp only [putBack, clearE]
    rw [clearE_comm os _ i _ hn.1, List.set_set, putBack_clear os as _ hn.2 (by simpa using hl)]
  | .val _ :: _, [], _, _, hl => by simp at hl
  | .ref _ :: _, [], _, _, hl => by simp at hl
theorem getAll_len : ∀ {os : List OV} {ds : List D}, getAll ρ os = some ds → ds.length = os.length
  | [], ds, h => by simp only [getAll] at h; cases h; rfl
  | o :: os, ds, h => by
    obtain ⟨d, ds', rfl, _, h2⟩ := getAll_cons h
    simp [getAll_len h2]
theorem refs_lt : ∀ {os : List OV} {ds : List D}, getAll ρ os = some ds → ∀ j ∈ OV.refs os, j < ρ.length
  | [], ds, h, j, hj => nomatch hj
  | .val d :: os, ds, h, j, hj => by
    obtain ⟨d, ds', rfl, _, h2⟩ := getAll_cons h
    exact refs_lt h2 j (by simpa only [OV.refs] using hj)
  | .ref i :: os, ds, h, j, hj => by
    obtain ⟨d, ds', rfl, h1, h2⟩ := getAll_cons h
    simp only [OV.refs] at hj
    rcases List.mem_cons.mp hj with rfl | hj
    · exact getE_lt h1
    · exact refs_lt h2 j hj
theorem lent_rep : ∀ {os : List OV} {tms : List (V × Tm)} {ds : List D}, OvsIs os tms → getAll ρ os = some ds → (∀ t ∈ tms, TmOk K F H σ t) → (∀ i d, getE ρ i = some d → ∃ v, σ[i]? = some (some v) ∧ Rep K F H d v (fps.getD i [])) →
    RepP K F H ds (tms.map (·.1)) (tms.map (opFp fps))
  | [], [], ds, _, h, _, _ => by simp only [getAll] at h; cases h; trivial
  | .val d0 :: os, t :: tms, ds, hi, h, ht, hs => by
    obtain ⟨d, ds', rfl, h1, h2⟩ := getAll_cons h
    obtain ⟨fp, e⟩ := hi.1
    have q := ht t (List.mem_cons_self ..)
    unfold TmOk at q
    rw [e] at q
    cases h1
    refine ⟨?_, lent_rep hi.2 h2 (fun u hu => ht u (List.mem_cons_of_mem _ hu)) hs⟩
    unfold opFp
    rw [e]
    exact q
  | .ref i :: os, t :: tms, ds, hi, h, ht, hs => by
    obtain ⟨d, ds', rfl, h1, h2⟩ := getAll_cons h
    have e : t.2 = .ref i := hi.1
    have q := ht t (List.mem_cons_self ..)
    unfold TmOk at q
    rw [e] at q
    obtain ⟨v, e1, r⟩ := hs i d h1
    have q : σ[i]? = some (some t.1) := q
    rw [e1] at q
    cases q
    refine ⟨?_, lent_rep hi.2 h2 (fun u hu => ht u (List.mem_cons_of_mem _ hu)) hs⟩
    unfold opFp
    rw [e]
    exact r
  | [], _ :: _, _, h, _, _, _ => h.elim
  | .val _ :: _, [], _, h, _, _, _ => h.elim
  | .ref _ :: _, [], _, h, _, _, _ => h.elim
theorem call_end {os : List OV} {tms : List (V × Tm)} {ds as : List D} {F' H' : Hp} {fp : List Addr} {fps' : List (List Addr)} {d : D} {v : V} (hi : OvsIs os tms) (S : Sta K B lk F H σ ρ fps (tms.reverse ++ ts)) (hn : nodupN (OV.refs os) = true) (e : getAll ρ os = some ds)
    (O : OwnOk ⟨F, H, (tms.map (opFp fps)).flatten⟩ F' H' (fp ++ fps'.flatten)) (r : Rep K F' H' d v fp) (rp' : RepP K F' H' as (tms.map (·.1)) fps') : ∃ fps2, Sta K B lk F' H' σ (putBack os as ρ) fps2 ((v, .own d fp) :: ts) := by
  have ht : ∀ t ∈ tms, TmOk K F H σ t := fun t h => S.temps t (by simp [h])
  have hlt := refs_lt e
  have pm := lend_perm fps hi hn (by rw [S.lenF]; exact hlt)
  have pm2 : (tfp (tms.reverse ++ ts) ++ fps.flatten).Perm ((tms.map (opFp fps)).flatten ++ (tfp ts ++ (lendF os fps).flatten)) := by
    refine (packed tms ts fps).trans ?_
    rw [← List.append_assoc]
    refine (List.perm_append_comm.append_right _).trans ?_
    rw [List.append_assoc]
    refine (pm.append_left (tfp ts)).trans ?_
    rw [← List.append_assoc, ← List.append_assoc]
    exact List.perm_append_comm.append_right _
  have ow := S.own.perm pm2.symm
  obtain ⟨ow', keep, hF⟩ := ow.call O
  have S1 : Sta K B lk F H σ (clearE os ρ) (lendF os fps) ts := Sta.lend S.drops hlt
  have S2 : Sta K B lk F' H' σ (clearE os ρ) (lendF os fps) ts := Sta.mono (all := []) S1 hF keep (ow'.less (SubP.right _ _))
  have S3 : Sta K B lk F' H' σ (clearE os ρ) (lendF os fps) ((v, .own d fp) :: ts) := Sta.pushOwn S2 (ow'.less (SubP.app2 (SubP.left fp fps'.flatten) _)) r
  have el : as.length = os.length := by rw [hi.length]; simpa using rp'.length.1.symm
  have S4 : Sta K B lk F' H' σ (clearE os ρ) (lendF os fps) (inFlight (tms.map (·.1)) as fps' ++ (v, .own d fp) :: ts) := by
    refine ⟨?_, S3.len, S3.lenF, S3.slots, fun t ht => ?_, S3.locks⟩
    · rw [tfp_app, tfp_inFlight rp']
      simp only [tfp, Tm.fp]
      refine ow'.perm ?_
      have := (List.perm_append_comm (l₁ := fps'.flatten) (l₂ := fp)).append_right (tfp ts ++ (lendF os fps).flatten)
      simpa only [List.append_assoc] using this
    · rcases List.mem_append.mp ht with h | h
      · exact ok_inFlight rp' t h
      · exact S3.temps t h
  have hc : ∀ j ∈ OV.refs os, j < (clearE os ρ).length := fun j hj => by rw [← S1.len, S.len]; exact hlt j hj
  obtain ⟨fps2, S5⟩ := Sta.back hi rp' hc (fun t ht' j e2 => by
    have q := ht t ht'
    unfold TmOk at q
    rw [e2] at q
    exact q) S4
  rw [putBack_clear os as ρ hn el] at S5
  exact ⟨fps2, S5⟩
theorem o_call {f : Nat} {vs : List V} (h : OpsAt K E (fun os ρ1 => match nodupN (OV.refs os), getAll ρ1 os with
    | true, some ds => match Φ f ds with
      | .ok d as => if as.length = ds.length then .ok d (putBack os as ρ1) else .stk
      | .exc c d as => .exc c d (putBack os as ρ1)
      | .stk => .stk
    | _, _ => .stk) σ Q vs H) : spI K Φ f vs H Q E := by
  obtain ⟨B, lk, F, ρ, fps, ts, os, tms, rfl, hi, S, o⟩ := h
  cases hn : nodupN (OV.refs os) with
  | false => simp only [hn] at o; exact o.elim
  | true =>
    cases e : getAll ρ os with
    | none => simp only [hn, e] at o; exact o.elim
    | some ds =>
      simp only [hn, e] at o
      have ht : ∀ t ∈ tms, TmOk K F H σ t := fun t h => S.temps t (by simp [h])
      have rp := lent_rep (fps := fps) hi e ht S.slots
      have pm := lend_perm fps hi hn (by rw [S.lenF]; exact refs_lt e)
      have pm2 : (tfp (tms.reverse ++ ts) ++ fps.flatten).Perm ((tms.map (opFp fps)).flatten ++ (tfp ts ++ (lendF os fps).flatten)) := by
        refine (packed tms ts fps).trans ?_
        rw [← List.append_assoc]
        refine (List.perm_append_comm.append_right _).trans ?_
        rw [List.append_assoc]
        refine (pm.append_left (tfp ts)).trans ?_
        rw [← List.append_assoc, ← List.append_assoc]
        exact List.perm_append_comm.append_right _
      have ow := S.own.perm pm2.symm
      refine ⟨F, ds, tms.map (opFp fps), S.own.sub, rp, (SubP.left _ _).nodup ow.nodup, fun a ha => ow.disj a (List.mem_append_left _ ha), ?_⟩
      cases eΦ : Φ f ds with
      | stk => rw [eΦ] at o; exact o.elim
      | exc c d as =>
        rw [eΦ] at o
        have o : XC K E B lk σ c d (putBack os as ρ) := o
        intro cls dx F' H' fps' O rx rp'
        obtain ⟨fps2, S5⟩ := call_end (fp := []) (d := .non) (v := .non) hi S hn e (by simpa using O) (by simp [Rep]) rp'
        have S6 : Sta K B lk F' H' σ (putBack os as ρ) fps2 ([] : List (V × Tm)) := Sta.drops (us := ts) (by simpa using S5.drop)
        exact o cls dx F' H' fps2 S6 rx
      | ok d as =>
        rw [eΦ] at o
        simp only at o ⊢
        split at o
        · intro v F' H' fp fps' O r rp'
          obtain ⟨fps2, S5⟩ := call_end hi S hn e O r rp'
          exact o v fp F' H' fps2 S5
        · exact o.elim
end Mi
end

section
set_option Elab.async false
set_option linter.all false
set_option maxRecDepth 100000
/-! What is walked; comprehensions. -/
namespace Mi
open PySem PySem.Spec PyProof.Rows L2
variable {K : PySem.W.Frag} {Φ : Fns} {E : XK} {B : Bs} {lk : List (Nat × V)} {F F' H H' : Hp} {σ : L2.St} {ρ : Env} {fps : List (List Addr)} {ts : List (V × Tm)} {Q : VK} {X : Cx}

/-- an iterator that tells ds, whatever else happens to what does not stay -/
structure ItOk (K : PySem.W.Frag) (F0 : Hp) (J : L2.It) (ds : List D) : Prop where
  go : ∀ i F H, Same F0 F → Same F H → i < ds.length → J.go i H
  stop : ∀ i F H, Same F0 F → Same F H → ds.length = i → J.stop i H
  yld : ∀ i F H x H' d, Same F0 F → Same F H → J.yld i H x H' → ds[i]? = some d → ∃ F', PrimRes K F H F' H' d x []
def tIt (K : PySem.W.Frag) (Φ : Fns) (E : XK) (it : It) : TI := fun σ H R => ∃ B lk F ρ fps ts, Sta K B lk F H σ ρ fps ts ∧
  Out (XC K E B lk σ) (evIt Φ it ρ) fun ds ρ' => ∀ J F' H' fps', ItOk K F' J ds → Sta K B lk F' H' σ ρ' fps' ts → R J H'
theorem PI.imp {X : Cx} {tg e : Expr} {t t' : TI} (h : PI X tg e t) (hi : ∀ σ H R, t' σ H R → t σ H R) : PI X tg e t' := ⟨fun pins s σ H R I q => h.run pins s σ H R I (hi σ H R q)⟩

/-- all values in flight are frozen -/
theorem Sta.freezeAll : ∀ {us : List (V × Tm)} {F : Hp}, Sta K B lk F H σ ρ fps (us ++ ts) → ∃ F', Same F F' ∧ Sta K B lk F' H σ ρ fps ts ∧ ∀ t ∈ us, ∀ d fp, t.2 = .own d fp → Rep K F' H d.frz t.1 []
  | [], F, S => ⟨F, Same.refl _, S, fun _ h => nomatch h⟩
  | (v, .own d fp) :: us, F, S => by
    obtain ⟨F1, s1, r1, S1⟩ := Sta.freezeT S
    obtain ⟨F2, s2, S2, h2⟩ := Sta.freezeAll S1
    refine ⟨F2, Same.trans s1 s2, S2, fun t ht d' fp' e => ?_⟩
    rcases List.mem_cons.mp ht with rfl | ht
    · cases e
      exact Rep.mono s2 _ _ _ (fun _ h => nomatch h) r1
    · exact h2 t ht d' fp' e
  | (v, .ref i) :: us, F, S => by
    obtain ⟨F2, s2, S2, h2⟩ := Sta.freezeAll (us := us) S.drop
    refine ⟨F2, s2, S2, fun t ht d' fp' e => ?_⟩
    rcases List.mem_cons.mp ht with rfl | ht
    · cases e
    · exact h2 t ht d' fp' e
/-- what is walked lies where it stays -/
def SrcOk (K : PySem.W.Frag) (F H : Hp) (v : V) (ds : List D) : Prop := ∃ a vs, v = .ref a ∧ (SqL K F a vs ∨ SqT K F a vs) ∧ RepL K F H ds vs []
theorem SrcOk.of {d : D} {v : V} {xs : List D} (h : Rep K F H d v []) (ho : d.own = false) (e : seqOf d = some xs) : SrcOk K F H v xs := by
  unfold seqOf at e
  split at e
  · rename_i o ys
    cases e
    cases o with
    | true => simp [D.own] at ho
    | false =>
      simp only [Rep] at h
      obtain ⟨a, vs, e1, h1, h2, _⟩ := h
      exact ⟨a, vs, e1, .inl (SqL.of h1), h2⟩
  · cases e
    simp only [Rep] at h
    obtain ⟨a, vs, e1, h1, h2⟩ := h
    exact ⟨a, vs, e1, .inr h1, h2⟩
  · cases e
    simp only [Rep] at h
    obtain ⟨a, vs, e1, h1, h2, _⟩ := h
    exact ⟨a, vs, e1, .inl h1, h2⟩
  · cases e
theorem seqOf_frz {d : D} {xs : List D} (e : seqOf d = some xs) : seqOf d.frz = some (frzL xs) := by
  unfold seqOf at e
  split at e <;> first | (cases e; rfl) | (cases e)
theorem itemsAll_cons {o : OV} {os : List OV} {dss : List (List D)} (h : itemsAll ρ (o :: os) = some dss) : ∃ d ds', dss = d :: ds' ∧ itemsOf ρ o = some d ∧ itemsAll ρ os = some ds' := by
  simp only [itemsAll] at h
  cases e1 : itemsOf ρ o with
  | none => rw [e1] at h; cases h
  | some a =>
    cases e2 : itemsAll ρ os with
    | none => rw [e1, e2] at h; cases h
    | some b => rw [e1, e2] at h; cases h; exact ⟨a, b, rfl, rfl, rfl⟩
theorem src_one {o : OV} {t : V × Tm} {ds : List D} (hi : OvIs o t.2) (e : itemsOf ρ o = some ds) (hf : ∀ d fp, t.2 = .own d fp → Rep K F H d.frz t.1 []) (ht : ∀ i, t.2 = .ref i → σ[i]? = some (some t.1))
    (hs : ∀ i d, getE ρ i = some d → ∃ v, σ[i]? = some (some v) ∧ Rep K F H d v (fps.getD i [])) : SrcOk K F H t.1 ds := by
  cases o with
  | val d =>
    obtain ⟨fp, e2⟩ := hi
    simp only [itemsOf] at e
    cases e3 : seqOf d with
    | none => rw [e3] at e; cases e
    | some xs =>
      rw [e3] at e
      cases e
      exact SrcOk.of (hf d fp e2) (D.frz_own d) (seqOf_frz e3)
  | ref i =>
    have e2 : t.2 = .ref i := hi
    simp only [itemsOf] at e
    cases e3 : getE ρ i with
    | none => rw [e3] at e; cases e
    | some d =>
      rw [e3] at e
      simp only at e
      split at e
      · cases e
      · rename_i ho
        have ho : d.own = false := by simpa using ho
        obtain ⟨v, e4, r⟩ := hs i d e3
        rw [ht i e2] at e4
        cases e4
        exact SrcOk.of (Rep.nil ho r) ho e
def SrcsOk (K : PySem.W.Frag) (F H : Hp) : List (List D) → List V → Prop
  | [], [] => True
  | d :: ds, v :: vs => SrcOk K F H v d ∧ SrcsOk K F H ds vs
  | _, _ => False
theorem srcs_ok : ∀ {os : List OV} {tms : List (V × Tm)} {dss : List (List D)}, OvsIs os tms → itemsAll ρ os = some dss → (∀ t ∈ tms, ∀ d fp, t.2 = .own d fp → Rep K F H d.frz t.1 []) → (∀ t ∈ tms, ∀ i, t.2 = .ref i → σ[i]? = some (some t.1)) →
    (∀ i d, getE ρ i = some d → ∃ v, σ[i]? = some (some v) ∧ Rep K F H d v (fps.getD i [])) → SrcsOk K F H dss (tms.map (·.1))
  | [], [], dss, _, e, _, _, _ => by simp only [itemsAll] at e; cases e; trivial
  | o :: os, t :: tms, dss, hi, e, hf, ht, hs => by
    obtain ⟨d, ds', rfl, h1, h2⟩ := itemsAll_cons e
    exact ⟨src_one hi.1 h1 (hf t (List.mem_cons_self ..)) (ht t (List.mem_cons_self ..)) hs,
      srcs_ok hi.2 h2 (fun u hu => hf u (List.mem_cons_of_mem _ hu)) (fun u hu => ht u (List.mem_cons_of_mem _ hu)) hs⟩
  | [], _ :: _, _, h, _, _, _, _ => h.elim
  | _ :: _, [], _, h, _, _, _, _ => h.elim
/-- the sources of a walk, in a row -/
theorem t_srcs {es : List IE} {g : List (List D) → Option (List D)} {it : It} {R : L2.It → Hp → Prop} (h : tIt K Φ E it σ H R)
    (he : ∀ ρ, evIt Φ it ρ = (evs Φ es ρ).bind fun os ρ1 => ofOpt ((itemsAll ρ1 os).bind g) ρ1) :
    tOs K Φ E es σ H fun vs H1 => ∃ F dss ds, SrcsOk K F H1 dss vs ∧ Same F H1 ∧ g dss = some ds ∧ ∀ J, ItOk K F J ds → R J H1 := by
  obtain ⟨B, lk, F, ρ, fps, ts, S, o⟩ := h
  rw [he, out_bind] at o
  refine ⟨B, lk, F, ρ, fps, ts, S, o.imp fun os ρ1 q tms F1 H1 fps1 hi S1 => ?_⟩
  cases e : itemsAll ρ1 os with
  | none => rw [e] at q; exact q.elim
  | some dss =>
    rw [e] at q
    have q : Out (XC K E B lk σ) (ofOpt (g dss) ρ1) _ := q
    cases e2 : g dss with
    | none => rw [e2] at q; exact q.elim
    | some ds =>
      rw [e2] at q
      obtain ⟨F2, s2, S2, hf⟩ := Sta.freezeAll S1
      refine ⟨F2, dss, ds, srcs_ok (fps := fps1) (σ := σ) hi e (fun t ht => hf t (by simp [ht])) (fun t ht i e3 => ?_) S2.slots, S2.own.sub, e2, fun J hJ => q J F2 H1 fps1 hJ S2⟩
      have := S1.temps t (by simp [ht])
      unfold TmOk at this
      rw [e3] at this
      exact this

/-! ### a list or a tuple -/
theorem itOk_list {a : Addr} {vs : List V} {ds : List D} (h1 : SqL K F a vs) (h2 : RepL K F H ds vs []) : ItOk K F (Itl K a) ds where
  go := fun i F1 H1 s1 s2 hi => by
    have hl := RepL.length _ _ _ h2
    exact ⟨vs, vs[i]'(by omega), Same.seq (Same.trans s1 s2) h1, by simp⟩
  stop := fun i F1 H1 s1 s2 hi => ⟨vs, Same.seq (Same.trans s1 s2) h1, by rw [RepL.length _ _ _ h2]; omega⟩
  yld := fun i F1 H1 x H' d s1 s2 hy e => by
    obtain ⟨rfl, hy⟩ := hy
    obtain ⟨v, f, e1, r, hf⟩ := RepL.get i h2 e
    have := hy vs (Same.seq (Same.trans s1 s2) h1)
    rw [e1] at this
    cases this
    have ef : f = [] := List.eq_nil_iff_forall_not_mem.mpr fun b hb => nomatch hf b hb
    subst ef
    exact ⟨F1, .here s2 (Rep.mono s1 _ _ _ (fun _ h => nomatch h) r)⟩
theorem itOk_tup {a : Addr} {vs : List V} {ds : List D} (h1 : SqT K F a vs) (h2 : RepL K F H ds vs []) : ItOk K F (Itt K a) ds where
  go := fun i F1 H1 s1 s2 hi => by
    have hl := RepL.length _ _ _ h2
    exact ⟨vs, vs[i]'(by omega), Same.seqT (Same.trans s1 s2) h1, by simp⟩
  stop := fun i F1 H1 s1 s2 hi => ⟨vs, Same.seqT (Same.trans s1 s2) h1, by rw [RepL.length _ _ _ h2]; omega⟩
  yld := fun i F1 H1 x H' d s1 s2 hy e => by
    obtain ⟨rfl, hy⟩ := hy
    obtain ⟨v, f, e1, r, hf⟩ := RepL.get i h2 e
    have := hy vs (Same.seqT (Same.trans s1 s2) h1)
    rw [e1] at this
    cases this
    have ef : f = [] := List.eq_nil_iff_forall_not_mem.mpr fun b hb => nomatch hf b hb
    subst ef
    exact ⟨F1, .here s2 (Rep.mono s1 _ _ _ (fun _ h => nomatch h) r)⟩
/-- what is handed to iter(): a list or a tuple, as it comes -/
def iSeq (K : PySem.W.Frag) (te : TE) : TI := fun σ H R => te σ H fun x H1 => ∃ a xs, x = .ref a ∧ ((SqL K H1 a xs ∧ R (Itl K a) H1) ∨ (SqT K H1 a xs ∧ R (Itt K a) H1))
theorem pi_seq {tg e : Expr} {te : TE} (he : PE X e te) : PI X tg e (iSeq X.K te) := by
  constructor
  intro pins s σ H R I h
  refine wpAny_mono (he.run pins s σ H _ I h) (fun v s1 hv => ?_) fun _ _ x => x
  obtain ⟨x, H1, I1, r1, a, xs, rfl, q⟩ := hv
  cases r1
  have fresh : ∀ b ∈ [s1.heap.objs.size], FpOk X pins H1 b := fun b hb => by
    obtain rfl : b = s1.heap.objs.size := by simpa using hb
    exact I1.fpOk (Nat.le_refl _) (I1.hok.fresh (Nat.le_refl _))
  rcases q with ⟨hq, q⟩ | ⟨hq, q⟩
  · obtain ⟨its, rv, p, hz⟩ := I1.list hq
    refine wpAny_pyIter_list p.isList ?_
    refine ⟨s1.heap.objs.size, [s1.heap.objs.size], _, Itl X.K a, H1, rfl, I1.kept (t' := s1.toks) fun b o e => ?_, turn_list a _, ?_, fresh, q⟩
    · exact Heap.get?_push_of_some _ e
    · exact ⟨_, Heap.get?_push_size _ rfl, rfl, rfl⟩
  · obtain ⟨its, rv, p, hz⟩ := I1.tuple hq
    refine wpAny_pyIter_tuple (show s1.heap.IsTuple a its.toArray from p) ?_
    refine ⟨s1.heap.objs.size, [s1.heap.objs.size], _, Itt X.K a, H1, rfl, I1.kept (t' := s1.toks) fun b o e => ?_, turn_tuple a _, ?_, fresh, q⟩
    · exact Heap.get?_push_of_some _ e
    · exact ⟨_, Heap.get?_push_size _ rfl, rfl, rfl⟩
theorem seqG_inv {dss : List (List D)} {ds : List D} (h : seqG dss = some ds) : dss = [ds] := by
  unfold seqG at h
  split at h
  · cases h; rfl
  · cases h
theorem srcs_one {d : List D} {x : V} (h : SrcsOk K F H [d] [x]) : SrcOk K F H x d := h.1
theorem t_seq {e : IE} {R : L2.It → Hp → Prop} (ho : OneO Φ e) (h : tIt K Φ E (.seq [e]) σ H R) : iSeq K (tO K Φ E e) σ H R := by
  have h1 := t_srcs (es := [e]) (g := seqG) h fun ρ => by simp only [evIt]
  have h2 := t_one' ho h1
  unfold iSeq
  refine tO_mono h2 ?_
  rintro x H1 ⟨F, dss, ds, hs, sF, eg, q⟩
  obtain rfl := seqG_inv eg
  obtain ⟨p, vs, e, hq, r⟩ := srcs_one hs
  rcases hq with hq | hq
  · exact ⟨p, vs, e, .inl ⟨Same.seq sF hq, q _ (itOk_list hq r)⟩⟩
  · exact ⟨p, vs, e, .inr ⟨Same.seqT sF hq, q _ (itOk_tup hq r)⟩⟩
/-! ### range -/
theorem rangeD_get : ∀ (n : Nat) (a s : Int) (i : Nat), i < n → (rangeD n a s)[i]? = some (.int (a + i * s))
  | 0, _, _, _, h => by omega
  | n + 1, a, s, 0, _ => by simp [rangeD]
  | n + 1, a, s, i + 1, h => by
    simp only [rangeD, List.getElem?_cons_succ]
    rw [rangeD_get n (a + s) s i (by omega)]
    have : a + s + (i : Int) * s = a + ((i + 1 : Nat) : Int) * s := by
      rw [Int.natCast_add, Int.add_mul]
      simp
      omega
    rw [this]
theorem rangeD_length : ∀ (n : Nat) (a s : Int), (rangeD n a s).length = n
  | 0, _, _ => rfl
  | n + 1, a, s => by simp [rangeD, rangeD_length n]
theorem itOk_range (lo : Int) (n : Nat) : ItOk K F (Itr lo n) (rangeD n lo 1) where
  go := fun i F1 H1 s1 s2 hi => by rw [rangeD_length] at hi; exact hi
  stop := fun i F1 H1 s1 s2 hi => by rw [rangeD_length] at hi; exact Nat.le_of_eq hi
  yld := fun i F1 H1 x H' d s1 s2 hy e => by
    obtain ⟨rfl, rfl⟩ := hy
    have hi : i < n := by
      have := (List.getElem?_eq_some_iff.mp e).1
      rwa [rangeD_length] at this
    rw [rangeD_get n lo 1 i hi] at e
    cases e
    exact ⟨F1, .here s2 (by simp [Rep])⟩
theorem rangeOk_bounds {i : Int} (h : rangeOk i = true) : -(2 ^ 62) ≤ i ∧ i < 2 ^ 62 := by
  unfold rangeOk at h
  simp only [Bool.and_eq_true, decide_eq_true_eq] at h
  constructor <;> omega
theorem t_range_ops {es : List IE} {R : L2.It → Hp → Prop} (h : tIt K Φ E (.range es) σ H R) : tOs K Φ E es σ H fun vs H1 => ∃ F ds os, WRepL K F H1 ds vs ∧ rangeOf ds = some os ∧ Same F H1 ∧ ∀ J, ItOk K F J os → R J H1 := by
  obtain ⟨B, lk, F, ρ, fps, ts, S, o⟩ := h
  simp only [evIt] at o
  rw [out_bind] at o
  refine ⟨B, lk, F, ρ, fps, ts, S, o.imp fun os ρ1 q tms F1 H1 fps1 hi S1 => ?_⟩
  cases e : getAll ρ1 os with
  | none => rw [e] at q; exact q.elim
  | some ds =>
    rw [e] at q
    have q : Out (XC K E B lk σ) (ofOpt (rangeOf ds) ρ1) _ := q
    cases e2 : rangeOf ds with
    | none => rw [e2] at q; exact q.elim
    | some l =>
      rw [e2] at q
      exact ⟨F1, ds, l, S1.wrepsR hi e, e2, S1.own.sub, fun J hJ => q J F1 H1 fps1 hJ S1.drops⟩
theorem t_range1 {a : IE} {R : L2.It → Hp → Prop} (ha : OneO Φ a) (h : tIt K Φ E (.range [a]) σ H R) : iRng1 (tCons (tO K Φ E a) tNil) σ H R := by
  refine tO_mono (t_one' ha (t_range_ops h)) fun x H1 ⟨F, ds, l, w, e, sF, q⟩ => ?_
  unfold rangeOf at e
  split at e
  · obtain ⟨x', ex, fp, r⟩ := wrep1 w
    cases ex
    obtain rfl := rep_int r
    split at e
    · rename_i hz
      simp only [Bool.and_eq_true, decide_eq_true_eq] at hz
      cases e
      obtain ⟨b1, b2⟩ := rangeOk_bounds hz.1
      exact ⟨_, rfl, b1, b2, q _ (itOk_range 0 _)⟩
    · cases e
  · obtain ⟨x', y', ex, _⟩ := wrep2 w
    cases ex
  · cases e
theorem t_range2 {a b : IE} {R : L2.It → Hp → Prop} (ha : OneO Φ a) (hb : OneO Φ b) (h : tIt K Φ E (.range [a, b]) σ H R) : iRng2 (tCons (tO K Φ E a) (tCons (tO K Φ E b) tNil)) σ H R := by
  refine tO_mono (t_two' ha hb (t_range_ops h)) fun x H1 q => tO_mono q fun y H2 ⟨F, ds, l, w, e, sF, q⟩ => ?_
  unfold rangeOf at e
  split at e
  · obtain ⟨x', ex, _⟩ := wrep1 w
    cases ex
  · obtain ⟨x', y', ex, ⟨f1, r1⟩, ⟨f2, r2⟩⟩ := wrep2 w
    cases ex
    obtain rfl := rep_int r1
    obtain rfl := rep_int r2
    split at e
    · rename_i hz
      simp only [Bool.and_eq_true, decide_eq_true_eq] at hz
      cases e
      obtain ⟨b1, b2⟩ := rangeOk_bounds hz.1.1
      obtain ⟨b3, b4⟩ := rangeOk_bounds hz.1.2
      exact ⟨_, _, rfl, ⟨b1, b2, b3, b4⟩, q _ (itOk_range _ _)⟩
    · cases e
  · cases e
/-! ### list(range(..)), tuple(range(..)) -/
theorem rng_rep {F H : Hp} : ∀ (n : Nat) (a : Int), RepL K F H (rangeD n a 1) ((List.range n).map fun i => V.int (a + (i : Nat))) []
  | 0, a => by simp [rangeD, RepL]
  | n + 1, a => by
    rw [List.range_succ_eq_map, List.map_cons, List.map_map]
    simp only [rangeD, RepL]
    refine ⟨.int a, _, [], [], ?_, by simp [Rep], rng_rep n (a + 1), rfl⟩
    have e1 : V.int (a + ((0 : Nat) : Int)) = V.int a := by simp
    have e2 : (List.range n).map ((fun i => V.int (a + (i : Nat))) ∘ Nat.succ) = (List.range n).map fun i => V.int (a + 1 + (i : Nat)) := List.map_congr_left fun i _ => by
      show V.int (a + ((i + 1 : Nat) : Int)) = V.int (a + 1 + (i : Int))
      congr 1
      omega
    rw [e1, e2]
theorem rangeOf_ok {ds os : List D} (h : rangeOf ds = some os) : (∃ n : Int, ds = [.int n] ∧ RgOk 0 n ∧ os = rangeD (n - 0).toNat 0 1) ∨ (∃ a b : Int, ds = [.int a, .int b] ∧ RgOk a b ∧ os = rangeD (b - a).toNat a 1) := by
  unfold rangeOf at h
  split at h
  · rename_i n
    split at h
    · rename_i hz
      simp only [Bool.and_eq_true, decide_eq_true_eq] at hz
      cases h
      obtain ⟨b1, b2⟩ := rangeOk_bounds hz.1
      have hz2 : n.toNat ≤ 16777216 := hz.2
      exact .inl ⟨n, rfl, ⟨by omega, by omega, b1, b2, by omega⟩, by rw [Int.sub_zero]⟩
    · cases h
  · rename_i a b
    split at h
    · rename_i hz
      simp only [Bool.and_eq_true, decide_eq_true_eq] at hz
      cases h
      obtain ⟨b1, b2⟩ := rangeOk_bounds hz.1.1
      obtain ⟨b3, b4⟩ := rangeOk_bounds hz.1.2
      have hz2 : (b - a).toNat ≤ 16777216 := hz.2
      exact .inr ⟨a, b, rfl, ⟨b1, b2, b3, b4, by omega⟩, rfl⟩
    · cases h
  · cases h
/-- a range's bounds, the operands in a row -/
def tRgO (K : PySem.W.Frag) (Φ : Fns) (E : XK) (es : List IE) : L2.St → Hp → (Int → Int → Hp → Prop) → Prop := fun σ H Q => tOs K Φ E es σ H fun vs H1 => ∃ a b : Int, ((vs = [.int b] ∧ a = 0) ∨ vs = [.int a, .int b]) ∧ Q a b H1
theorem t_rng {tup : Bool} {es : List IE} (h : tI K Φ E (.rng tup es) σ H Q) : tOs K Φ E es σ H fun vs H1 => ∃ a b : Int, ((vs = [.int b] ∧ a = 0) ∨ vs = [.int a, .int b]) ∧ RgOk a b ∧ ∀ q, H1 q = none → Q (.ref q) (upd H1 q (if tup then .tup (rgV a b) else .lst (rgV a b))) := by
  obtain ⟨B, lk, F, ρ, fps, ts, S, o⟩ := h
  simp only [ev] at o
  rw [out_bind] at o
  refine ⟨B, lk, F, ρ, fps, ts, S, o.imp fun os ρ1 q tms F1 H1 fps1 hi S1 => ?_⟩
  cases e : getAll ρ1 os with
  | none => rw [e] at q; exact q.elim
  | some ds =>
    rw [e] at q
    cases e2 : rangeOf ds with
    | none => simp only [Option.bind_some, e2] at q; exact q.elim
    | some l =>
      simp only [Option.bind_some, e2] at q
      have q : ∀ v fp F' H' fps', Sta K B lk F' H' σ ρ1 fps' ((v, .own (if tup then .tup l else .lst true l) fp) :: ts) → Q v H' := q
      have w := S1.wrepsR hi e
      have fin : ∀ a b : Int, l = rangeD (b - a).toNat a 1 → ∀ p, H1 p = none → Q (.ref p) (upd H1 p (if tup then .tup (rgV a b) else .lst (rgV a b))) := fun a b el p hp => by
        subst el
        have rr : RepL K F1 H1 (rangeD (b - a).toNat a 1) (rgV a b) [] := rng_rep _ a
        cases tup with
        | true => exact q (.ref p) [] _ _ fps1 (S1.drops.push (PrimRes.newT S1.own.sub rr hp))
        | false => exact q (.ref p) [p] _ _ fps1 (S1.drops.push (PrimRes.newL S1.own.sub rr hp))
      rcases rangeOf_ok e2 with ⟨n, rfl, ok, el⟩ | ⟨a, b, rfl, ok, el⟩
      · obtain ⟨x', ex, fp, r⟩ := wrep1 w
        have er := rep_int r
        subst er
        exact ⟨0, n, .inl ⟨ex, rfl⟩, ok, fin 0 n el⟩
      · obtain ⟨x', y', ex, ⟨f1, r1⟩, ⟨f2, r2⟩⟩ := wrep2 w
        have er1 := rep_int r1
        have er2 := rep_int r2
        subst er1
        subst er2
        exact ⟨a, b, .inr ex, ok, fin a b el⟩
end Mi
end

section
set_option Elab.async false
set_option linter.all false
set_option maxRecDepth 100000
/-! Targets; comprehensions. -/
namespace Mi
open PySem PySem.Spec PyProof.Rows L2
variable {K : PySem.W.Frag} {Φ : Fns} {E : XK} {B : Bs} {lk : List (Nat × V)} {F F' H H' : Hp} {σ : L2.St} {ρ : Env} {fps : List (List Addr)} {ts : List (V × Tm)} {Q : VK} {X : Cx}

mutual
def slotsT : Tg → List Nat
  | .slot i => [i]
  | .tup ts => slotsTs ts
def slotsTs : List Tg → List Nat
  | [] => []
  | t :: ts => slotsT t ++ slotsTs ts
end
def NoRefs (ts : List (V × Tm)) : Prop := ∀ t ∈ ts, ∀ i, t.2 ≠ .ref i
def Agree (σ σ' : L2.St) (js : List Nat) : Prop := σ'.length = σ.length ∧ ∀ j, j ∉ js → σ'[j]? = σ[j]?
def tG (K : PySem.W.Frag) (lkN : List Nat) (tg : Tg) : TG := fun v σ H Q => ∃ B lk F ρ fps ts d fp, Sta K B lk F H σ ρ fps ((v, .own d fp) :: ts) ∧ (∀ p ∈ lk, lkN.contains p.1 = true) ∧ NoRefs ts ∧
  ∃ ρ1, bindT lkN tg d ρ = some ρ1 ∧ ∀ σ' fps', Sta K B lk F H σ' ρ1 fps' ts → Agree σ σ' (slotsT tg) → Q σ' H
def tGs (K : PySem.W.Frag) (lkN : List Nat) (tgs : List Tg) : TGs := fun vs σ H Q => ∃ B lk F ρ fps ts ds fs, Sta K B lk F H σ ρ fps (inFlight vs ds fs ++ ts) ∧ RepP K F H ds vs fs ∧ (∀ p ∈ lk, lkN.contains p.1 = true) ∧ NoRefs ts ∧
  ∃ ρ1, bindTs lkN tgs ds ρ = some ρ1 ∧ ∀ σ' fps', Sta K B lk F H σ' ρ1 fps' ts → Agree σ σ' (slotsTs tgs) → Q σ' H
theorem PG.imp {tg : Expr} {t t' : TG} (h : PG X tg t) (hi : ∀ v σ H Q, t' v σ H Q → t v σ H Q) : PG X tg t' := ⟨fun pins s σ H v u Q I r q => h.run pins s σ H v u Q I r (hi v σ H Q q)⟩
theorem PGs.imp {tg : List Expr} {t t' : TGs} (h : PGs X tg t) (hi : ∀ v σ H Q, t' v σ H Q → t v σ H Q) : PGs X tg t' := ⟨fun pins s σ H v u Q I r q => h.run pins s σ H v u Q I r (hi v σ H Q q)⟩
theorem g_slot {lkN : List Nat} {i : Nat} {v : V} {Q : L2.St → Hp → Prop} (h : tG K lkN (.slot i) v σ H Q) : gName i v σ H Q := by
  obtain ⟨B, lk, F, ρ, fps, ts, d, fp, S, hl, hn, ρ1, e, q⟩ := h
  simp only [bindT] at e
  split at e
  · cases e
  · rename_i hc
    split at e
    · rename_i hi
      cases e
      refine q _ _ (S.store hi (fun p hp z => hc (z ▸ hl p hp)) fun t ht => hn t ht i) ⟨by simp, fun j hj => ?_⟩
      simp only [slotsT, List.mem_singleton] at hj
      rw [List.getElem?_set_ne (Ne.symm hj)]
    · cases e
theorem repP_of : ∀ {ds : List D} {vs : List V} {fp : List Addr}, RepL K F H ds vs fp → ∃ fs, RepP K F H ds vs fs ∧ fs.flatten = fp
  | [], vs, fp, h => by
    simp only [RepL] at h
    obtain ⟨rfl, rfl⟩ := h
    exact ⟨[], trivial, rfl⟩
  | d :: ds, vs, fp, h => by
    simp only [RepL] at h
    obtain ⟨v, vs', f1, f2, rfl, h1, h2, rfl⟩ := h
    obtain ⟨fs, h3, rfl⟩ := repP_of h2
    exact ⟨f1 :: fs, ⟨h1, h3⟩, rfl⟩
theorem bindTs_len : ∀ {lkN : List Nat} {tgs : List Tg} {ds : List D} {ρ ρ1 : Env}, bindTs lkN tgs ds ρ = some ρ1 → ds.length = tgs.length
  | _, [], [], _, _, _ => rfl
  | lkN, t :: ts, d :: ds, ρ, ρ1, h => by
    simp only [bindTs] at h
    split at h
    · simp [bindTs_len h]
    · cases h
  | _, [], _ :: _, _, _, h => by simp [bindTs] at h
  | _, _ :: _, [], _, _, h => by simp [bindTs] at h
theorem g_tup {lkN : List Nat} {tgs : List Tg} {v : V} {Q : L2.St → Hp → Prop} {n : Nat} (hn : tgs.length = n) (h : tG K lkN (.tup tgs) v σ H Q) : gTup K n (tGs K lkN tgs) v σ H Q := by
  obtain ⟨B, lk, F, ρ, fps, ts, d, fp, S, hl, hr, ρ1, e, q⟩ := h
  cases d <;> try (simp only [bindT] at e; cases e)
  rename_i ds
  simp only [bindT] at e
  have r : Rep K F H (.tup ds) v fp := S.temps _ (List.mem_cons_self ..)
  simp only [Rep] at r
  obtain ⟨a, vs, rfl, hq, r⟩ := r
  obtain ⟨fs, rp, hf⟩ := repP_of r
  refine ⟨a, vs, rfl, Same.seqT S.own.sub hq, by rw [rp.length.1, bindTs_len e, hn], B, lk, F, ρ, fps, ts, ds, fs, ?_, rp, hl, hr, ρ1, e, q⟩
  refine ⟨?_, S.len, S.lenF, S.slots, fun t ht => ?_, S.locks⟩
  · rw [tfp_app, tfp_inFlight rp, hf]
    have := S.own
    simpa only [tfp, Tm.fp] using this
  · rcases List.mem_append.mp ht with h | h
    · exact ok_inFlight rp t h
    · exact S.temps t (List.mem_cons_of_mem _ h)
theorem g_nil {lkN : List Nat} {vs : List V} {Q : L2.St → Hp → Prop} (h : tGs K lkN [] vs σ H Q) : gNil vs σ H Q := by
  obtain ⟨B, lk, F, ρ, fps, ts, ds, fs, S, rp, hl, hr, ρ1, e, q⟩ := h
  have hd := bindTs_len e
  have hv := rp.length.1
  obtain rfl : ds = [] := List.eq_nil_of_length_eq_zero hd
  obtain rfl : vs = [] := List.eq_nil_of_length_eq_zero hv
  simp only [bindTs] at e
  cases e
  exact ⟨rfl, q σ fps S ⟨rfl, fun _ _ => rfl⟩⟩
theorem inFlight_noRefs : ∀ {vs : List V} {ds : List D} {fs : List (List Addr)}, NoRefs (inFlight vs ds fs)
  | v :: vs, d :: ds, f :: fs => fun t ht i => by
    rcases List.mem_cons.mp ht with rfl | ht
    · intro z; cases z
    · exact inFlight_noRefs t ht i
  | [], _, _ => fun _ h => by simp [inFlight] at h
  | _ :: _, [], _ => fun _ h => by simp [inFlight] at h
  | _ :: _, _ :: _, [] => fun _ h => by simp [inFlight] at h
theorem g_cons {lkN : List Nat} {t : Tg} {tgs : List Tg} {vs : List V} {Q : L2.St → Hp → Prop} (h : tGs K lkN (t :: tgs) vs σ H Q) : gCons (tG K lkN t) (tGs K lkN tgs) vs σ H Q := by
  obtain ⟨B, lk, F, ρ, fps, ts, ds, fs, S, rp, hl, hr, ρ1, e, q⟩ := h
  have hd := bindTs_len e
  match ds, hd, rp, e, S with
  | d :: ds, hd, rp, e, S =>
  match vs, fs, rp, S with
  | v :: vs, f :: fs, rp, S =>
    simp only [bindTs] at e
    cases e1 : bindT lkN t d ρ with
    | none => rw [e1] at e; cases e
    | some ρ2 =>
      rw [e1] at e
      refine ⟨v, vs, rfl, B, lk, F, ρ, fps, inFlight vs ds fs ++ ts, d, f, S, hl, fun u hu i => ?_, ρ2, e1, fun σ' fps' S' ag => ?_⟩
      · rcases List.mem_append.mp hu with h | h
        · exact inFlight_noRefs u h i
        · exact hr u h i
      · exact ⟨B, lk, F, ρ2, fps', ts, ds, fs, S', rp.2, hl, hr, ρ1, e, fun σ'' fps'' S'' ag' => q σ'' fps'' S'' ⟨ag'.1.trans ag.1, fun j hj => by
          simp only [slotsTs, List.mem_append, not_or] at hj
          rw [ag'.2 j hj.2, ag.2 j hj.1]⟩⟩
/-! ### slots forgotten -/
theorem wipeE_length : ∀ (vs : List Nat) (ρ : Env), (wipeE vs ρ).length = ρ.length
  | [], _ => rfl
  | v :: vs, ρ => by simp [wipeE, wipeE_length vs]
theorem backE_length : ∀ (ρ0 : Env) (vs : List Nat) (ρ : Env), (backE ρ0 vs ρ).length = ρ.length
  | _, [], _ => rfl
  | ρ0, v :: vs, ρ => by simp [backE, backE_length ρ0 vs]
theorem getE_set {i j : Nat} {x : Option D} : getE (ρ.set i x) j = if i = j ∧ i < ρ.length then x else getE ρ j := by
  by_cases h : i = j
  · subst h
    by_cases hi : i < ρ.length
    · rw [if_pos ⟨rfl, hi⟩, getE_set_same hi]
    · rw [if_neg fun z => hi z.2, List.set_eq_of_length_le (by omega)]
  · rw [if_neg fun z => h z.1, getE_set_ne h]
theorem wipeE_some : ∀ {vs : List Nat} {ρ : Env} {j : Nat} {d : D}, getE (wipeE vs ρ) j = some d → getE ρ j = some d ∧ j ∉ vs
  | [], ρ, j, d, h => ⟨h, by simp⟩
  | v :: vs, ρ, j, d, h => by
    simp only [wipeE] at h
    rw [getE_set] at h
    split at h
    · cases h
    · rename_i hc
      obtain ⟨h1, h2⟩ := wipeE_some h
      refine ⟨h1, fun hm => ?_⟩
      rcases List.mem_cons.mp hm with rfl | hm
      · exact hc ⟨rfl, by rw [wipeE_length]; exact getE_lt h1⟩
      · exact h2 hm
theorem backE_some : ∀ {ρ0 : Env} {vs : List Nat} {ρ : Env} {j : Nat} {d : D}, getE (backE ρ0 vs ρ) j = some d → (j ∈ vs ∧ getE ρ0 j = some d) ∨ (j ∉ vs ∧ getE ρ j = some d)
  | ρ0, [], ρ, j, d, h => .inr ⟨by simp, h⟩
  | ρ0, v :: vs, ρ, j, d, h => by
    simp only [backE] at h
    rw [getE_set] at h
    split at h
    · rename_i hc
      obtain ⟨rfl, _⟩ := hc
      exact .inl ⟨List.mem_cons_self .., h⟩
    · rename_i hc
      rcases backE_some h with ⟨h1, h2⟩ | ⟨h1, h2⟩
      · exact .inl ⟨List.mem_cons_of_mem _ h1, h2⟩
      · refine .inr ⟨fun hm => ?_, h2⟩
        rcases List.mem_cons.mp hm with rfl | hm
        · exact hc ⟨rfl, by rw [backE_length]; exact getE_lt h2⟩
        · exact h1 hm
def wipeF : List Nat → List (List Addr) → List (List Addr)
  | [], fps => fps
  | v :: vs, fps => (wipeF vs fps).set v []
theorem wipeF_length : ∀ (vs : List Nat) (fps : List (List Addr)), (wipeF vs fps).length = fps.length
  | [], _ => rfl
  | v :: vs, fps => by simp [wipeF, wipeF_length vs]
theorem wipeF_in : ∀ {vs : List Nat} {fps : List (List Addr)} {j : Nat}, j ∈ vs → (wipeF vs fps).getD j [] = []
  | v :: vs, fps, j, h => by
    simp only [wipeF]
    by_cases hj : v = j
    · subst hj
      by_cases hl : v < (wipeF vs fps).length
      · exact getD_set_same hl
      · rw [List.set_eq_of_length_le (by omega), List.getD_eq_getElem?_getD, List.getElem?_eq_none (by omega)]; rfl
    · rw [getD_set_ne hj]
      rcases List.mem_cons.mp h with rfl | h
      · exact absurd rfl hj
      · exact wipeF_in h
theorem wipeF_out : ∀ {vs : List Nat} {fps : List (List Addr)} {j : Nat}, j ∉ vs → (wipeF vs fps).getD j [] = fps.getD j []
  | [], fps, j, _ => rfl
  | v :: vs, fps, j, h => by
    simp only [List.mem_cons, not_or] at h
    simp only [wipeF]
    rw [getD_set_ne (Ne.symm h.1), wipeF_out h.2]
theorem subP_set (fps : List (List Addr)) (v : Nat) : SubP (fps.set v []).flatten fps.flatten := by
  by_cases h : v < fps.length
  · exact SubP.trans (SubP.right (fps.getD v []) _) (.of_perm (flat_split fps v h).symm)
  · rw [List.set_eq_of_length_le (by omega)]
    exact SubP.refl _
theorem wipeF_sub : ∀ (vs : List Nat) (fps : List (List Addr)), SubP (wipeF vs fps).flatten fps.flatten
  | [], fps => SubP.refl _
  | v :: vs, fps => by
    simp only [wipeF]
    exact SubP.trans (subP_set _ v) (wipeF_sub vs fps)
/-- values in flight that are named elsewhere, left out -/
def hide : List (V × Tm) → List (V × Tm)
  | [] => []
  | (v, .own d fp) :: ts => (v, .own d fp) :: hide ts
  | (_, .ref _) :: ts => hide ts
theorem hide_noRefs : ∀ (ts : List (V × Tm)), NoRefs (hide ts)
  | [] => fun _ h => nomatch h
  | (v, .own d fp) :: ts => fun t ht i => by
    rcases List.mem_cons.mp ht with rfl | ht
    · intro z; cases z
    · exact hide_noRefs ts t ht i
  | (_, .ref _) :: ts => fun t ht i => hide_noRefs ts t (by simpa only [hide] using ht) i
theorem hide_tfp : ∀ (ts : List (V × Tm)), tfp (hide ts) = tfp ts
  | [] => rfl
  | (v, .own d fp) :: ts => by simp only [hide, tfp, hide_tfp ts]
  | (_, .ref _) :: ts => by simp only [hide, tfp, hide_tfp ts, Tm.fp, List.nil_append]
theorem hide_sub : ∀ {ts : List (V × Tm)} {t : V × Tm}, t ∈ hide ts → t ∈ ts
  | [], _, h => nomatch h
  | (v, .own d fp) :: ts, t, h => by
    rcases List.mem_cons.mp h with rfl | h
    · exact List.mem_cons_self ..
    · exact List.mem_cons_of_mem _ (hide_sub h)
  | (_, .ref _) :: ts, t, h => List.mem_cons_of_mem _ (hide_sub (by simpa only [hide] using h))
theorem hide_or : ∀ {ts : List (V × Tm)} {t : V × Tm}, t ∈ ts → (∃ i, t.2 = .ref i) ∨ t ∈ hide ts
  | (v, .own d fp) :: ts, t, h => by
    rcases List.mem_cons.mp h with rfl | h
    · exact .inr (List.mem_cons_self ..)
    · rcases hide_or h with h | h
      · exact .inl h
      · exact .inr (List.mem_cons_of_mem _ h)
  | (_, .ref i) :: ts, t, h => by
    rcases List.mem_cons.mp h with rfl | h
    · exact .inl ⟨i, rfl⟩
    · rcases hide_or h with h | h
      · exact .inl h
      · exact .inr (by simpa only [hide] using h)
theorem ok_noRef {t : V × Tm} {σ σ' : L2.St} (hr : ∀ i, t.2 ≠ .ref i) (h : TmOk K F H σ t) : TmOk K F H σ' t := by
  unfold TmOk at h ⊢
  cases e : t.2 with
  | own d fp => rw [e] at h; exact h
  | ref i => exact absurd e (hr i)
theorem Sta.wipe (S : Sta K B lk F H σ ρ fps ts) (hn : NoRefs ts) (vs : List Nat) : Sta K B [] F H (L2.wipe σ vs) (wipeE vs ρ) (wipeF vs fps) ts := by
  refine ⟨S.own.less (SubP.app (wipeF_sub vs fps) _), ?_, ?_, fun j d e => ?_, fun t ht => ok_noRef (hn t ht) (S.temps t ht), fun p hp => nomatch hp⟩
  · rw [wipe_length, wipeE_length, S.len]
  · rw [wipeF_length, wipeE_length, S.lenF]
  · obtain ⟨h1, h2⟩ := wipeE_some e
    obtain ⟨v, h3, r⟩ := S.slots j d h1
    refine ⟨v, ?_, by rw [wipeF_out h2]; exact r⟩
    rw [wipe_out h2]
    exact h3
theorem Sta.hide (S : Sta K B lk F H σ ρ fps ts) : Sta K B lk F H σ ρ fps (Mi.hide ts) :=
  ⟨by rw [hide_tfp]; exact S.own, S.len, S.lenF, S.slots, fun t ht => S.temps t (hide_sub ht), S.locks⟩
theorem Sta.unwipe {ρ1 : Env} {vs : List Nat} {us : List (V × Tm)} (S : Sta K B [] F H (L2.wipe σ vs) (wipeE vs ρ) fps (us ++ Mi.hide ts)) (hl : ρ1.length = ρ.length) (hu : NoRefs us)
    (hs : ∀ i d, i ∈ vs → getE ρ1 i = some d → ∃ v, σ[i]? = some (some v) ∧ Rep K F H d v []) (ht : ∀ t ∈ ts, ∀ i, t.2 = .ref i → σ[i]? = some (some t.1)) (hk : ∀ p ∈ lk, σ[p.1]? = some (some p.2)) :
    Sta K B lk F H σ (backE ρ1 vs ρ) (wipeF vs fps) (us ++ ts) := by
  refine ⟨?_, ?_, ?_, fun j d e => ?_, fun t h => ?_, hk⟩
  · have := S.own.less (SubP.app (wipeF_sub vs fps) _)
    rw [tfp_app, hide_tfp] at this
    rw [tfp_app]
    exact this
  · have := S.len
    rw [wipe_length, wipeE_length] at this
    rw [backE_length, this]
  · have := S.lenF
    rw [wipeE_length] at this
    rw [wipeF_length, backE_length, this]
  · rcases backE_some e with ⟨h1, h2⟩ | ⟨h1, h2⟩
    · obtain ⟨v, h3, r⟩ := hs j d h1 h2
      exact ⟨v, h3, by rw [wipeF_in h1]; exact r⟩
    · have e2 : getE (wipeE vs ρ) j = some d := by
        clear S hs hl e
        induction vs with
        | nil => exact h2
        | cons v vs ih =>
          simp only [List.mem_cons, not_or] at h1
          simp only [wipeE]
          rw [getE_set_ne (Ne.symm h1.1)]
          exact ih h1.2
      obtain ⟨v, h3, r⟩ := S.slots j d e2
      exact ⟨v, (wipe_some h3).1, by rw [wipeF_out h1]; exact r⟩
  · rcases List.mem_append.mp h with h | h
    · exact ok_noRef (hu t h) (S.temps t (List.mem_append_left _ h))
    · rcases hide_or h with ⟨i, e⟩ | h'
      · have := ht t h i e
        unfold TmOk
        rw [e]
        exact this
      · exact ok_noRef (hide_noRefs ts t h') (S.temps t (List.mem_append_right _ h'))
theorem wipe_agree {σ σ' : L2.St} {js : List Nat} : ∀ {vs : List Nat}, Agree (L2.wipe σ vs) σ' js → (∀ j ∈ js, j ∈ vs) → L2.wipe σ' vs = L2.wipe σ vs := by
  intro vs h hj
  refine List.ext_getElem? fun j => ?_
  by_cases hv : j ∈ vs
  · have h1 : ∀ (τ : L2.St), τ.length = σ.length → (L2.wipe τ vs)[j]? = if j < σ.length then some none else none := by
      intro τ hl
      split
      · rename_i hlt
        have : j < (L2.wipe τ vs).length := by rw [wipe_length, hl]; exact hlt
        cases q : (L2.wipe τ vs)[j]? with
        | none => rw [List.getElem?_eq_none_iff] at q; omega
        | some x =>
          cases x with
          | none => rfl
          | some y => exact absurd hv (wipe_some q).2
      · rename_i hlt
        rw [List.getElem?_eq_none (by rw [wipe_length, hl]; omega)]
    rw [h1 σ rfl, h1 σ' (by rw [h.1, wipe_length])]
  · rw [wipe_out hv, h.2 j fun z => hv (hj j z)]
/-! ### comprehensions -/
def tIfs (K : PySem.W.Frag) (Φ : Fns) (E : XK) (es : List IE) : TT := fun σ H Q => ∃ B lk F ρ fps ts, Sta K B lk F H σ ρ fps ts ∧
  Out (XC K E B lk σ) (evIfs Φ es ρ) fun b ρ' => ∀ F' H' fps', Sta K B lk F' H' σ ρ' fps' ts → Q b H'
theorem t_ifs0 {Q : Bool → Hp → Prop} (h : tIfs K Φ E [] σ H Q) : tYes σ H Q := by
  obtain ⟨B, lk, F, ρ, fps, ts, S, o⟩ := h
  exact o F H fps S
theorem t_ifs1 {e : IE} {Q : Bool → Hp → Prop} (h : tIfs K Φ E [e] σ H Q) : tT K Φ E e σ H Q := by
  obtain ⟨B, lk, F, ρ, fps, ts, S, o⟩ := h
  simp only [evIfs] at o
  rw [out_bind] at o
  refine ⟨B, lk, F, ρ, fps, ts, S, o.imp fun d ρ' q => ?_⟩
  cases d <;> try exact q.elim
  rename_i b
  refine ⟨b, rfl, ?_⟩
  cases b with
  | true => exact q
  | false => exact q
theorem PTs.imp {ifs : List Expr} {t t' : TT} (h : PTs X ifs t) (hi : ∀ σ H Q, t' σ H Q → t σ H Q) : PTs X ifs t' := ⟨fun pins s σ H Q I q => h.run pins s σ H Q I (hi σ H Q q)⟩
theorem out_step {x x' : Nat → D → Env → Prop} {r : R (Option D)} {A : D → Env → R (List D)} {C : Env → R (List D)} {k : List D → Env → Prop} (h : Out x (match r with
    | .ok (some e) ρ1 => A e ρ1
    | .ok none ρ1 => C ρ1
    | .exc _ _ _ => .stk
    | .stk => .stk) k) : Out x' r fun o ρ1 => match o with
      | some e => Out x (A e ρ1) k
      | none => Out x (C ρ1) k := by
  cases r with
  | ok o ρ1 => cases o <;> exact h
  | exc _ _ _ => exact h.elim
  | stk => exact h
/-- a value in flight goes to the end of a list in flight -/
theorem Sta.writeT {ds : List D} {a : Addr} {f g : List Addr} {v : V} {e : D} (S : Sta K B lk F H σ ρ fps ((v, .own e g) :: (.ref a, .own (.lst true ds) f) :: ts)) :
    ∃ vs f', H a = some (.lst vs) ∧ vs.length = ds.length ∧ Sta K B lk F (upd H a (.lst (vs ++ [v]))) σ ρ fps ((.ref a, .own (.lst true (ds ++ [e])) f') :: ts) := by
  have r1 : Rep K F H e v g := S.temps _ (List.mem_cons_self ..)
  have r2 : Rep K F H (.lst true ds) (.ref a) f := S.temps (.ref a, .own (.lst true ds) f) (by simp)
  simp only [Rep] at r2
  obtain ⟨a', vs, f0, ea, hH, rl, rfl⟩ := r2
  cases ea
  have hperm : (tfp ((v, .own e g) :: (.ref a, .own (.lst true ds) (a :: f0)) :: ts) ++ fps.flatten).Perm (a :: ((f0 ++ g) ++ (tfp ts ++ fps.flatten))) := by
    simp only [tfp, Tm.fp]
    rw [List.append_assoc, List.append_assoc]
    refine (List.perm_append_comm (l₁ := g)).trans ?_
    simp only [List.cons_append, List.append_assoc]
    refine List.Perm.cons a ?_
    refine List.Perm.append_left f0 ?_
    rw [← List.append_assoc]
    exact List.perm_append_comm
  have o0 := S.own.perm hperm.symm
  have o1 := o0.write (a := a) (List.mem_cons_self ..) (vs ++ [v])
  have hn : a ∉ (f0 ++ g) ++ (tfp ts ++ fps.flatten) := (List.nodup_cons.mp o0.nodup).1
  have keepH : ∀ b ∈ (f0 ++ g) ++ (tfp ts ++ fps.flatten), upd H a (.lst (vs ++ [v])) b = H b := fun b hb => upd_ne fun z => hn (z ▸ hb)
  refine ⟨vs, a :: (f0 ++ g), hH, RepL.length _ _ _ rl, ?_, S.len, S.lenF, fun j d e => ?_, fun t ht => ?_, S.locks⟩
  · simpa [tfp, Tm.fp] using o1
  · obtain ⟨w, e1, r⟩ := S.slots j d e
    exact ⟨w, e1, Rep.mono (Same.refl _) _ _ _ (fun b hb => keepH b (List.mem_append_right _ (List.mem_append_right _ (getD_mem hb)))) r⟩
  · rcases List.mem_cons.mp ht with rfl | ht
    · show Rep K F _ (.lst true (ds ++ [e])) (.ref a) _
      simp only [Rep]
      refine ⟨a, vs ++ [v], f0 ++ g, rfl, upd_same, ?_, rfl⟩
      refine RepL.app (RepL.mono (Same.refl _) _ _ _ (fun b hb => keepH b (List.mem_append_left _ (List.mem_append_left _ hb))) rl) ?_
      simp only [RepL]
      exact ⟨v, [], g, [], rfl, Rep.mono (Same.refl _) _ _ _ (fun b hb => keepH b (List.mem_append_left _ (List.mem_append_right _ hb))) r1, ⟨rfl, rfl⟩, by simp⟩
    · exact TmOk.mono (Same.refl _) (h := S.temps t (by simp [ht])) fun b hb => keepH b (List.mem_append_right _ (List.mem_append_left _ (tfp_mem ht hb)))
/-- a stretch of a body by itself -/
theorem Sta.rebase (S : Sta K B lk F H σ ρ fps ts) : Sta K ⟨F, H, tfp ts ++ fps.flatten⟩ lk F H σ ρ fps ts :=
  ⟨⟨S.own.sub, Same.refl _, fun b o e _ => e, fun a ha => .inl ha, fun b o e => .inl e, S.own.nodup, S.own.disj, S.own.live⟩, S.len, S.lenF, S.slots, S.temps, S.locks⟩
theorem Sta.unbase {all : List Addr} (o : OwnOk B F H all) (S : Sta K ⟨F, H, all⟩ lk F' H' σ ρ fps ts) : Sta K B lk F' H' σ ρ fps ts := by
  have o1 : OwnOk B F H (all ++ []) := by simpa using o
  have o2 := (o1.call S.own).1
  exact ⟨by simpa using o2, S.len, S.lenF, S.slots, S.temps, S.locks⟩
theorem t_lc {vs : List Nat} {tg : Tg} {it : It} {ifs : List IE} {elt : IE} (hv : ∀ j ∈ slotsT tg, j ∈ vs) (h : tI K Φ E (.lc vs tg it ifs elt) σ H Q) :
    tLc (tIt K Φ E it) (tG K [] tg) (tIfs K Φ noX ifs) (tI K Φ noX elt) vs σ H Q := by
  obtain ⟨B, lk, F, ρ, fps, ts, S, o⟩ := h
  simp only [ev] at o
  rw [out_bind] at o
  refine ⟨B, lk, F, ρ, fps, ts, S, o.imp fun ds ρ1 q J F1 H1 fps1 hJ S1 => ?_⟩
  split at q
  · rename_i hz
    obtain ⟨hz, hu⟩ := hz
    rw [out_bind] at q
    intro Da hD
    let step : D → Env → R (Option D) := fun d ρ2 => match bindT [] tg d (wipeE vs ρ2) with
        | some ρ3 => (evIfs Φ ifs ρ3).bind fun b ρ4 => match b with
          | true => (ev Φ elt ρ4).bind fun e ρ5 => .ok (some e) ρ5
          | false => .ok none ρ4
        | none => .stk
    let B2 : Bs := ⟨F1, H1, tfp ts ++ fps1.flatten⟩
    have S1b : Sta K B2 lk F1 H1 σ ρ1 fps1 ts := S1.rebase
    let k2 : List D → Env → Prop := fun es ρ6 => ∀ v fp F' H' fps', Sta K B lk F' H' σ (backE ρ1 vs ρ6) fps' ((v, .own (.lst true es) fp) :: ts) → Q v H'
    have q : Out (XC K E B lk σ) (lcLoop step ds [] ρ1) k2 := q
    refine ⟨fun i m H => m = ds.length - i ∧ i ≤ ds.length ∧ ∃ F' acc ρ2 fps' fpD, Same F1 F' ∧ acc.length ≤ i ∧ ρ2.length = ρ1.length ∧
      Sta K B2 [] F' H (L2.wipe σ vs) (wipeE vs ρ2) fps' ((.ref Da, .own (.lst true acc.reverse) fpD) :: Mi.hide ts) ∧ Out (XC K E B lk σ) (lcLoop step (ds.drop i) acc ρ2) k2, ⟨ds.length, by omega, by omega, F1, [], ρ1, wipeF vs fps1, [Da], Same.refl _, Nat.le_refl _, rfl, ?_, ?_⟩, ?_⟩
    · have S2 := S1b.hide
      have ow := S2.own.list hD []
      have keep : ∀ a ∈ tfp (Mi.hide ts) ++ fps1.flatten, upd H1 Da (.lst []) a = H1 a := fun a ha => upd_ne fun z => (List.nodup_cons.mp ow.nodup).1 (z ▸ ha)
      have S3 : Sta K B2 lk F1 (upd H1 Da (.lst [])) σ ρ1 fps1 ((.ref Da, .own (.lst true []) [Da]) :: Mi.hide ts) := by
        refine Sta.pushOwn (Sta.mono (all := []) S2 (Same.refl _) keep (ow.less ?_)) (by simpa using ow) ?_
        · exact SubP.right [Da] _
        · simp only [Rep]
          exact ⟨Da, [], [], rfl, upd_same, by simp [RepL], rfl⟩
      exact S3.wipe (fun t ht i => by
        rcases List.mem_cons.mp ht with rfl | ht
        · intro z; cases z
        · exact hide_noRefs ts t ht i) vs
    · simpa using q
    rintro i m H2 ⟨rfl, hi, F2, acc, ρ2, fps2, fpD, sF, hacc, hlen, S2, w⟩
    by_cases hlt : i < ds.length
    · refine .inr ⟨hJ.go i F2 H2 sF S2.own.sub hlt, fun H' => i + 1 ≤ ds.length ∧ ∃ F' acc ρ2 fps' fpD, Same F1 F' ∧ acc.length ≤ i + 1 ∧ ρ2.length = ρ1.length ∧
        Sta K B2 [] F' H' (L2.wipe σ vs) (wipeE vs ρ2) fps' ((.ref Da, .own (.lst true acc.reverse) fpD) :: Mi.hide ts) ∧ Out (XC K E B lk σ) (lcLoop step (ds.drop (i + 1)) acc ρ2) k2, fun H' nx => ⟨ds.length - (i + 1), by omega, rfl, nx⟩, fun x H3 hy => ?_⟩
      obtain ⟨F3, pr⟩ := hJ.yld i F2 H2 x H3 (ds[i]'hlt) sF S2.own.sub hy (by simp [hlt])
      have S3 := S2.push pr
      have ed : ds.drop i = ds[i]'hlt :: ds.drop (i + 1) := by rw [← List.drop_eq_getElem_cons hlt]
      rw [ed] at w
      simp only [lcLoop] at w
      have w1 := fun x' => out_step (x' := x') w
      simp only [step] at w1
      cases e1 : bindT [] tg (ds[i]'hlt) (wipeE vs ρ2) with
      | none => simp only [e1] at w1; exact (w1 fun _ _ _ => False).elim
      | some ρ3 =>
        simp only [e1] at w1
        have nr : NoRefs ((.ref Da, .own (.lst true acc.reverse) fpD) :: Mi.hide ts) := fun t ht i => by
          rcases List.mem_cons.mp ht with rfl | ht
          · intro z; cases z
          · exact hide_noRefs ts t ht i
        refine ⟨B2, [], F3, _, _, _, _, _, S3, fun p hp => (nomatch hp), nr, ρ3, e1, fun σ' fps' S4 ag => ⟨wipe_agree ag hv, ?_⟩⟩
        have hw := wipe_agree ag hv
        have w1 := w1 (XC K noX B2 [] σ')
        have sF3 : Same F1 F3 := Same.trans sF pr.fF
        rw [out_bind] at w1
        have hl3 : ρ3.length = ρ1.length := by rw [← S4.len, ag.1, wipe_length, S1.len]
        refine ⟨B2, [], F3, ρ3, fps', _, S4, w1.imp fun b ρ4 w2 F4 H4 fps4 S5 => ?_⟩
        have grow4 : Same F1 F4 := S5.own.base
        have hl4 : ρ4.length = ρ1.length := by rw [← S5.len, ag.1, wipe_length, S1.len]
        cases b with
        | false =>
          simp only [Bool.false_eq_true, if_false]
          refine ⟨hlt, F4, acc, ρ4, wipeF vs fps4, fpD, grow4, by omega, hl4, ?_, w2⟩
          have := S5.wipe nr vs
          rw [hw] at this
          exact this
        | true =>
          simp only [if_true]
          simp only at w2
          rw [out_bind] at w2
          refine ⟨B2, [], F4, ρ4, fps4, _, S5, w2.imp fun e ρ5 w3 y fp F5 H5 fps5 S6 => ?_⟩
          have grow5 : Same F1 F5 := S6.own.base
          have hl5 : ρ5.length = ρ1.length := by rw [← S6.len, ag.1, wipe_length, S1.len]
          obtain ⟨accV, f', hD5, hlV, S7⟩ := S6.writeT
          rw [List.length_reverse] at hlV
          refine ⟨accV, hD5, ?_, hlt, F5, e :: acc, ρ5, wipeF vs fps5, f', grow5, by simp; omega, hl5, ?_, w3⟩
          · rw [hlV, ← SZ_eq]; omega
          · have := S7.wipe (fun t ht i => by
              rcases List.mem_cons.mp ht with rfl | ht
              · intro z; cases z
              · exact hide_noRefs ts t ht i) vs
            rw [hw] at this
            rw [List.reverse_cons]
            exact this
    · have hie : i = ds.length := by omega
      subst hie
      refine .inl ⟨hJ.stop _ F2 H2 sF S2.own.sub rfl, ?_⟩
      rw [List.drop_length] at w
      simp only [lcLoop] at w
      have w : k2 acc.reverse ρ2 := w
      refine w (.ref Da) fpD F2 H2 _ (Sta.unbase S1.own (Sta.unwipe (us := [(.ref Da, .own (.lst true acc.reverse) fpD)]) S2 hlen.symm (fun t ht i => ?_) (fun j d hj e => ?_) (fun t ht j e => ?_) S1.locks))
      · rcases List.mem_cons.mp ht with rfl | ht
        · intro z; cases z
        · cases ht
      · obtain ⟨v, h1, r⟩ := S1.slots j d e
        have ho : d.own = false := by
          unfold unowned at hu
          have := List.all_eq_true.mp hu j hj
          rw [e] at this
          simpa using this
        refine ⟨v, h1, Rep.mono sF _ _ _ (fun _ h => nomatch h) (Rep.nil ho r)⟩
      · have := S1.temps t ht
        unfold TmOk at this
        rw [e] at this
        exact this
  · exact q.elim
end Mi
end

section
set_option Elab.async false
set_option linter.all false
set_option maxRecDepth 100000
/-! enumerate and zip, over lists and tuples in any mix. -/
namespace Mi
open PySem PySem.Spec PyProof.Rows L2
open AutoSeq1 (wpAny_loadPart')
variable {K : PySem.W.Frag} {Φ : Fns} {E : XK} {B : Bs} {lk : List (Nat × V)} {F F' H H' : Hp} {σ : L2.St} {ρ : Env} {fps : List (List Addr)} {ts : List (V × Tm)} {Q : VK} {X : Cx}

def SqB (k : Bool) (K : PySem.W.Frag) (H : Hp) (a : Addr) (xs : List V) : Prop := match k with
  | true => SqL K H a xs
  | false => SqT K H a xs
def itB (k : Bool) (h : Heap) (it a : Addr) (i : Nat) : Prop := match k with
  | true => h.IsListIter it a i
  | false => h.IsTupleIter it a i
def obB (k : Bool) (h : Heap) (a : Addr) (items : Array Value) : Prop := match k with
  | true => h.IsList a items
  | false => h.IsTuple a items
theorem drawsB {prog : Program} {w : World} {A : Around} (k : Bool) (hh : A.handled = none) (it l : Addr) (hne : l ≠ it) (items : Array Value) :
    Draws prog w A it [it, l] items.size (fun i v => items[i]? = some v) (fun i h => itB k h it l i ∧ obB k h l items) := by
  cases k with
  | true => exact Draws.list hh it l hne items
  | false => exact Draws.tuple hh it l hne items
def itO (k : Bool) (a : Addr) : Obj := match k with
  | true => { cls := .type "list_iterator", data := .fields #[.ref a, .int 0 0] }
  | false => { cls := .type "tuple_iterator", data := .fields #[.ref a, .int 0 0] }
theorem beginsB (k : Bool) (l : Addr) (items : Array Value) : Begins (.ref l) (itO k l) fun h => obB k h l items := by
  cases k with
  | true => exact begins_list l items
  | false => exact begins_tuple l items
theorem itB_at {k : Bool} {h h' : Heap} {it a : Addr} {i : Nat} (x : itB k h it a i) (hk : ∀ o, h.get? it = some o → h'.get? it = some o) : itB k h' it a i := by
  cases k with
  | true => exact Heap.IsListIter.at x hk
  | false => exact Heap.IsTupleIter.at x hk
theorem itB_obj {k : Bool} {h : Heap} {it a : Addr} {i : Nat} (x : itB k h it a i) : ∃ o, h.get? it = some o ∧ ∀ v, o.data ≠ .cell v := by
  cases k with
  | true =>
    obtain ⟨o, ho, hc, hd⟩ := x
    exact ⟨o, ho, fun v q => by rw [hd] at q; cases q⟩
  | false =>
    obtain ⟨o, ho, hc, hd⟩ := x
    exact ⟨o, ho, fun v q => by rw [hd] at q; cases q⟩
theorem itB_new {k : Bool} {h : Heap} {it a : Addr} (x : h.get? it = some (itO k a)) : itB k h it a 0 := by
  cases k with
  | true => exact ⟨_, x, rfl, rfl⟩
  | false => exact ⟨_, x, rfl, rfl⟩
theorem srcB {k : Bool} {pins : List (Addr × Obj)} {s : Shared} {a : Addr} {xs : List V} (I : Inv X pins σ H s) (hq : SqB k X.K H a xs) : ∃ its : List Value, Vals xs its ∧ obB k s.heap a its.toArray ∧ a < s.heap.objs.size := by
  cases k with
  | true =>
    obtain ⟨its, rv, p, _⟩ := I.list hq
    exact ⟨its, rv, p.isList, p.lt⟩
  | false =>
    obtain ⟨its, rv, p, _⟩ := I.tuple hq
    have hp : s.heap.IsTuple a its.toArray := p
    obtain ⟨o, ho, _⟩ := hp
    exact ⟨its, rv, p, Heap.lt_size ho⟩
theorem SqB.mono {k : Bool} {a : Addr} {xs : List V} (e : Same H H') (h : SqB k K H a xs) : SqB k K H' a xs := by
  cases k with
  | true => exact Same.seq e h
  | false => exact Same.seqT e h
/-! ### enumerate -/
def ItE (K : PySem.W.Frag) (k : Bool) (a : Addr) (xs : List V) : L2.It :=
  ⟨fun i H => SqB k K H a xs ∧ i < xs.length, fun i H v H' => ∃ T x, v = .ref T ∧ H T = none ∧ H' = upd H T (.tup [.int (i : Nat), x]) ∧ xs[i]? = some x, fun i H => SqB k K H a xs ∧ xs.length = i⟩
theorem turn_enumB {P : Program} {w : World} {elts : List Expr} {kk : Nat} {tpos : Pos} (k : Bool) (a e it : Addr) (xs : List V) (hea : e ≠ a) (hia : it ≠ a) (hne : e ≠ it) :
    Turn P w K (.Tuple elts kk tpos) (ItE K k a xs) [e, it] e (fun i h => (∃ old, IsEnum h e it ((i : Nat) : Int) old) ∧ itB k h it a i) where
  mem := by simp
  obj := fun i h st b hb => by
    obtain ⟨⟨old, he⟩, hi⟩ := st
    have e' : b = e ∨ b = it := by simpa using hb
    rcases e' with z | z
    · rw [z]; exact ⟨_, he, fun v q => nomatch q⟩
    · rw [z]; exact itB_obj hi
  keep := fun i h h' st k => let ⟨⟨old, he⟩, hi⟩ := st; ⟨⟨old, k e (by simp) _ he⟩, itB_at hi fun o q => k it (by simp) o q⟩
  item := by
    intro X hP hw hK hc i pins s σ H E I hf st hg
    subst hP hw hK
    obtain ⟨⟨old, he⟩, hit⟩ := st
    obtain ⟨hq, hx⟩ := hg
    obtain ⟨its, rv, p, hz⟩ := srcB I hq
    have hl := rv.length
    have hel : e < s.heap.objs.size := Heap.lt_size he
    have hil : it < s.heap.objs.size := by obtain ⟨_, q, _⟩ := itB_obj hit; exact Heap.lt_size q
    have W := GoesN.enumFrom (prog := X.prog) (w := X.w) (A := X.A) (elts := elts) (x1 := kk) (pos := tpos) 0 (drawsB (prog := X.prog) (w := X.w) (A := X.A.in1) k (I.ok.hd hc) it a (Ne.symm hia) its.toArray) e hne (by simp [hne, hea]) (by simp)
    refine W.goes i s _ E (by simp; omega) ⟨⟨old, by rw [Int.zero_add]; exact he⟩, hit, p⟩ fun v h' tk hY hst hk htk => ?_
    obtain ⟨T, t, u, ev, hT, hu, hTu⟩ := hY
    obtain ⟨⟨old', he'⟩, hit', _⟩ := hst
    subst ev
    have hu : its.toArray[i]? = some u := hu
    have hu : its[i]? = some u := by simpa using hu
    obtain ⟨x, ex, ru⟩ : ∃ x, xs[i]? = some x ∧ RelV x u := by
      obtain ⟨u', hu', ru⟩ := rv.get (List.getElem?_eq_getElem hx)
      rw [hu] at hu'
      cases hu'
      exact ⟨_, by simp [hx], ru⟩
    have new : ObjOk X.prog X.w (upd H T (.tup [.int (i : Nat), x])) h' T (.tup [.int (i : Nat), x]) :=
      ⟨by show 2 ≤ sizeLine; decide, [.int (0 + (i : Int)) t, u], .cons ⟨t, by rw [Int.zero_add]⟩ (.cons ru .nil), hTu⟩
    have I1 : Inv X pins σ (upd H T (.tup [.int (i : Nat), x])) { s with heap := h', toks := tk } :=
      I.turnedNew (ch := [e, it]) (fun b ob hb q => hk b ob hb q) hf hT new
    refine ⟨.ref T, _, I1, rfl, ⟨T, x, rfl, I.hok.fresh hT, rfl, ex⟩, ⟨⟨old', ?_⟩, hit'⟩, fun b hb => ?_⟩
    · rw [Int.zero_add] at he'
      exact he'
    · have hb' : b < s.heap.objs.size := by
        have e' : b = e ∨ b = it := by simpa using hb
        rcases e' with z | z
        · rw [z]; exact hel
        · rw [z]; exact hil
      rw [upd_ne (Nat.ne_of_lt (Nat.lt_of_lt_of_le hb' hT))]
      exact (hf b hb).1
  done := by
    intro X hP hw hK hc i pins s σ H E I hf st hg
    subst hP hw hK
    obtain ⟨⟨old, he⟩, hit⟩ := st
    obtain ⟨hq, hx⟩ := hg
    obtain ⟨its, rv, p, hz⟩ := srcB I hq
    have hl := rv.length
    have W := GoesN.enumFrom (prog := X.prog) (w := X.w) (A := X.A) (elts := elts) (x1 := kk) (pos := tpos) 0 (drawsB (prog := X.prog) (w := X.w) (A := X.A.in1) k (I.ok.hd hc) it a (Ne.symm hia) its.toArray) e hne (by simp [hne, hea]) (by simp)
    have hn : its.toArray.size = i := by simp; omega
    refine W.stops s (fun s1 => Inv X pins σ H s1) E ?_ fun h' tk hk htk => I.turnedL (t' := tk) (ch := [e, it]) (fun b o hb q => hk b o hb q) hf
    rw [hn]
    exact ⟨⟨old, by rw [Int.zero_add]; exact he⟩, hit, p⟩
  self := fun A i s Q E st h => let ⟨⟨_, he⟩, _⟩ := st; wpAny_pyIter_enum he h
set_option maxHeartbeats 1000000 in
theorem meets_enumerate_newB1 {v : Value} {o : Obj} {H : Heap → Prop} (B : Begins v o H) :
    Meets (Builtin.«enumerate.__new__» ⟨[.type "enumerate", v], []⟩) (fun _ R s => H s.heap ∧
      R (.ok (.ret (.ref (s.heap.push o).objs.size))) { s with heap := (s.heap.push o).push { cls := .type "enumerate", data := .fields #[.none, .bool false, .ref s.heap.objs.size, rawInt 0, .none, .none] } }) :=
  .of_wp fun prog w A R s h => by
    obtain ⟨hp, g, d, tk, os⟩ := s; obtain ⟨h1, h⟩ := h
    have hsub := sub_enumerate
    have q1 : ∀ {A' : Around} {E : Value → Shared → Prop} {Q : Value → Shared → Prop}, Q (.ref hp.objs.size) ⟨hp.push o, g, d, tk, os⟩ → wpAny (model prog w) A' (pyIter v) Q E ⟨hp, g, d, tk, os⟩ :=
      fun q => B.iter prog w _ _ ⟨hp, g, d, tk, os⟩ _ h1 q
    wp_walk using q1
    refine wpAny_stack_any fun st => wpAny_pure ?_
    split
    · rename_i c _ _ _ _ _
      cases (c == Value.type "enumerate")
      · wp_walk using q1
        exact ⟨_, rfl, h⟩
      · wp_walk using q1
        exact ⟨_, rfl, h⟩
    · wp_walk using q1
      exact ⟨_, rfl, h⟩
theorem enum_begins1 {prog : Program} {w : World} {A : Around} {E : Value → Shared → Prop} {s : Shared} {v : Value} {o : Obj} {H : Heap → Prop} {Q : Value → Shared → Prop} (B : Begins v o H) (h1 : H s.heap)
    (h : ∀ h', IsEnum h' (s.heap.objs.size + 1) s.heap.objs.size 0 .none → h'.get? s.heap.objs.size = some o → h'.objs.size = s.heap.objs.size + 2 →
      (∀ b o, s.heap.get? b = some o → h'.get? b = some o) → Q (.ref (s.heap.objs.size + 1)) { s with heap := h' }) :
    wpAny (model prog w) A (call (.type "enumerate") [v]) Q E s := by
  refine callType_new F.called_enumerate (by decide) (F.typeCall_enumerate_1 _) (F.newCall_enumerate_1 _) (fun obj => F.args_object_init_2 obj _) F.entry_enumerate_new
    (meets_enumerate_newB1 B) ⟨h1, ?_⟩
  have hz : (s.heap.push o).objs.size = s.heap.objs.size + 1 := Heap.size_push ..
  show _ ∧ _
  rw [hz]
  have he : IsEnum ((s.heap.push o).push { cls := .type "enumerate", data := .fields #[.none, .bool false, .ref s.heap.objs.size, rawInt 0, .none, .none] }) (s.heap.objs.size + 1) s.heap.objs.size 0 .none := by
    have := Heap.get?_push_size (s.heap.push o) (o := { cls := .type "enumerate", data := .fields #[.none, .bool false, .ref s.heap.objs.size, rawInt 0, .none, .none] }) rfl
    rw [hz] at this; exact this
  refine ⟨⟨_, he, rfl⟩, h _ he (Heap.get?_push_of_some _ (Heap.get?_push_size _ B.free)) (by rw [Heap.size_push, hz]) fun b o x => Heap.get?_push_of_some _ (Heap.get?_push_of_some _ x)⟩
def iEnB (K : PySem.W.Frag) (ta : TA) : TI := fun σ H R => ta σ H fun vs H1 => ∃ k a xs, vs = [.ref a] ∧ SqB k K H1 a xs ∧ R (ItE K k a xs) H1
theorem pi_enumB {e : Expr} {ta : TA} {p pos tpos : Pos} {elts : List Expr} {kk : Nat} (hg : Gl X "enumerate") (hm : X.mg "enumerate" = none) (ha : PA X [e] ta) (hs : starEach [e] X.env = [(false, eval e X.env)] := by rfl) :
    PI X (.Tuple elts kk tpos) (.Call (.Name "enumerate" p) [e] [] pos) (iEnB X.K ta) := by
  refine ⟨fun pins s σ H R I h => ?_⟩
  refine Call_ (ld_blt I hg hm boot_enumerate (PyProof.Rows.callWith_type1 (thn (ha.run pos pins s σ H _ I h) fun us s1 ⟨vs, H1, I1, r1, q1⟩ => ?_) hs rfl))
  obtain ⟨k, a, xs, ex, hq, q⟩ := q1
  subst ex
  cases r1 with
  | cons r rr =>
    cases rr
    cases r
    obtain ⟨its, rv, p', hz⟩ := srcB I1 hq
    refine enum_begins1 (beginsB k a its.toArray) p' fun h' he hit hsz hk => wpAny_pyIter_enum he ?_
    have I2 : Inv X pins σ H1 { s1 with heap := h' } := I1.kept (t' := s1.toks) hk
    refine ⟨s1.heap.objs.size + 1, [s1.heap.objs.size + 1, s1.heap.objs.size], _, _, H1, rfl, I2, turn_enumB k a (s1.heap.objs.size + 1) s1.heap.objs.size xs (Nat.ne_of_gt (Nat.lt_succ_of_lt hz)) (Nat.ne_of_gt hz) (Nat.succ_ne_self _), ⟨⟨.none, he⟩, itB_new hit⟩, fun b hb => ?_, q⟩
    have e' : b = s1.heap.objs.size + 1 ∨ b = s1.heap.objs.size := by simpa using hb
    have hle : s1.heap.objs.size ≤ b := by
      rcases e' with z | z
      · rw [z]; exact Nat.le_add_right _ _
      · rw [z]; exact Nat.le_refl _
    exact I1.fpOk hle (I1.hok.fresh hle)
end Mi
end

section
set_option Elab.async false
set_option linter.all false
set_option maxRecDepth 100000
namespace Mi
open PySem PySem.Spec PyProof.Rows L2
variable {K : PySem.W.Frag} {Φ : Fns} {E : XK} {B : Bs} {lk : List (Nat × V)} {F F' H H' : Hp} {σ : L2.St} {ρ : Env} {fps : List (List Addr)} {ts : List (V × Tm)} {Q : VK} {X : Cx}
/-! ### zip -/
theorem sep2 (n a b : Nat) (ha : a < n) (hb : b < n) : ZipSep2 (n + 4) (n + 2) (n + 3) n (n + 1) [n, a] [n + 1, b] := by
  constructor <;> simp <;> (try unfold Addr at *) <;> (try omega)
theorem sep3 (n a b c : Nat) (ha : a < n) (hb : b < n) (hc : c < n) : ZipSep3 (n + 5) (n + 3) (n + 4) n (n + 1) (n + 2) [n, a] [n + 1, b] [n + 2, c] := by
  constructor <;> simp <;> (try unfold Addr at *) <;> (try omega)
theorem vals_at {xs : List V} {its : List Value} {i : Nat} {u : Value} (rv : Vals xs its) (hx : i < xs.length) (hu : its.toArray[i]? = some u) : ∃ x, xs[i]? = some x ∧ RelV x u := by
  have hu : its[i]? = some u := by simpa using hu
  obtain ⟨u', hu', ru⟩ := rv.get (List.getElem?_eq_getElem hx)
  rw [hu] at hu'
  cases hu'
  exact ⟨_, by simp [hx], ru⟩
def ItZ2 (K : PySem.W.Frag) (k1 : Bool) (a : Addr) (xs : List V) (k2 : Bool) (b : Addr) (ys : List V) : L2.It :=
  ⟨fun i H => SqB k1 K H a xs ∧ SqB k2 K H b ys ∧ i < xs.length ∧ i < ys.length, fun i H v H' => ∃ T x y, v = .ref T ∧ H T = none ∧ H' = upd H T (.tup [x, y]) ∧ xs[i]? = some x ∧ ys[i]? = some y,
    fun i H => SqB k1 K H a xs ∧ SqB k2 K H b ys ∧ min xs.length ys.length = i⟩
theorem turn_zipB {P : Program} {w : World} {elts : List Expr} {kk : Nat} {tpos : Pos} {k1 k2 : Bool} {a b z TI TO i1 i2 : Addr} {xs ys : List V} (D : ZipSep2 z TI TO i1 i2 [i1, a] [i2, b]) (h1a : a ≠ i1) (h2b : b ≠ i2) :
    Turn P w K (.Tuple elts kk tpos) (ItZ2 K k1 a xs k2 b ys) [z, TI, TO, i1, i2] z (fun i h => IsZip h z TI TO .none ∧ IsTupOf2 h TI (.ref i1) (.ref i2) ∧ (∃ a1 a2, IsTupOf2 h TO a1 a2) ∧ itB k1 h i1 a i ∧ itB k2 h i2 b i) where
  mem := by simp
  obj := fun i h st c hc => by
    obtain ⟨hz, hTI, ⟨x, y, hTO⟩, hi1, hi2⟩ := st
    have e' : c = z ∨ c = TI ∨ c = TO ∨ c = i1 ∨ c = i2 := by simpa using hc
    rcases e' with q | q | q | q | q
    · rw [q]; exact ⟨_, hz, fun v q => nomatch q⟩
    · rw [q]; exact ⟨_, hTI, fun v q => nomatch q⟩
    · rw [q]; exact ⟨_, hTO, fun v q => nomatch q⟩
    · rw [q]; exact itB_obj hi1
    · rw [q]; exact itB_obj hi2
  keep := fun i h h' st k => by
    obtain ⟨hz, hTI, ⟨x, y, hTO⟩, h1, h2⟩ := st
    exact ⟨k z (by simp) _ hz, k TI (by simp) _ hTI, ⟨x, y, k TO (by simp) _ hTO⟩, itB_at h1 fun o q => k i1 (by simp) o q, itB_at h2 fun o q => k i2 (by simp) o q⟩
  item := by
    intro X hP hw hK hc i pins s σ H E I hf st hg
    subst hP hw hK
    obtain ⟨hz, hTI, ⟨x0, y0, hTO⟩, hi1, hi2⟩ := st
    obtain ⟨hq1, hq2, hx1, hx2⟩ := hg
    obtain ⟨its1, rv1, p1, _⟩ := srcB I hq1
    obtain ⟨its2, rv2, p2, _⟩ := srcB I hq2
    have hl1 := rv1.length
    have hl2 := rv2.length
    have W := GoesN.zip2 (prog := X.prog) (w := X.w) (A := X.A) (elts := elts) (x1 := kk) (pos := tpos) D (drawsB (prog := X.prog) (w := X.w) (A := X.A.in1) k1 (I.ok.hd hc) i1 a h1a its1.toArray) (drawsB (prog := X.prog) (w := X.w) (A := X.A.in1) k2 (I.ok.hd hc) i2 b h2b its2.toArray)
    refine W.goes i s _ E (by simp; omega) ⟨hz, hTI, ⟨x0, y0, hTO⟩, ⟨hi1, p1⟩, ⟨hi2, p2⟩⟩ fun v h' tk hY hst hk htk => ?_
    obtain ⟨T, u1, u2, ev, hT, hu1, hu2, hTu⟩ := hY
    obtain ⟨hz', hTI', ⟨x0', y0', hTO'⟩, ⟨hi1', _⟩, ⟨hi2', _⟩⟩ := hst
    subst ev
    obtain ⟨x, ex, rx⟩ := vals_at rv1 hx1 hu1
    obtain ⟨y, ey, ry⟩ := vals_at rv2 hx2 hu2
    have new : ObjOk X.prog X.w (upd H T (.tup [x, y])) h' T (.tup [x, y]) :=
      ⟨by show 2 ≤ sizeLine; decide, [u1, u2], .cons rx (.cons ry .nil), hTu⟩
    have I1 : Inv X pins σ (upd H T (.tup [x, y])) { s with heap := h', toks := tk } :=
      I.turnedNew (ch := [z, TI, TO, i1, i2]) (fun b ob hb q => hk b ob (fun hm => hb (by
        simp only [List.mem_cons, List.not_mem_nil, or_false] at hm ⊢
        rcases hm with h | h | h | h
        · exact .inl h
        · exact .inr (.inr (.inl h))
        · exact .inr (.inr (.inr (.inl h)))
        · exact .inr (.inr (.inr (.inr h))))) q) hf hT new
    refine ⟨.ref T, _, I1, rfl, ⟨T, x, y, rfl, I.hok.fresh hT, rfl, ex, ey⟩, ⟨hz', hTI', ⟨x0', y0', hTO'⟩, hi1', hi2'⟩, fun c hcm => ?_⟩
    have hb' : c < s.heap.objs.size := by
      have e' : c = z ∨ c = TI ∨ c = TO ∨ c = i1 ∨ c = i2 := by simpa using hcm
      rcases e' with q | q | q | q | q
      · rw [q]; exact Heap.lt_size hz
      · rw [q]; exact Heap.lt_size hTI
      · rw [q]; exact Heap.lt_size hTO
      · rw [q]; obtain ⟨_, q, _⟩ := itB_obj hi1; exact Heap.lt_size q
      · rw [q]; obtain ⟨_, q, _⟩ := itB_obj hi2; exact Heap.lt_size q
    rw [upd_ne (Nat.ne_of_lt (Nat.lt_of_lt_of_le hb' hT))]
    exact (hf c hcm).1
  done := by
    intro X hP hw hK hc i pins s σ H E I hf st hg
    subst hP hw hK
    obtain ⟨hz, hTI, ⟨x0, y0, hTO⟩, hi1, hi2⟩ := st
    obtain ⟨hq1, hq2, hx⟩ := hg
    obtain ⟨its1, rv1, p1, _⟩ := srcB I hq1
    obtain ⟨its2, rv2, p2, _⟩ := srcB I hq2
    have hl1 := rv1.length
    have hl2 := rv2.length
    have W := GoesN.zip2 (prog := X.prog) (w := X.w) (A := X.A) (elts := elts) (x1 := kk) (pos := tpos) D (drawsB (prog := X.prog) (w := X.w) (A := X.A.in1) k1 (I.ok.hd hc) i1 a h1a its1.toArray) (drawsB (prog := X.prog) (w := X.w) (A := X.A.in1) k2 (I.ok.hd hc) i2 b h2b its2.toArray)
    have hn : min its1.toArray.size its2.toArray.size = i := by simp; omega
    refine W.stops s (fun s1 => Inv X pins σ H s1) E ?_ fun h' tk hk htk => I.turnedL (t' := tk) (ch := [z, TI, TO, i1, i2]) (fun b o hb q => hk b o (fun hm => hb (by
        simp only [List.mem_cons, List.not_mem_nil, or_false] at hm ⊢
        rcases hm with h | h | h | h
        · exact .inl h
        · exact .inr (.inr (.inl h))
        · exact .inr (.inr (.inr (.inl h)))
        · exact .inr (.inr (.inr (.inr h))))) q) hf
    rw [hn]
    exact ⟨hz, hTI, ⟨x0, y0, hTO⟩, ⟨hi1, p1⟩, ⟨hi2, p2⟩⟩
  self := fun A i s Q E st h => wpAny_pyIter_zip st.1 h
def iZipB (K : PySem.W.Frag) (ta : TA) : TI := fun σ H R => ta σ H fun vs H1 => ∃ k1 a xs k2 b ys, vs = [.ref a, .ref b] ∧ SqB k1 K H1 a xs ∧ SqB k2 K H1 b ys ∧ R (ItZ2 K k1 a xs k2 b ys) H1
theorem pi_zipB {e e2 : Expr} {ta : TA} {p pos tpos : Pos} {elts : List Expr} {kk : Nat} (hg : Gl X "zip") (hm : X.mg "zip" = none) (ha : PA X [e, e2] ta)
    (hs : starEach [e, e2] X.env = (false, eval e X.env) :: starEach [e2] X.env := by rfl) (hpl : (backTo pos (starEach [e2] X.env)).any (·.1) = false := by rfl) :
    PI X (.Tuple elts kk tpos) (.Call (.Name "zip" p) [e, e2] [] pos) (iZipB X.K ta) := by
  refine ⟨fun pins s σ H R I h => ?_⟩
  refine Call_ (ld_blt I hg hm PyProof.Rows.boot_zip (PyProof.Rows.callWith_type1 (thn (ha.run pos pins s σ H _ I h) fun us s1 ⟨vs, H1, I1, r1, q1⟩ => ?_) hs hpl))
  obtain ⟨k1, a, xs, k2, b, ys, ex, hqx, hqy, q⟩ := q1
  subst ex
  cases r1 with
  | cons r rr =>
    cases rr with
    | cons r' rr =>
      cases rr
      cases r
      cases r'
      obtain ⟨its, rv, p1, la⟩ := srcB I1 hqx
      obtain ⟨its2, rv2, p2, lb⟩ := srcB I1 hqy
      refine zip_begins2 (beginsB k1 a its.toArray) (beginsB k2 b its2.toArray) p1 p2 fun h' hz hTI hTO h1 h2 hsz hk => wpAny_pyIter_zip hz ?_
      have I2 : Inv X pins σ H1 { s1 with heap := h' } := I1.kept (t' := s1.toks) hk
      refine ⟨s1.heap.objs.size + 4, [s1.heap.objs.size + 4, s1.heap.objs.size + 2, s1.heap.objs.size + 3, s1.heap.objs.size, s1.heap.objs.size + 1], _, _, H1, rfl, I2, turn_zipB (sep2 s1.heap.objs.size a b la lb) (Nat.ne_of_lt la) (Nat.ne_of_lt (Nat.lt_succ_of_lt lb)), ⟨hz, hTI, ⟨_, _, hTO⟩, itB_new h1, itB_new h2⟩, fun c hcm => ?_, q⟩
      have e' : c = s1.heap.objs.size + 4 ∨ c = s1.heap.objs.size + 2 ∨ c = s1.heap.objs.size + 3 ∨ c = s1.heap.objs.size ∨ c = s1.heap.objs.size + 1 := by simpa using hcm
      have hle : s1.heap.objs.size ≤ c := by
        rcases e' with z | z | z | z | z
        · rw [z]; exact Nat.le_add_right _ _
        · rw [z]; exact Nat.le_add_right _ _
        · rw [z]; exact Nat.le_add_right _ _
        · rw [z]; exact Nat.le_refl _
        · rw [z]; exact Nat.le_add_right _ _
      exact I1.fpOk hle (I1.hok.fresh hle)
/-! ### three -/
def ItZ3 (K : PySem.W.Frag) (k1 : Bool) (a : Addr) (xs : List V) (k2 : Bool) (b : Addr) (ys : List V) (k3 : Bool) (c : Addr) (zs : List V) : L2.It :=
  ⟨fun i H => SqB k1 K H a xs ∧ SqB k2 K H b ys ∧ SqB k3 K H c zs ∧ i < xs.length ∧ i < ys.length ∧ i < zs.length, fun i H v H' => ∃ T x y u, v = .ref T ∧ H T = none ∧ H' = upd H T (.tup [x, y, u]) ∧ xs[i]? = some x ∧ ys[i]? = some y ∧ zs[i]? = some u,
    fun i H => SqB k1 K H a xs ∧ SqB k2 K H b ys ∧ SqB k3 K H c zs ∧ min (min xs.length ys.length) zs.length = i⟩
theorem in_wr3 {z TI TO i1 i2 i3 b : Addr} (hm : b ∈ [z, TO, i1, i2, i3]) : b ∈ [z, TI, TO, i1, i2, i3] := by
  simp only [List.mem_cons, List.not_mem_nil, or_false] at hm ⊢
  rcases hm with h | h | h | h | h
  · exact .inl h
  · exact .inr (.inr (.inl h))
  · exact .inr (.inr (.inr (.inl h)))
  · exact .inr (.inr (.inr (.inr (.inl h))))
  · exact .inr (.inr (.inr (.inr (.inr h))))
theorem turn_zipC {P : Program} {w : World} {elts : List Expr} {kk : Nat} {tpos : Pos} {k1 k2 k3 : Bool} {a b c z TI TO i1 i2 i3 : Addr} {xs ys zs : List V} (D : ZipSep3 z TI TO i1 i2 i3 [i1, a] [i2, b] [i3, c]) (h1a : a ≠ i1) (h2b : b ≠ i2) (h3c : c ≠ i3) :
    Turn P w K (.Tuple elts kk tpos) (ItZ3 K k1 a xs k2 b ys k3 c zs) [z, TI, TO, i1, i2, i3] z (fun i h => IsZip h z TI TO .none ∧ IsTupOf3 h TI (.ref i1) (.ref i2) (.ref i3) ∧ (∃ a1 a2 a3, IsTupOf3 h TO a1 a2 a3) ∧ itB k1 h i1 a i ∧ itB k2 h i2 b i ∧ itB k3 h i3 c i) where
  mem := by simp
  obj := fun i h st c hc => by
    obtain ⟨hz, hTI, ⟨x, y, u, hTO⟩, hi1, hi2, hi3⟩ := st
    have e' : c = z ∨ c = TI ∨ c = TO ∨ c = i1 ∨ c = i2 ∨ c = i3 := by simpa using hc
    rcases e' with q | q | q | q | q | q
    · rw [q]; exact ⟨_, hz, fun v q => nomatch q⟩
    · rw [q]; exact ⟨_, hTI, fun v q => nomatch q⟩
    · rw [q]; exact ⟨_, hTO, fun v q => nomatch q⟩
    · rw [q]; exact itB_obj hi1
    · rw [q]; exact itB_obj hi2
    · rw [q]; exact itB_obj hi3
  keep := fun i h h' st k => by
    obtain ⟨hz, hTI, ⟨x, y, u, hTO⟩, h1, h2, h3⟩ := st
    exact ⟨k z (by simp) _ hz, k TI (by simp) _ hTI, ⟨x, y, u, k TO (by simp) _ hTO⟩, itB_at h1 fun o q => k i1 (by simp) o q, itB_at h2 fun o q => k i2 (by simp) o q, itB_at h3 fun o q => k i3 (by simp) o q⟩
  item := by
    intro X hP hw hK hc i pins s σ H E I hf st hg
    subst hP hw hK
    obtain ⟨hz, hTI, ⟨x0, y0, u0, hTO⟩, hi1, hi2, hi3⟩ := st
    obtain ⟨hq1, hq2, hq3, hx1, hx2, hx3⟩ := hg
    obtain ⟨its1, rv1, p1, _⟩ := srcB I hq1
    obtain ⟨its2, rv2, p2, _⟩ := srcB I hq2
    obtain ⟨its3, rv3, p3, _⟩ := srcB I hq3
    have hl1 := rv1.length
    have hl2 := rv2.length
    have hl3 := rv3.length
    have W := GoesN.zip3 (prog := X.prog) (w := X.w) (A := X.A) (elts := elts) (x1 := kk) (pos := tpos) D (drawsB (prog := X.prog) (w := X.w) (A := X.A.in1) k1 (I.ok.hd hc) i1 a h1a its1.toArray) (drawsB (prog := X.prog) (w := X.w) (A := X.A.in1) k2 (I.ok.hd hc) i2 b h2b its2.toArray) (drawsB (prog := X.prog) (w := X.w) (A := X.A.in1) k3 (I.ok.hd hc) i3 c h3c its3.toArray)
    refine W.goes i s _ E (by simp; omega) ⟨hz, hTI, ⟨x0, y0, u0, hTO⟩, ⟨hi1, p1⟩, ⟨hi2, p2⟩, ⟨hi3, p3⟩⟩ fun v h' tk hY hst hk htk => ?_
    obtain ⟨T, u1, u2, u3, ev, hT, hu1, hu2, hu3, hTu⟩ := hY
    obtain ⟨hz', hTI', ⟨x0', y0', u0', hTO'⟩, ⟨hi1', _⟩, ⟨hi2', _⟩, ⟨hi3', _⟩⟩ := hst
    subst ev
    obtain ⟨x, ex, rx⟩ := vals_at rv1 hx1 hu1
    obtain ⟨y, ey, ry⟩ := vals_at rv2 hx2 hu2
    obtain ⟨u, eu, ru⟩ := vals_at rv3 hx3 hu3
    have new : ObjOk X.prog X.w (upd H T (.tup [x, y, u])) h' T (.tup [x, y, u]) :=
      ⟨by show 3 ≤ sizeLine; decide, [u1, u2, u3], .cons rx (.cons ry (.cons ru .nil)), hTu⟩
    have I1 : Inv X pins σ (upd H T (.tup [x, y, u])) { s with heap := h', toks := tk } :=
      I.turnedNew (ch := [z, TI, TO, i1, i2, i3]) (fun b ob hb q => hk b ob (fun hm => hb (in_wr3 hm)) q) hf hT new
    refine ⟨.ref T, _, I1, rfl, ⟨T, x, y, u, rfl, I.hok.fresh hT, rfl, ex, ey, eu⟩, ⟨hz', hTI', ⟨x0', y0', u0', hTO'⟩, hi1', hi2', hi3'⟩, fun c hcm => ?_⟩
    have hb' : c < s.heap.objs.size := by
      have e' : c = z ∨ c = TI ∨ c = TO ∨ c = i1 ∨ c = i2 ∨ c = i3 := by simpa using hcm
      rcases e' with q | q | q | q | q | q
      · rw [q]; exact Heap.lt_size hz
      · rw [q]; exact Heap.lt_size hTI
      · rw [q]; exact Heap.lt_size hTO
      · rw [q]; obtain ⟨_, q, _⟩ := itB_obj hi1; exact Heap.lt_size q
      · rw [q]; obtain ⟨_, q, _⟩ := itB_obj hi2; exact Heap.lt_size q
      · rw [q]; obtain ⟨_, q, _⟩ := itB_obj hi3; exact Heap.lt_size q
    rw [upd_ne (Nat.ne_of_lt (Nat.lt_of_lt_of_le hb' hT))]
    exact (hf c hcm).1
  done := by
    intro X hP hw hK hc i pins s σ H E I hf st hg
    subst hP hw hK
    obtain ⟨hz, hTI, ⟨x0, y0, u0, hTO⟩, hi1, hi2, hi3⟩ := st
    obtain ⟨hq1, hq2, hq3, hx⟩ := hg
    obtain ⟨its1, rv1, p1, _⟩ := srcB I hq1
    obtain ⟨its2, rv2, p2, _⟩ := srcB I hq2
    obtain ⟨its3, rv3, p3, _⟩ := srcB I hq3
    have hl1 := rv1.length
    have hl2 := rv2.length
    have hl3 := rv3.length
    have W := GoesN.zip3 (prog := X.prog) (w := X.w) (A := X.A) (elts := elts) (x1 := kk) (pos := tpos) D (drawsB (prog := X.prog) (w := X.w) (A := X.A.in1) k1 (I.ok.hd hc) i1 a h1a its1.toArray) (drawsB (prog := X.prog) (w := X.w) (A := X.A.in1) k2 (I.ok.hd hc) i2 b h2b its2.toArray) (drawsB (prog := X.prog) (w := X.w) (A := X.A.in1) k3 (I.ok.hd hc) i3 c h3c its3.toArray)
    have hn : min (min its1.toArray.size its2.toArray.size) its3.toArray.size = i := by simp; omega
    refine W.stops s (fun s1 => Inv X pins σ H s1) E ?_ fun h' tk hk htk => I.turnedL (t' := tk) (ch := [z, TI, TO, i1, i2, i3]) (fun b o hb q => hk b o (fun hm => hb (in_wr3 hm)) q) hf
    rw [hn]
    exact ⟨hz, hTI, ⟨x0, y0, u0, hTO⟩, ⟨hi1, p1⟩, ⟨hi2, p2⟩, ⟨hi3, p3⟩⟩
  self := fun A i s Q E st h => wpAny_pyIter_zip st.1 h
def iZipC (K : PySem.W.Frag) (ta : TA) : TI := fun σ H R => ta σ H fun vs H1 => ∃ k1 a xs k2 b ys k3 c zs, vs = [.ref a, .ref b, .ref c] ∧ SqB k1 K H1 a xs ∧ SqB k2 K H1 b ys ∧ SqB k3 K H1 c zs ∧ R (ItZ3 K k1 a xs k2 b ys k3 c zs) H1
theorem pi_zipC {e e2 e3 : Expr} {ta : TA} {p pos tpos : Pos} {elts : List Expr} {kk : Nat} (hg : Gl X "zip") (hm : X.mg "zip" = none) (ha : PA X [e, e2, e3] ta)
    (hs : starEach [e, e2, e3] X.env = (false, eval e X.env) :: starEach [e2, e3] X.env := by rfl) (hpl : (backTo pos (starEach [e2, e3] X.env)).any (·.1) = false := by rfl) :
    PI X (.Tuple elts kk tpos) (.Call (.Name "zip" p) [e, e2, e3] [] pos) (iZipC X.K ta) := by
  refine ⟨fun pins s σ H R I h => ?_⟩
  refine Call_ (ld_blt I hg hm PyProof.Rows.boot_zip (PyProof.Rows.callWith_type1 (thn (ha.run pos pins s σ H _ I h) fun us s1 ⟨vs, H1, I1, r1, q1⟩ => ?_) hs hpl))
  obtain ⟨k1, a, xs, k2, b, ys, k3, c, zs, ex, hqx, hqy, hqz, q⟩ := q1
  subst ex
  cases r1 with
  | cons r rr =>
    cases rr with
    | cons r' rr =>
      cases rr with
      | cons r'' rr =>
        cases rr
        cases r
        cases r'
        cases r''
        obtain ⟨its, rv, p1, la⟩ := srcB I1 hqx
        obtain ⟨its2, rv2, p2, lb⟩ := srcB I1 hqy
        obtain ⟨its3, rv3, p3, lc⟩ := srcB I1 hqz
        refine zip_begins3 (beginsB k1 a its.toArray) (beginsB k2 b its2.toArray) (beginsB k3 c its3.toArray) p1 p2 p3 fun h' hz hTI hTO h1 h2 h3 hsz hk => wpAny_pyIter_zip hz ?_
        have I2 : Inv X pins σ H1 { s1 with heap := h' } := I1.kept (t' := s1.toks) hk
        refine ⟨s1.heap.objs.size + 5, [s1.heap.objs.size + 5, s1.heap.objs.size + 3, s1.heap.objs.size + 4, s1.heap.objs.size, s1.heap.objs.size + 1, s1.heap.objs.size + 2], _, _, H1, rfl, I2, turn_zipC (sep3 s1.heap.objs.size a b c la lb lc) (Nat.ne_of_lt la) (Nat.ne_of_lt (Nat.lt_succ_of_lt lb)) (Nat.ne_of_lt (Nat.lt_succ_of_lt (Nat.lt_succ_of_lt lc))), ⟨hz, hTI, ⟨_, _, _, hTO⟩, itB_new h1, itB_new h2, itB_new h3⟩, fun c hcm => ?_, q⟩
        have e' : c = s1.heap.objs.size + 5 ∨ c = s1.heap.objs.size + 3 ∨ c = s1.heap.objs.size + 4 ∨ c = s1.heap.objs.size ∨ c = s1.heap.objs.size + 1 ∨ c = s1.heap.objs.size + 2 := by simpa using hcm
        have hle : s1.heap.objs.size ≤ c := by
          rcases e' with z | z | z | z | z | z
          · rw [z]; exact Nat.le_add_right _ _
          · rw [z]; exact Nat.le_add_right _ _
          · rw [z]; exact Nat.le_add_right _ _
          · rw [z]; exact Nat.le_refl _
          · rw [z]; exact Nat.le_add_right _ _
          · rw [z]; exact Nat.le_add_right _ _
        exact I1.fpOk hle (I1.hok.fresh hle)
/-! ### what they tell -/
theorem srcOk_B {v : V} {ds : List D} (h : SrcOk K F H v ds) : ∃ k a vs, v = .ref a ∧ SqB k K F a vs ∧ RepL K F H ds vs [] := by
  obtain ⟨a, vs, e, h1 | h1, h2⟩ := h
  · exact ⟨true, a, vs, e, h1, h2⟩
  · exact ⟨false, a, vs, e, h1, h2⟩
theorem repL_at {ds : List D} {vs : List V} {i : Nat} {d : D} {x : V} (h : RepL K F H ds vs []) (e : ds[i]? = some d) (e2 : vs[i]? = some x) : Rep K F H d x [] := by
  obtain ⟨v, f, e1, r, hf⟩ := RepL.get i h e
  rw [e2] at e1
  cases e1
  have ef : f = [] := List.eq_nil_iff_forall_not_mem.mpr fun b hb => nomatch hf b hb
  subst ef
  exact r
/-- a new tuple of things that stay -/
theorem prim_tup {T : Addr} {ds : List D} {vs : List V} (sF : Same F H) (hT : H T = none) (r : RepL K F H ds vs []) : PrimRes K F H (upd F T (.tup vs)) (upd H T (.tup vs)) (.tup ds) (.ref T) [] :=
  .newT sF r hT
theorem enumD_get : ∀ (n : Nat) (ds : List D) (i : Nat), (enumD n ds)[i]? = ds[i]?.map fun d => .tup [.int ((n + i : Nat) : Int), d]
  | n, [], i => by simp [enumD]
  | n, d :: r, 0 => by simp [enumD]
  | n, d :: r, i + 1 => by
    simp only [enumD, List.getElem?_cons_succ]
    rw [enumD_get (n + 1) r i, show n + 1 + i = n + (i + 1) by omega]
theorem enumD_len : ∀ (n : Nat) (ds : List D), (enumD n ds).length = ds.length
  | n, [] => rfl
  | n, d :: r => by simp [enumD, enumD_len (n + 1) r]
theorem zip2_get : ∀ (as bs : List D) (i : Nat) (d : D), (zip2 as bs)[i]? = some d → ∃ a b, as[i]? = some a ∧ bs[i]? = some b ∧ d = .tup [a, b]
  | [], bs, i, d, h => by simp [zip2] at h
  | _ :: _, [], i, d, h => by simp [zip2] at h
  | a :: as, b :: bs, 0, d, h => by simp [zip2] at h; exact ⟨a, b, rfl, rfl, h.symm⟩
  | a :: as, b :: bs, i + 1, d, h => by
    simp only [zip2, List.getElem?_cons_succ] at h
    simpa using zip2_get as bs i d h
theorem zip2_len : ∀ (as bs : List D), (zip2 as bs).length = min as.length bs.length
  | [], bs => by simp [zip2]
  | _ :: _, [] => by simp [zip2]
  | a :: as, b :: bs => by simp [zip2, zip2_len as bs]
theorem zip3_get : ∀ (as bs cs : List D) (i : Nat) (d : D), (zip3 as bs cs)[i]? = some d → ∃ a b c, as[i]? = some a ∧ bs[i]? = some b ∧ cs[i]? = some c ∧ d = .tup [a, b, c]
  | [], bs, cs, i, d, h => by simp [zip3] at h
  | _ :: _, [], cs, i, d, h => by simp [zip3] at h
  | _ :: _, _ :: _, [], i, d, h => by simp [zip3] at h
  | a :: as, b :: bs, c :: cs, 0, d, h => by simp [zip3] at h; exact ⟨a, b, c, rfl, rfl, rfl, h.symm⟩
  | a :: as, b :: bs, c :: cs, i + 1, d, h => by
    simp only [zip3, List.getElem?_cons_succ] at h
    simpa using zip3_get as bs cs i d h
theorem zip3_len : ∀ (as bs cs : List D), (zip3 as bs cs).length = min (min as.length bs.length) cs.length
  | [], bs, cs => by simp [zip3]
  | _ :: _, [], cs => by simp [zip3]
  | _ :: _, _ :: _, [] => by simp [zip3]
  | a :: as, b :: bs, c :: cs => by simp only [zip3, List.length_cons, zip3_len as bs cs]; omega
theorem itOk_enum {k : Bool} {a : Addr} {vs : List V} {ds : List D} (h1 : SqB k K F a vs) (h2 : RepL K F H ds vs []) : ItOk K F (ItE K k a vs) (enumD 0 ds) := by
  have hl := RepL.length _ _ _ h2
  refine ⟨fun i F1 H1 s1 s2 hi => ?_, fun i F1 H1 s1 s2 hi => ?_, fun i F1 H1 x H' d s1 s2 hy e => ?_⟩
  · rw [enumD_len] at hi
    exact ⟨h1.mono (Same.trans s1 s2), by omega⟩
  · rw [enumD_len] at hi
    exact ⟨h1.mono (Same.trans s1 s2), by omega⟩
  · obtain ⟨T, y, rfl, hT, rfl, hy⟩ := hy
    rw [enumD_get] at e
    cases e2 : ds[i]? with
    | none => rw [e2] at e; cases e
    | some d0 =>
      rw [e2] at e
      cases e
      have r : Rep K F1 H1 d0 y [] := Rep.mono s1 _ _ _ (fun _ h => nomatch h) (repL_at h2 e2 hy)
      rw [Nat.zero_add]
      refine ⟨_, prim_tup s2 hT ?_⟩
      simp only [RepL, Rep]
      exact ⟨_, _, [], [], rfl, ⟨rfl, rfl⟩, ⟨_, _, [], [], rfl, r, ⟨rfl, rfl⟩, rfl⟩, rfl⟩
theorem itOk_zip2 {k1 k2 : Bool} {a b : Addr} {vs ws : List V} {ds es : List D} (h1 : SqB k1 K F a vs) (h2 : RepL K F H ds vs []) (g1 : SqB k2 K F b ws) (g2 : RepL K F H es ws []) : ItOk K F (ItZ2 K k1 a vs k2 b ws) (zip2 ds es) := by
  have hl := RepL.length _ _ _ h2
  have gl := RepL.length _ _ _ g2
  refine ⟨fun i F1 H1 s1 s2 hi => ?_, fun i F1 H1 s1 s2 hi => ?_, fun i F1 H1 x H' d s1 s2 hy e => ?_⟩
  · rw [zip2_len] at hi
    exact ⟨h1.mono (Same.trans s1 s2), g1.mono (Same.trans s1 s2), by omega, by omega⟩
  · rw [zip2_len] at hi
    exact ⟨h1.mono (Same.trans s1 s2), g1.mono (Same.trans s1 s2), by omega⟩
  · obtain ⟨T, y, z, rfl, hT, rfl, hy, hz⟩ := hy
    obtain ⟨d1, d2, e1, e2, rfl⟩ := zip2_get _ _ _ _ e
    refine ⟨_, prim_tup s2 hT ?_⟩
    simp only [RepL]
    exact ⟨_, _, [], [], rfl, Rep.mono s1 _ _ _ (fun _ h => nomatch h) (repL_at h2 e1 hy), ⟨_, _, [], [], rfl, Rep.mono s1 _ _ _ (fun _ h => nomatch h) (repL_at g2 e2 hz), ⟨rfl, rfl⟩, rfl⟩, rfl⟩
theorem itOk_zip3 {k1 k2 k3 : Bool} {a b c : Addr} {vs ws us : List V} {ds es gs : List D} (h1 : SqB k1 K F a vs) (h2 : RepL K F H ds vs []) (g1 : SqB k2 K F b ws) (g2 : RepL K F H es ws []) (j1 : SqB k3 K F c us) (j2 : RepL K F H gs us []) : ItOk K F (ItZ3 K k1 a vs k2 b ws k3 c us) (zip3 ds es gs) := by
  have hl := RepL.length _ _ _ h2
  have gl := RepL.length _ _ _ g2
  have jl := RepL.length _ _ _ j2
  refine ⟨fun i F1 H1 s1 s2 hi => ?_, fun i F1 H1 s1 s2 hi => ?_, fun i F1 H1 x H' d s1 s2 hy e => ?_⟩
  · rw [zip3_len] at hi
    exact ⟨h1.mono (Same.trans s1 s2), g1.mono (Same.trans s1 s2), j1.mono (Same.trans s1 s2), by omega, by omega, by omega⟩
  · rw [zip3_len] at hi
    exact ⟨h1.mono (Same.trans s1 s2), g1.mono (Same.trans s1 s2), j1.mono (Same.trans s1 s2), by omega⟩
  · obtain ⟨T, y, z, u, rfl, hT, rfl, hy, hz, hu⟩ := hy
    obtain ⟨d1, d2, d3, e1, e2, e3, rfl⟩ := zip3_get _ _ _ _ _ e
    refine ⟨_, prim_tup s2 hT ?_⟩
    simp only [RepL]
    exact ⟨_, _, [], [], rfl, Rep.mono s1 _ _ _ (fun _ h => nomatch h) (repL_at h2 e1 hy), ⟨_, _, [], [], rfl, Rep.mono s1 _ _ _ (fun _ h => nomatch h) (repL_at g2 e2 hz),
      ⟨_, _, [], [], rfl, Rep.mono s1 _ _ _ (fun _ h => nomatch h) (repL_at j2 e3 hu), ⟨rfl, rfl⟩, rfl⟩, rfl⟩, rfl⟩
theorem enumG_inv {dss : List (List D)} {ds : List D} (h : enumG dss = some ds) : ∃ a, dss = [a] ∧ ds = enumD 0 a := by
  unfold enumG at h
  split at h
  · cases h; exact ⟨_, rfl, rfl⟩
  · cases h
theorem zipG_inv {dss : List (List D)} {ds : List D} (h : zipG dss = some ds) : (∃ a b, dss = [a, b] ∧ ds = zip2 a b) ∨ (∃ a b c, dss = [a, b, c] ∧ ds = zip3 a b c) := by
  unfold zipG at h
  split at h
  · cases h; exact .inl ⟨_, _, rfl, rfl⟩
  · cases h; exact .inr ⟨_, _, _, rfl, rfl⟩
  · cases h
theorem srcs_len : ∀ {dss : List (List D)} {vs : List V}, SrcsOk K F H dss vs → vs.length = dss.length
  | [], [], _ => rfl
  | d :: ds, v :: vs, h => by simp [srcs_len h.2]
  | [], _ :: _, h => h.elim
  | _ :: _, [], h => h.elim
theorem t_enum {es : List IE} {R : L2.It → Hp → Prop} (h : tIt K Φ E (.enum es) σ H R) : iEnB K (tOs K Φ E es) σ H R := by
  have h1 := t_srcs (es := es) (g := enumG) h fun ρ => by simp only [evIt]
  unfold iEnB
  refine h1.mono ?_
  rintro vs H1 ⟨F, dss, ds, hs, sF, eg, q⟩
  obtain ⟨a, rfl, rfl⟩ := enumG_inv eg
  match vs, srcs_len hs, hs with
  | [x], _, hs =>
    obtain ⟨k, p, ws, rfl, h1, h2⟩ := srcOk_B (srcs_one hs)
    exact ⟨k, p, ws, rfl, h1.mono sF, q _ (itOk_enum h1 h2)⟩
theorem t_zip2 {a b : IE} {R : L2.It → Hp → Prop} (ha : OneO Φ a) (hb : OneO Φ b) (h : tIt K Φ E (.zip [a, b]) σ H R) : iZipB K (tCons (tO K Φ E a) (tCons (tO K Φ E b) tNil)) σ H R := by
  have h1 := t_srcs (es := [a, b]) (g := zipG) h fun ρ => by simp only [evIt]
  have h2 := t_two' ha hb h1
  show tO K Φ E a σ H _
  refine tO_mono h2 fun x H1 h3 => ?_
  show tO K Φ E b σ H1 _
  refine tO_mono h3 ?_
  rintro y H2 ⟨F, dss, ds, hs, sF, eg, q⟩
  have hl := srcs_len hs
  rcases zipG_inv eg with ⟨d1, d2, rfl, rfl⟩ | ⟨d1, d2, d3, rfl, rfl⟩
  · obtain ⟨k, p, ws, rfl, h1, h2⟩ := srcOk_B hs.1
    obtain ⟨k', p', ws', rfl, h1', h2'⟩ := srcOk_B hs.2.1
    exact ⟨k, p, ws, k', p', ws', rfl, h1.mono sF, h1'.mono sF, q _ (itOk_zip2 h1 h2 h1' h2')⟩
  · simp at hl
theorem t_zip3 {a b c : IE} {R : L2.It → Hp → Prop} (ha : OneO Φ a) (hb : OneO Φ b) (hc : OneO Φ c) (h : tIt K Φ E (.zip [a, b, c]) σ H R) : iZipC K (tCons (tO K Φ E a) (tCons (tO K Φ E b) (tCons (tO K Φ E c) tNil))) σ H R := by
  have h1 := t_srcs (es := [a, b, c]) (g := zipG) h fun ρ => by simp only [evIt]
  have h2 := t_three ha hb hc h1
  show tO K Φ E a σ H _
  refine tO_mono h2 fun x H1 h3 => ?_
  show tO K Φ E b σ H1 _
  refine tO_mono h3 fun y H2 h4 => ?_
  show tO K Φ E c σ H2 _
  refine tO_mono h4 ?_
  rintro z H3 ⟨F, dss, ds, hs, sF, eg, q⟩
  have hl := srcs_len hs
  rcases zipG_inv eg with ⟨d1, d2, rfl, rfl⟩ | ⟨d1, d2, d3, rfl, rfl⟩
  · simp at hl
  · obtain ⟨k, p, ws, rfl, h1, h2⟩ := srcOk_B hs.1
    obtain ⟨k', p', ws', rfl, h1', h2'⟩ := srcOk_B hs.2.1
    obtain ⟨k'', p'', ws'', rfl, h1'', h2''⟩ := srcOk_B hs.2.2.1
    exact ⟨k, p, ws, k', p', ws', k'', p'', ws'', rfl, h1.mono sF, h1'.mono sF, h1''.mono sF, q _ (itOk_zip3 h1 h2 h1' h2' h1'' h2'')⟩
end Mi
end

section
set_option Elab.async false
set_option linter.all false
set_option maxRecDepth 100000
/-! Statements. -/
namespace Mi
open PySem PySem.Spec PyProof.Rows L2
variable {K : PySem.W.Frag} {Φ : Fns} {E : XK} {B : Bs} {lk : List (Nat × V)} {F F' H H' : Hp} {σ : L2.St} {ρ : Env} {fps : List (List Addr)} {ts : List (V × Tm)} {Q : VK} {X : Cx} {lkN : List Nat} {D' : Ends}

def OutS (x : Nat → D → Env → Prop) (r : SR) (kn : Env → Prop) (kr : D → Env → Prop) : Prop := match r with
  | .nx ρ => kn ρ
  | .ret d ρ => kr d ρ
  | .exc c d ρ => x c d ρ
  | .stk => False
theorem outS_of {α : Type} {x : Nat → D → Env → Prop} {r : R α} {f : α → Env → SR} {kn : Env → Prop} {kr : D → Env → Prop} : OutS x (ofR r f) kn kr ↔ Out x r fun a ρ => OutS x (f a ρ) kn kr := by
  cases r <;> exact Iff.rfl
theorem OutS.imp {x x' : Nat → D → Env → Prop} {r : SR} {kn kn' : Env → Prop} {kr kr' : D → Env → Prop} (h : OutS x r kn kr) (hx : ∀ c d ρ, x c d ρ → x' c d ρ) (hn : ∀ ρ, kn ρ → kn' ρ) (hr : ∀ d ρ, kr d ρ → kr' d ρ) : OutS x' r kn' kr' := by
  cases r with
  | nx ρ => exact hn _ h
  | ret d ρ => exact hr _ _ h
  | exc c d ρ => exact hx _ _ _ h
  | stk => exact h
/-- what is wanted of an exception, whatever the slots hold -/
def XS (K : PySem.W.Frag) (E : XK) (B : Bs) (lk : List (Nat × V)) (c : Nat) (d : D) (ρ : Env) : Prop := ∀ σ cls dx F H fps, Sta K B lk F H σ ρ fps [] → RepX K F H c d cls dx → E cls dx H
def kN (K : PySem.W.Frag) (B : Bs) (lk : List (Nat × V)) (k : L2.St → Hp → Prop) (ρ : Env) : Prop := ∀ F H σ fps, Sta K B lk F H σ ρ fps [] → k σ H
def kR (K : PySem.W.Frag) (B : Bs) (lk : List (Nat × V)) (k : VK) (d : D) (ρ : Env) : Prop := ∀ v fp F H σ fps, Sta K B lk F H σ ρ fps [(v, .own d fp)] → k v H
def Lks (lk : List (Nat × V)) (lkN : List Nat) : Prop := ∀ p ∈ lk, lkN.contains p.1 = true
/-- a statement's reading -/
def tS (K : PySem.W.Frag) (Φ : Fns) (E : XK) (lkN : List Nat) (s : IS) : TS := fun D' σ H => ∃ B lk F ρ fps, Sta K B lk F H σ ρ fps [] ∧ Lks lk lkN ∧ OutS (XS K E B lk) (exS Φ lkN s ρ) (kN K B lk D'.nx) (kR K B lk D'.rt)
/-- a block's -/
def tSs (K : PySem.W.Frag) (Φ : Fns) (E : XK) (lkN : List Nat) (s : List IS) : TS := fun D' σ H => ∃ B lk F ρ fps, Sta K B lk F H σ ρ fps [] ∧ Lks lk lkN ∧ OutS (XS K E B lk) (exSs Φ lkN s ρ) (kN K B lk D'.nx) (kR K B lk D'.rt)
theorem PS.imp {st : Stmt} {t t' : TS} (h : PS X st t) (hi : ∀ D' σ H, t' D' σ H → t D' σ H) : PS X st t' := ⟨fun pins s σ H D' I q => h.run pins s σ H D' I (hi D' σ H q)⟩
theorem PSs.imp {st : List Stmt} {t t' : TS} (h : PSs X st t) (hi : ∀ D' σ H, t' D' σ H → t D' σ H) : PSs X st t' := ⟨fun pins s σ H D' I q => h.run pins s σ H D' I (hi D' σ H q)⟩
theorem XS.xc {c : Nat} {d : D} {ρ : Env} (h : XS K E B lk c d ρ) : XC K E B lk σ c d ρ := fun cls dx F H fps S r => h σ cls dx F H fps S r
theorem Out.impX {α : Type} {x x' : Nat → D → Env → Prop} {r : R α} {k k' : α → Env → Prop} (h : Out x r k) (hx : ∀ c d ρ, x c d ρ → x' c d ρ) (hk : ∀ a ρ, k a ρ → k' a ρ) : Out x' r k' := by
  cases r with
  | ok a ρ => exact hk _ _ h
  | exc c d ρ => exact hx _ _ _ h
  | stk => exact h
theorem ts_nil (h : tSs K Φ E lkN [] D' σ H) : tNext D' σ H := by
  obtain ⟨B, lk, F, ρ, fps, S, _, o⟩ := h
  exact o F H σ fps S
theorem ts_cons {s : IS} {r : List IS} (h : tSs K Φ E lkN (s :: r) D' σ H) : tSeq (tS K Φ E lkN s) (tSs K Φ E lkN r) D' σ H := by
  obtain ⟨B, lk, F, ρ, fps, S, hl, o⟩ := h
  refine ⟨B, lk, F, ρ, fps, S, hl, ?_⟩
  simp only [exSs] at o
  cases e : exS Φ lkN s ρ with
  | nx ρ1 => rw [e] at o; exact fun F' H' σ' fps' S' => ⟨B, lk, F', ρ1, fps', S', hl, o⟩
  | ret d ρ1 => rw [e] at o; exact o
  | exc c d ρ1 => rw [e] at o; exact o
  | stk => rw [e] at o; exact o
theorem ts_ex {e : IE} (h : tS K Φ E lkN (.ex e) D' σ H) : tDrop (tI K Φ E e) D' σ H := by
  obtain ⟨B, lk, F, ρ, fps, S, hl, o⟩ := h
  simp only [exS] at o
  rw [outS_of] at o
  exact ⟨B, lk, F, ρ, fps, [], S, o.impX (fun _ _ _ => XS.xc) fun d ρ1 q v fp F' H' fps' S' => q F' H' σ fps' S'.drop⟩
theorem ts_asg {tg : Tg} {e : IE} (h : tS K Φ E lkN (.asg tg e) D' σ H) : tAsg (tI K Φ E e) (tG K lkN tg) D' σ H := by
  obtain ⟨B, lk, F, ρ, fps, S, hl, o⟩ := h
  simp only [exS] at o
  rw [outS_of] at o
  refine ⟨B, lk, F, ρ, fps, [], S, o.impX (fun _ _ _ => XS.xc) fun d ρ1 q v fp F' H' fps' S' => ?_⟩
  cases e2 : bindT lkN tg d ρ1 with
  | none => rw [e2] at q; exact q.elim
  | some ρ2 =>
    rw [e2] at q
    exact ⟨B, lk, F', ρ1, fps', [], d, fp, S', hl, (fun t ht => nomatch ht), ρ2, e2, fun σ' fps'' S'' _ => q F' H' σ' fps'' S''⟩
theorem ts_ret {e : IE} (h : tS K Φ E lkN (.ret e) D' σ H) : tRet (tI K Φ E e) D' σ H := by
  obtain ⟨B, lk, F, ρ, fps, S, hl, o⟩ := h
  simp only [exS] at o
  rw [outS_of] at o
  exact ⟨B, lk, F, ρ, fps, [], S, o.impX (fun _ _ _ => XS.xc) fun d ρ1 q v fp F' H' fps' S' => q v fp F' H' σ fps' S'⟩
theorem ts_if {c : IE} {a b : List IS} (h : tS K Φ E lkN (.ifs c a b) D' σ H) : tIfS (tT K Φ E c) (tSs K Φ E lkN a) (tSs K Φ E lkN b) D' σ H := by
  obtain ⟨B, lk, F, ρ, fps, S, hl, o⟩ := h
  simp only [exS] at o
  rw [outS_of] at o
  refine ⟨B, lk, F, ρ, fps, [], S, o.impX (fun _ _ _ => XS.xc) fun d ρ1 q => ?_⟩
  cases d <;> try exact q.elim
  rename_i k
  refine ⟨k, rfl, fun F' H' fps' S' => ?_⟩
  cases k with
  | true => exact iteT ⟨B, lk, F', ρ1, fps', S', hl, q⟩
  | false => exact iteF ⟨B, lk, F', ρ1, fps', S', hl, q⟩
theorem ts_never (h : tS K Φ E lkN .never D' σ H) : tNever D' σ H := by
  obtain ⟨B, lk, F, ρ, fps, S, hl, o⟩ := h
  simp only [exS] at o
  exact o
/-- from a stretch by itself to the body -/
theorem XS.unbase {all : List Addr} {F H : Hp} {c : Nat} {d : D} {ρ : Env} (o : OwnOk B F H all) (h : XS K E B lk c d ρ) : XS K E ⟨F, H, all⟩ lk c d ρ := fun σ cls dx F' H' fps S r => h σ cls dx F' H' fps (Sta.unbase o S) r
theorem ts_for {tg : Tg} {it : It} {body : List IS} (h : tS K Φ E lkN (.for_ tg it body) D' σ H) : tFor (tIt K Φ E it) (tG K lkN tg) (tSs K Φ E lkN body) D' σ H := by
  obtain ⟨B, lk, F, ρ, fps, S, hl, o⟩ := h
  simp only [exS] at o
  rw [outS_of] at o
  refine ⟨B, lk, F, ρ, fps, [], S, o.impX (fun _ _ _ => XS.xc) fun ds ρ1 q J F1 H1 fps1 hJ S1 => ?_⟩
  let B2 : Bs := ⟨F1, H1, tfp [] ++ fps1.flatten⟩
  have S1b : Sta K B2 lk F1 H1 σ ρ1 fps1 [] := S1.rebase
  refine ⟨fun i m σ H => m = ds.length - i ∧ i ≤ ds.length ∧ ∃ F' ρ' fps', Same F1 F' ∧ Sta K B2 lk F' H σ ρ' fps' [] ∧ OutS (XS K E B lk) (forL lkN tg (exSs Φ lkN body) (ds.drop i) ρ') (kN K B lk D'.nx) (kR K B lk D'.rt),
    ⟨ds.length, by omega, by omega, F1, ρ1, fps1, Same.refl _, S1b, by simpa using q⟩, ?_⟩
  rintro i m σ2 H2 ⟨rfl, hi, F2, ρ2, fps2, sF, S2, w⟩
  by_cases hlt : i < ds.length
  · refine .inr ⟨hJ.go i F2 H2 sF S2.own.sub hlt, fun σ H => i + 1 ≤ ds.length ∧ ∃ F' ρ' fps', Same F1 F' ∧ Sta K B2 lk F' H σ ρ' fps' [] ∧ OutS (XS K E B lk) (forL lkN tg (exSs Φ lkN body) (ds.drop (i + 1)) ρ') (kN K B lk D'.nx) (kR K B lk D'.rt),
      fun σ' H' nx => ⟨ds.length - (i + 1), by omega, rfl, nx⟩, fun x H3 hy => ?_⟩
    obtain ⟨F3, pr⟩ := hJ.yld i F2 H2 x H3 (ds[i]'hlt) sF S2.own.sub hy (by simp [hlt])
    have S3 := S2.push pr
    have ed : ds.drop i = ds[i]'hlt :: ds.drop (i + 1) := by rw [← List.drop_eq_getElem_cons hlt]
    rw [ed] at w
    simp only [forL] at w
    cases e1 : bindT lkN tg (ds[i]'hlt) ρ2 with
    | none => rw [e1] at w; exact w.elim
    | some ρ3 =>
      rw [e1] at w
      simp only at w
      refine ⟨B2, lk, F3, ρ2, fps2, [], _, _, S3, hl, (fun t ht => nomatch ht), ρ3, e1, fun σ' fps' S4 ag => ?_⟩
      refine ⟨B2, lk, F3, ρ3, fps', S4, hl, ?_⟩
      cases e2 : exSs Φ lkN body ρ3 with
      | nx ρ4 =>
        rw [e2] at w
        intro F5 H5 σ5 fps5 S5
        exact ⟨hlt, F5, ρ4, fps5, S5.own.base, S5, w⟩
      | ret d ρ4 =>
        rw [e2] at w
        intro v fp F5 H5 σ5 fps5 S5
        exact w v fp F5 H5 σ5 fps5 (Sta.unbase S1.own S5)
      | exc c d ρ4 =>
        rw [e2] at w
        exact XS.unbase S1.own w
      | stk => rw [e2] at w; exact w.elim
  · have hie : i = ds.length := by omega
    subst hie
    refine .inl ⟨hJ.stop _ F2 H2 sF S2.own.sub rfl, ?_⟩
    rw [List.drop_length] at w
    simp only [forL] at w
    exact w F2 H2 σ2 fps2 (Sta.unbase S1.own S2)
theorem ts_while {c : IE} {body : List IS} (h : tS K Φ E lkN (.while_ c body) D' σ H) : tWhile (tT K Φ E c) (tSs K Φ E lkN body) D' σ H := by
  obtain ⟨B, lk, F, ρ, fps, S, hl, o⟩ := h
  simp only [exS] at o
  refine ⟨fun m σ H => ∃ F' ρ' fps', Sta K B lk F' H σ ρ' fps' [] ∧ OutS (XS K E B lk) (whL (ev Φ c) (exSs Φ lkN body) m ρ') (kN K B lk D'.nx) (kR K B lk D'.rt), ⟨FUEL, F, ρ, fps, S, o⟩, ?_⟩
  rintro m σ2 H2 ⟨F2, ρ2, fps2, S2, w⟩
  cases m with
  | zero => exact w.elim
  | succ m =>
    simp only [whL] at w
    refine ⟨B, lk, F2, ρ2, fps2, [], S2, ?_⟩
    cases e : ev Φ c ρ2 with
    | stk => rw [e] at w; exact w.elim
    | exc c d ρ3 => rw [e] at w; exact XS.xc w
    | ok d ρ3 =>
      rw [e] at w
      cases d <;> try exact w.elim
      rename_i b
      refine ⟨b, rfl, fun F3 H3 fps3 S3 => ?_⟩
      cases b with
      | false => exact iteF (w F3 H3 σ2 fps3 S3)
      | true =>
        simp only at w
        refine iteT ⟨fun σ' H' => ∃ F' ρ' fps', Sta K B lk F' H' σ' ρ' fps' [] ∧ OutS (XS K E B lk) (whL (ev Φ c) (exSs Φ lkN body) m ρ') (kN K B lk D'.nx) (kR K B lk D'.rt), fun σ' H' nx => ⟨m, by omega, nx⟩, B, lk, F3, ρ3, fps3, S3, hl, ?_⟩
        cases e2 : exSs Φ lkN body ρ3 with
        | nx ρ4 =>
          rw [e2] at w
          intro F5 H5 σ5 fps5 S5
          exact ⟨F5, ρ4, fps5, S5, w⟩
        | ret d ρ4 => rw [e2] at w; exact w
        | exc c d ρ4 => rw [e2] at w; exact w
        | stk => rw [e2] at w; exact w.elim
/-! ### lists changed -/
theorem RepL.setAt : ∀ {ds : List D} {vs : List V} {f g : List Addr} {j : Nat} {d : D} {v : V}, RepL K F H ds vs f → Rep K F H d v g → ∃ f', RepL K F H (ds.set j d) (vs.set j v) f' ∧ SubP f' (f ++ g)
  | [], vs, f, g, j, d, v, h, r => by
    have h' := h
    simp only [RepL] at h
    obtain ⟨rfl, rfl⟩ := h
    exact ⟨[], by simpa using h', ⟨g, by simp⟩⟩
  | d0 :: ds, vs, f, g, 0, d, v, h, r => by
    simp only [RepL] at h
    obtain ⟨v0, vs', f1, f2, rfl, h1, h2, rfl⟩ := h
    refine ⟨g ++ f2, ?_, ?_⟩
    · simp only [List.set_cons_zero, RepL]
      exact ⟨v, vs', g, f2, rfl, r, h2, rfl⟩
    · refine ⟨f1, ?_⟩
      refine (List.perm_append_comm (l₁ := g ++ f2) (l₂ := f1)).trans ?_
      rw [List.append_assoc]
      exact List.Perm.append_left f1 List.perm_append_comm
  | d0 :: ds, vs, f, g, j + 1, d, v, h, r => by
    simp only [RepL] at h
    obtain ⟨v0, vs', f1, f2, rfl, h1, h2, rfl⟩ := h
    obtain ⟨f', h3, hs⟩ := RepL.setAt (j := j) h2 r
    refine ⟨f1 ++ f', ?_, ?_⟩
    · simp only [List.set_cons_succ, RepL]
      exact ⟨v0, vs'.set j v, f1, f', rfl, h1, h3, rfl⟩
    · rw [List.append_assoc]
      exact SubP.app hs f1
theorem own_slot {i : Nat} {xs : List D} (S : Sta K B lk F H σ ρ fps ts) (e : getE ρ i = some (.lst true xs)) : ∃ a vs f, σ[i]? = some (some (.ref a)) ∧ H a = some (.lst vs) ∧ RepL K F H xs vs f ∧ fps.getD i [] = a :: f := by
  obtain ⟨v, e1, r⟩ := S.slots i _ e
  simp only [Rep] at r
  obtain ⟨a, vs, f, rfl, h1, h2, h3⟩ := r
  exact ⟨a, vs, f, e1, h1, h2, h3⟩
theorem isOwnL_inv {o : Option D} (h : isOwnL o = true) : ∃ xs, o = some (.lst true xs) := by
  unfold isOwnL at h
  split at h
  · exact ⟨_, rfl⟩
  · cases h
theorem ts_app {i : Nat} {e : IE} (h : tS K Φ E lkN (.app i e) D' σ H) : tDrop (tBM K "list" rAppend (tVar i) (tCons (tI K Φ E e) tNil)) D' σ H := by
  obtain ⟨B, lk, F, ρ, fps, S, hl, o⟩ := h
  simp only [exS] at o
  split at o
  · rename_i h0
    obtain ⟨xs0, e0⟩ := isOwnL_inv h0
    rw [outS_of] at o
    obtain ⟨a, vs0, f0, hσ, hH0, _, _⟩ := own_slot S e0
    refine ⟨.ref a, hσ, .inl ⟨rfl, vs0, SqL.of hH0⟩, B, lk, F, ρ, fps, [], S, o.impX (fun _ _ _ => XS.xc) fun d ρ1 q v fp F1 H1 fps1 S1 => ?_⟩
    split at q
    · rename_i xs e1
      split at q
      · rename_i hz
        obtain ⟨a', vs, f, hσ', hH, rl, hf⟩ := own_slot S1 e1
        rw [hσ] at hσ'
        cases hσ'
        have hlen := RepL.length _ _ _ rl
        have r1 : Rep K F1 H1 d v fp := S1.temps _ (List.mem_cons_self ..)
        refine ⟨a, vs, v, rfl, rfl, hH, by rw [hlen, ← SZ_eq]; exact hz, ?_⟩
        refine q F1 _ σ _ (Sta.write (o := true) (f' := f ++ fp) S1 e1 hσ hH hf (fun H' hk => ?_) (SubP.refl _))
        refine RepL.app (RepL.mono (Same.refl _) _ _ _ (fun b hb => hk b (List.mem_append_left _ hb)) rl) ?_
        simp only [RepL]
        exact ⟨v, [], fp, [], rfl, Rep.mono (Same.refl _) _ _ _ (fun b hb => hk b (List.mem_append_right _ hb)) r1, ⟨rfl, rfl⟩, by simp⟩
      · exact q.elim
    · exact q.elim
  · exact o.elim
theorem ts_ext {i : Nat} {e : IE} (h : tS K Φ E lkN (.ext i e) D' σ H) : tDrop (tBM K "list" rExtend (tVar i) (tCons (tI K Φ E e) tNil)) D' σ H := by
  obtain ⟨B, lk, F, ρ, fps, S, hl, o⟩ := h
  simp only [exS] at o
  split at o
  · rename_i h0
    obtain ⟨xs0, e0⟩ := isOwnL_inv h0
    rw [outS_of] at o
    obtain ⟨a, vs0, f0, hσ, hH0, _, _⟩ := own_slot S e0
    refine ⟨.ref a, hσ, .inl ⟨rfl, vs0, SqL.of hH0⟩, B, lk, F, ρ, fps, [], S, o.impX (fun _ _ _ => XS.xc) fun d ρ1 q v fp F1 H1 fps1 S1 => ?_⟩
    split at q
    · rename_i xs ys e1
      split at q
      · rename_i hz
        obtain ⟨a', vs, f, hσ', hH, rl, hf⟩ := own_slot S1 e1
        rw [hσ] at hσ'
        cases hσ'
        have hlen := RepL.length _ _ _ rl
        have r1 : Rep K F1 H1 (.lst true ys) v fp := S1.temps _ (List.mem_cons_self ..)
        simp only [Rep] at r1
        obtain ⟨b, us, g, rfl, hHb, rb, rfl⟩ := r1
        have hlen2 := RepL.length _ _ _ rb
        refine ⟨a, b, vs, us, rfl, rfl, hH, hHb, by rw [hlen, hlen2, ← SZ_eq]; exact hz, ?_⟩
        refine q F1 _ σ _ (Sta.write (o := true) (f' := f ++ g) S1 e1 hσ hH hf (fun H' hk => ?_) ?_)
        · exact RepL.app (RepL.mono (Same.refl _) _ _ _ (fun b hb => hk b (List.mem_append_left _ hb)) rl) (RepL.mono (Same.refl _) _ _ _ (fun c hb => hk c (List.mem_append_right _ (List.mem_cons_of_mem _ hb))) rb)
        · exact SubP.app (SubP.right [b] g) f
      · exact q.elim
    · exact q.elim
  · exact o.elim
theorem ts_seti {i : Nat} {e ix : IE} (h : tS K Φ E lkN (.seti i e ix) D' σ H) : tAsg (tI K Φ E e) (gSub (tVar i) (tI K Φ E ix) rSetL) D' σ H := by
  obtain ⟨B, lk, F, ρ, fps, S, hl, o⟩ := h
  simp only [exS] at o
  rw [outS_of] at o
  refine ⟨B, lk, F, ρ, fps, [], S, o.impX (fun _ _ _ => XS.xc) fun d ρ1 q v fp F1 H1 fps1 S1 => ?_⟩
  split at q
  · rename_i h0
    obtain ⟨xs0, e0⟩ := isOwnL_inv h0
    rw [outS_of] at q
    obtain ⟨a, vs0, f0, hσ, hH0, _, _⟩ := own_slot S1 e0
    refine ⟨.ref a, hσ, B, lk, F1, ρ1, fps1, _, S1, q.impX (fun _ _ _ => XS.xc) fun k ρ2 q2 u gp F2 H2 fps2 S2 => ?_⟩
    split at q2
    · rename_i xs k e1
      split at q2
      · rename_i j ej
        obtain ⟨a', vs, f, hσ', hH, rl, hf⟩ := own_slot S2 e1
        rw [hσ] at hσ'
        cases hσ'
        have hlen := RepL.length _ _ _ rl
        have rk : Rep K F2 H2 (.int k) u gp := S2.temps _ (List.mem_cons_self ..)
        have eu := rep_int rk
        subst eu
        have S3 := S2.drop
        have r1 : Rep K F2 H2 d v fp := S3.temps _ (List.mem_cons_self ..)
        obtain ⟨f', rs, hsub⟩ := RepL.setAt (j := j) rl r1
        refine ⟨a, vs, k, j, rfl, rfl, hH, by rw [hlen]; exact ej, ?_⟩
        refine q2 F2 _ σ _ (Sta.write (o := true) (f' := f') S3 e1 hσ hH hf (fun H' hk => ?_) hsub)
        exact RepL.mono (Same.refl _) _ _ _ (fun b hb => hk b (hsub.mem hb)) rs
      · exact q2.elim
    · exact q2.elim
  · exact q.elim
theorem ts_aug {i : Nat} {sub : Bool} {e : IE} (h : tS K Φ E lkN (.aug i sub e) D' σ H) : tAug i (tI K Φ E e) (ipI fun a b => if sub then a - b else a + b) D' σ H := by
  obtain ⟨B, lk, F, ρ, fps, S, hl, o⟩ := h
  simp only [exS] at o
  split at o
  · rename_i a e0
    rw [outS_of] at o
    obtain ⟨v0, hσ, r0⟩ := S.slots i _ e0
    have ev0 := rep_int r0
    subst ev0
    refine ⟨_, hσ, B, lk, F, ρ, fps, [], S, o.impX (fun _ _ _ => XS.xc) fun d ρ1 q v fp F1 H1 fps1 S1 => ?_⟩
    split at q
    · rename_i b
      split at q
      · rename_i hc
        have r1 : Rep K F1 H1 (.int b) v fp := S1.temps _ (List.mem_cons_self ..)
        have ev := rep_int r1
        subst ev
        refine ⟨a, b, rfl, rfl, ?_⟩
        have S2 := S1.drop.pushS (d := .int (if sub = true then a - b else a + b)) (v := .int (if sub = true then a - b else a + b)) (by simp [Rep])
        exact q F1 H1 _ _ (S2.store hc.1 (fun p hp z => by rw [← z, hl p hp] at hc; exact absurd hc.2 (by simp)) fun t ht => nomatch ht)
      · exact q.elim
    · exact q.elim
  · exact o.elim
/-- a list's item, by values -/
def rGetL (K : PySem.W.Frag) : V → V → Hp → VK → Prop := fun o i H Q => ∃ p xs k x, o = .ref p ∧ i = .int k ∧ H p = some (.lst xs) ∧ atI xs k = some x ∧ Q x H
theorem ts_augi {i : Nat} {sub : Bool} {ix e : IE} (h : tS K Φ E lkN (.augi i sub ix e) D' σ H) : tAugS (tVar i) (tI K Φ E ix) (tI K Φ E e) (rGetL K) (ipI fun a b => if sub then a - b else a + b) rSetL D' σ H := by
  obtain ⟨B, lk, F, ρ, fps, S, hl, o⟩ := h
  simp only [exS] at o
  split at o
  · rename_i h0
    obtain ⟨xs0, e0⟩ := isOwnL_inv h0
    rw [outS_of] at o
    obtain ⟨a, vs0, f0, hσ, hH0, _, _⟩ := own_slot S e0
    refine ⟨.ref a, hσ, B, lk, F, ρ, fps, [], S, o.impX (fun _ _ _ => XS.xc) fun kd ρ1 q u gp F1 H1 fps1 S1 => ?_⟩
    split at q
    · rename_i xs k e1
      split at q
      · rename_i a0 ea
        rw [outS_of] at q
        obtain ⟨a', vs, f, hσ', hH, rl, hf⟩ := own_slot S1 e1
        rw [hσ] at hσ'
        cases hσ'
        have hlen := RepL.length _ _ _ rl
        have rk : Rep K F1 H1 (.int k) u gp := S1.temps _ (List.mem_cons_self ..)
        have eu := rep_int rk
        subst eu
        have eat : atI vs k = some (.int a0) := by
          unfold atI at ea ⊢
          rw [hlen]
          cases hj : ixN xs.length k with
          | none => rw [hj] at ea; cases ea
          | some j =>
            rw [hj] at ea
            obtain ⟨w, fw, e3, r3, _⟩ := RepL.get j rl ea
            have := rep_int r3
            subst this
            exact e3
        refine ⟨a, vs, k, .int a0, rfl, rfl, hH, eat, B, lk, F1, ρ1, fps1, _, S1.drop, q.impX (fun _ _ _ => XS.xc) fun d ρ2 q2 v fp F2 H2 fps2 S2 => ?_⟩
        split at q2
        · rename_i ys b e2
          split at q2
          · rename_i j ej
            have rb : Rep K F2 H2 (.int b) v fp := S2.temps _ (List.mem_cons_self ..)
            have ev := rep_int rb
            subst ev
            refine ⟨a0, b, rfl, rfl, ?_⟩
            obtain ⟨a'', us, g, hσ'', hH2, rl2, hf2⟩ := own_slot S2 e2
            rw [hσ] at hσ''
            cases hσ''
            have hlen2 := RepL.length _ _ _ rl2
            refine ⟨a, us, k, j, rfl, rfl, hH2, by rw [hlen2]; exact ej, ?_⟩
            have S3 := S2.drop.pushS (d := .int (if sub = true then a0 - b else a0 + b)) (v := .int (if sub = true then a0 - b else a0 + b)) (by simp [Rep])
            have r1 : Rep K F2 H2 (.int (if sub = true then a0 - b else a0 + b)) (.int (if sub = true then a0 - b else a0 + b)) [] := by simp [Rep]
            obtain ⟨f', rs, hsub⟩ := RepL.setAt (j := j) rl2 r1
            exact q2 F2 _ σ _ (Sta.write (o := true) (f' := f') S3 e2 hσ hH2 hf2 (fun H' hk => RepL.mono (Same.refl _) _ _ _ (fun b hb => hk b (hsub.mem hb)) rs) hsub)
          · exact q2.elim
        · exact q2.elim
      · exact q.elim
    · exact q.elim
  · exact o.elim
end Mi
end

section
set_option Elab.async false
set_option linter.all false
set_option maxRecDepth 100000
/-! a, b = x, y; keyword calls; operands split. -/
namespace Mi
open PySem PySem.Spec PyProof.Rows L2
variable {K : PySem.W.Frag} {Φ : Fns} {E : XK} {B : Bs} {lk : List (Nat × V)} {F F' H H' : Hp} {σ : L2.St} {ρ : Env} {fps : List (List Addr)} {ts : List (V × Tm)} {Q : VK} {X : Cx} {lkN : List Nat} {D' : Ends}

def setL : L2.St → List Nat → List V → L2.St
  | σ, i :: is, v :: vs => setL (σ.set i (some v)) is vs
  | σ, _, _ => σ
def tParN (is : List Nat) (ta : TA) : TS := fun D σ H => ta σ H fun vs H1 => vs.length = is.length ∧ vs.length ≤ sizeLine ∧ D.nx (setL σ is.reverse vs.reverse) H1
theorem par_go (hN : X.N.Nodup) {pins : List (Addr × Obj)} : ∀ (ns : List Str) (is : List Nat) (us : List Value) (vs : List V) (σ : L2.St) (s : Shared), Inv X pins σ H s → Vals vs us → is.length = ns.length → us.length = ns.length →
    (∀ (j : Nat) n, ns[j]? = some n → ∃ i, is[j]? = some i ∧ X.N[i]? = some n ∧ X.env.scope.names.lookup n = some .local) → ∀ (Q : Unit → Shared → Prop), (∀ s', Inv X pins (setL σ is vs) H s' → Q () s') →
    wpAny (model X.prog X.w) X.A (assignInOrder (ns.map fun n => bindName X.env n) us) Q X.xe s
  | [], is, us, vs, σ, s, I, r, hi, hu, hn, Q, hq => by
    obtain rfl : is = [] := List.eq_nil_of_length_eq_zero hi
    obtain rfl : us = [] := List.eq_nil_of_length_eq_zero hu
    cases r
    exact assignInOrder_nil (hq s (by simpa [setL] using I))
  | n :: ns, is, us, vs, σ, s, I, r, hi, hu, hn, Q, hq => by
    match is, us, r, hi, hu, hn, hq with
    | i :: is, u :: us, r, hi, hu, hn, hq =>
      cases r with
      | @cons v _ vs _ rv rr =>
      obtain ⟨i', e1, e2, e3⟩ := hn 0 n rfl
      have e1 : i = i' := by simpa using e1
      subst e1
      refine assignInOrder_cons (wpAny_bindName (store_ok I hN e2 (.inl e3) rv (fun s2 I2 => ?_) (.inr e3)))
      exact par_go hN ns is us vs _ s2 I2 rr (by simpa using hi) (by simpa using hu) (fun j n hj => by
        obtain ⟨i, h1, h2⟩ := hn (j + 1) n (by simpa using hj)
        exact ⟨i, by simpa using h1, h2⟩) Q fun s' I' => hq s' (by simpa [setL] using I')
theorem ps_parN {is : List Nat} {ns : List Str} {ts vs : List Expr} {ta : TA} {pt : Pos} {kt k2 : Nat} {pt2 pos : Pos} (hc : X.calm = true) (hN : X.N.Nodup) (hl : is.length = ns.length) (hl2 : vs.length = ns.length) (hnm : ∀ (j : Nat) n, ns[j]? = some n → ∃ i, is[j]? = some i ∧ X.N[i]? = some n ∧ X.env.scope.names.lookup n = some .local)
    (ha : PA X vs ta) (hw : swappedStores [.Tuple ts kt pt] (.Tuple vs k2 pt2) X.env = pure (some ns)) (hs : swapsWithSole [.Tuple ts kt pt] (.Tuple vs k2 pt2) pos.line X.env = pure false) :
    PS X (.Assign [.Tuple ts kt pt] (.Tuple vs k2 pt2) pos) (tParN is ta) := by
  refine ⟨fun pins s σ H D I h => ?_⟩
  rw [exec_Assign_arm]
  refine wpAny_bind (wpAny_standAt ?_)
  rw [hs]
  refine wpAny_bind (wpAny_pure ?_)
  rw [if_neg (by decide)]
  refine wpAny_bind (wpAny_Tuple_spliced (thn (ha.run _ pins s σ H _ I h) fun us s1 ⟨xs, H1, I1, r1, hn, hz, q1⟩ => ⟨by rw [← r1.length]; exact hz, ?_⟩))
  have I2 : Inv X pins σ H1 { s1 with heap := s1.heap.push { cls := .type "tuple", data := .seq us.toArray } } := I1.kept (t' := s1.toks) fun b o e => Heap.get?_push_of_some _ e
  rw [hw]
  refine wpAny_bind (wpAny_pure ?_)
  have hlen : us.length = ns.length := by rw [← r1.length, hn, hl]
  show wpAny (model X.prog X.w) X.A (do rule "assign.swapped-stores"; let items ← unpackItems (.ref s1.heap.objs.size) ns.length none; assignInOrder (ns.reverse.map fun n => bindName X.env n) items.reverse; pure Flow.next) _ _ _
  have en : ns.length = us.toArray.size := by simp [hlen]
  rw [en]
  refine wpAny_bind (wpAny_rule (wpAny_bind (unpackItems_tuple (items := us.toArray) (I.ok.hd hc) (IsTup.new s1.heap _) fun h' hx' => ?_)))
  have I3 := I2.kept (h' := h') (t' := s1.toks) fun b o e => hx' b o (Nat.ne_of_lt (Heap.lt_size e)) e
  refine wpAny_bind (par_go (H := H1) hN ns.reverse is.reverse us.reverse xs.reverse σ _ I3 r1.reverse (by simpa using hl) (by simpa using hlen) (fun j n hj => ?_) _ fun s' I' => wpAny_pure ⟨_, H1, I', q1⟩)
  have hj2 : j < ns.length := by
    have := (List.getElem?_eq_some_iff.mp hj).1
    simpa using this
  rw [List.getElem?_reverse hj2] at hj
  obtain ⟨i, h1, h2⟩ := hnm _ n hj
  refine ⟨i, ?_, h2⟩
  rw [List.getElem?_reverse (by omega), hl]
  exact h1
theorem parE_vals : ∀ {is : List Nat} {os : List OV} {ρ ρ2 : Env}, parE lkN is os ρ = some ρ2 → is.length = os.length ∧ ∀ o ∈ os, ∃ d, o = .val d
  | [], [], ρ, ρ2, h => ⟨rfl, fun _ h => nomatch h⟩
  | i :: is, .val d :: os, ρ, ρ2, h => by
    simp only [parE] at h
    split at h
    · cases h
    · split at h
      · obtain ⟨h1, h2⟩ := parE_vals h
        exact ⟨by simp [h1], fun o ho => by
          rcases List.mem_cons.mp ho with rfl | ho
          · exact ⟨d, rfl⟩
          · exact h2 o ho⟩
      · cases h
  | [], _ :: _, ρ, ρ2, h => by simp [parE] at h
  | _ :: _, [], ρ, ρ2, h => by simp [parE] at h
  | _ :: _, .ref _ :: _, ρ, ρ2, h => by simp [parE] at h
theorem vals_noRefs : ∀ {os : List OV} {tms : List (V × Tm)}, OvsIs os tms → (∀ o ∈ os, ∃ d, o = .val d) → NoRefs tms
  | [], [], _, _ => fun _ h => nomatch h
  | o :: os, t :: tms, hi, hv => fun u hu j => by
    rcases List.mem_cons.mp hu with rfl | hu
    · obtain ⟨d, rfl⟩ := hv o (List.mem_cons_self ..)
      obtain ⟨fp, e⟩ := hi.1
      rw [e]; intro z; cases z
    · exact vals_noRefs hi.2 (fun o ho => hv o (List.mem_cons_of_mem _ ho)) u hu j
  | [], _ :: _, h, _ => h.elim
  | _ :: _, [], h, _ => h.elim
theorem par_sta : ∀ {is : List Nat} {os : List OV} {tms : List (V × Tm)} {ρ ρ2 : Env} {σ : L2.St} {fps : List (List Addr)}, Lks lk lkN → OvsIs os tms → Sta K B lk F H σ ρ fps (tms ++ []) → parE lkN is os ρ = some ρ2 → ∃ fps', Sta K B lk F H (setL σ is (tms.map (·.1))) ρ2 fps' []
  | [], [], [], ρ, ρ2, σ, fps, hl, hi, S, h => by
    simp only [parE] at h
    cases h
    exact ⟨fps, by simpa [setL] using S⟩
  | i :: is, .val d :: os, t :: tms, ρ, ρ2, σ, fps, hl, hi, S, h => by
    have hv := (parE_vals h).2
    have nr := vals_noRefs hi.2 (fun o ho => hv o (List.mem_cons_of_mem _ ho))
    simp only [parE] at h
    split at h
    · cases h
    · rename_i hc
      split at h
      · rename_i hlt
        obtain ⟨fp, e⟩ := hi.1
        obtain ⟨v, tm⟩ := t
        cases e
        have S' : Sta K B lk F H σ ρ fps ((v, .own d fp) :: (tms ++ [])) := S
        have S1 := S'.store hlt (fun p hp z => hc (z ▸ hl p hp)) (fun t ht => by
          rw [List.append_nil] at ht
          exact nr t ht i)
        obtain ⟨fps', S2⟩ := par_sta hl hi.2 S1 h
        exact ⟨fps', by simpa [setL] using S2⟩
      · cases h
  | [], _ :: _, _, ρ, ρ2, σ, fps, hl, hi, S, h => by simp [parE] at h
  | _ :: _, [], _, ρ, ρ2, σ, fps, hl, hi, S, h => by simp [parE] at h
  | _ :: _, .ref _ :: _, _, ρ, ρ2, σ, fps, hl, hi, S, h => by simp [parE] at h
  | [], [], _ :: _, ρ, ρ2, σ, fps, hl, hi, S, h => hi.elim
  | _ :: _, .val _ :: _, [], ρ, ρ2, σ, fps, hl, hi, S, h => hi.elim
theorem OvsIs.reverse {os : List OV} {tms : List (V × Tm)} (h : OvsIs os tms) : OvsIs os.reverse tms.reverse := by
  induction os generalizing tms with
  | nil => cases tms with
    | nil => trivial
    | cons _ _ => exact h.elim
  | cons o os ih => cases tms with
    | nil => exact h.elim
    | cons t tms =>
      rw [List.reverse_cons, List.reverse_cons]
      exact OvsIs.app (ih h.2) ⟨h.1, trivial⟩
theorem ts_par {is : List Nat} {es : List IE} (h : tS K Φ E lkN (.par is es) D' σ H) : tParN is (tOs K Φ E es) D' σ H := by
  obtain ⟨B, lk, F, ρ, fps, S, hl, o⟩ := h
  simp only [exS] at o
  rw [outS_of] at o
  refine ⟨B, lk, F, ρ, fps, [], S, o.impX (fun _ _ _ => XS.xc) fun os ρ1 q tms F1 H1 fps1 hi S1 => ?_⟩
  split at q
  · rename_i hz
    cases e : parE lkN is.reverse os.reverse ρ1 with
    | none => rw [e] at q; exact q.elim
    | some ρ2 =>
      rw [e] at q
      have hlen := (parE_vals e).1
      have hl2 := hi.length
      rw [List.length_reverse, List.length_reverse] at hlen
      obtain ⟨fps', S2⟩ := par_sta hl hi.reverse S1 e
      refine ⟨by simp; omega, by simp only [List.length_map, ← SZ_eq]; omega, ?_⟩
      rw [← List.map_reverse]
      exact q F1 H1 _ fps' S2
  · exact q.elim
/-! ### an item of a list, by values -/
theorem pget_list : PGet X (rGetL X.K) := by
  intro pins s σ H o i ov iv Q I rx ry h
  obtain ⟨p, xs, i, z, rfl, rfl, hq, he, q⟩ := h
  cases rx
  obtain ⟨t, rfl⟩ := ry
  obtain ⟨its, r, pl, hz⟩ := I.list (SqL.of hq)
  obtain ⟨j, h1, h2, h3, h4, h5⟩ := atI_get he
  obtain ⟨w, ew, rw'⟩ := r.get h2
  have hl := r.length
  have hn := line63
  have fin : EP X pins σ Q w s := ⟨z, H, I, rw', q⟩
  by_cases h0 : 0 ≤ i
  · have hj : i.toNat = j := by
      rw [seqIndex_of h0 h5] at h1
      exact Option.some.inj h1
    exact wpAny_getItem_list pl.isList h0 (by omega) (by rw [hj]; simpa using ew) fin
  · have hj : (i + (its.toArray.size : Int)).toNat = j := by
      rw [seqIndex_neg (by omega) h4] at h1
      rw [List.size_toArray, ← hl]
      exact Option.some.inj h1
    exact wpAny_getItem_list_neg pl.isList (by omega) (by rw [List.size_toArray] <;> omega) (by omega) (by rw [hj]; simpa using ew) fin
/-! ### operands split -/
theorem evs_app (Φ : Fns) : ∀ (as bs : List IE) (ρ : Env), evs Φ (as ++ bs) ρ = (evs Φ as ρ).bind fun os ρ1 => (evs Φ bs ρ1).bind fun os2 ρ2 => .ok (os ++ os2) ρ2
  | [], bs, ρ => by
    simp only [List.nil_append, evs]
    show _ = (evs Φ bs ρ).bind _
    cases evs Φ bs ρ <;> rfl
  | a :: as, bs, ρ => by
    rw [List.cons_append, evs_cons, evs_cons a as]
    cases evs Φ [a] ρ with
    | ok o ρ1 =>
      simp only [R.bind]
      rw [evs_app Φ as bs ρ1]
      cases evs Φ as ρ1 with
      | ok os ρ2 =>
        simp only [R.bind]
        cases evs Φ bs ρ2 with
        | ok os2 ρ3 => simp only [R.bind, List.append_assoc]
        | exc _ _ _ => rfl
        | stk => rfl
      | exc _ _ _ => rfl
      | stk => rfl
    | exc _ _ _ => rfl
    | stk => rfl
theorem t_app {as bs : List IE} {Q : List V → Hp → Prop} (h : tOs K Φ E (as ++ bs) σ H Q) : tOs K Φ E as σ H fun vs H1 => tOs K Φ E bs σ H1 fun zs H2 => Q (vs ++ zs) H2 := by
  obtain ⟨B, lk, F, ρ, fps, ts, S, o⟩ := h
  rw [evs_app, out_bind] at o
  refine ⟨B, lk, F, ρ, fps, ts, S, o.imp fun os ρ1 q tms F1 H1 fps1 hi S1 => ?_⟩
  rw [out_bind] at q
  refine ⟨B, lk, F1, ρ1, fps1, tms.reverse ++ ts, S1, q.imp fun os2 ρ2 q2 tms2 F2 H2 fps2 hi2 S2 => ?_⟩
  have := q2 (tms ++ tms2) F2 H2 fps2 (hi.app hi2) (by simpa using S2)
  simpa using this
/-! ### keyword calls -/
theorem wrep_at : ∀ {ds : List D} {vs : List V} {i : Nat}, WRepL K F H ds vs → ownL ds = false → (hi : i < ds.length) → ∃ v, vs[i]? = some v ∧ Rep K F H (ds[i]'hi) v []
  | [], _, i, _, _, hi => by simp at hi
  | d :: ds, [], i, w, _, _ => w.elim
  | d :: ds, v :: vs, 0, w, ho, hi => by
    simp only [ownL, Bool.or_eq_false_iff] at ho
    obtain ⟨fp, r⟩ := w.1
    exact ⟨v, rfl, Rep.nil ho.1 r⟩
  | d :: ds, v :: vs, i + 1, w, ho, hi => by
    simp only [ownL, Bool.or_eq_false_iff] at ho
    obtain ⟨v', e, r⟩ := wrep_at w.2 ho.2 (i := i) (by simpa using hi)
    exact ⟨v', by simpa using e, by simpa using r⟩
theorem permL_rep : ∀ {perm : List Nat} {ds : List D} {vs : List V}, WRepL K F H ds vs → ownL ds = false → (∀ i ∈ perm, i < ds.length) → RepP K F H (permL perm ds) (permL perm vs) (List.replicate perm.length [])
  | [], ds, vs, _, _, _ => trivial
  | i :: perm, ds, vs, w, ho, hp => by
    have hi := hp i (List.mem_cons_self ..)
    have ih := permL_rep w ho fun j hj => hp j (List.mem_cons_of_mem _ hj)
    obtain ⟨v, e2, r⟩ := wrep_at w ho hi
    have e1 : ds[i]? = some (ds[i]'hi) := by simp [hi]
    simp only [permL, List.filterMap_cons, e1, e2]
    exact ⟨r, ih⟩
theorem flat_rep : ∀ n : Nat, (List.replicate n ([] : List Addr)).flatten = []
  | 0 => rfl
  | n + 1 => by simp [List.replicate_succ, flat_rep n]
theorem o_callK {f : Nat} {perm : List Nat} {vs : List V} (h : OpsAt K E (fun os ρ1 => match getAll ρ1 os with
    | some ds => if ownL ds then .stk else match permD perm ds with
      | some ds' => match Φ f ds' with
        | .ok d _ => .ok d ρ1
        | .exc c d _ => .exc c d ρ1
        | .stk => .stk
      | none => .stk
    | none => .stk) σ Q vs H) : spI K Φ f (permL perm vs) H Q E := by
  obtain ⟨B, lk, F, ρ, fps, ts, os, tms, rfl, hi, S, o⟩ := h
  cases e : getAll ρ os with
  | none => simp only [e] at o; exact o.elim
  | some ds =>
    simp only [e] at o
    split at o
    · exact o.elim
    · rename_i ho
      have ho : ownL ds = false := by simpa using ho
      unfold permD at o
      split at o
      · rename_i ds' e2
        split at e2
        · rename_i hp
          cases e2
          have hp : ∀ i ∈ perm, i < ds.length := fun i hi => by simpa using List.all_eq_true.mp hp i hi
          have w := S.wrepsR hi e
          have rp := permL_rep w ho hp
          refine ⟨F, _, _, S.own.sub, rp, by rw [flat_rep]; exact .nil, fun a ha => (by rw [flat_rep] at ha; cases ha), ?_⟩
          have ow : OwnOk B F H ([] ++ (tfp ts ++ fps.flatten)) := S.drops.own
          cases eΦ : Φ f (permL perm ds) with
          | stk => rw [eΦ] at o; exact o.elim
          | exc c d as =>
            rw [eΦ] at o
            have o : XC K E B lk σ c d ρ := o
            intro cls dx F' H' fps' O rx rp'
            rw [flat_rep] at O
            obtain ⟨ow', keep, hF⟩ := ow.call O
            exact o cls dx F' H' fps (Sta.drops (us := ts) (by simpa using Sta.mono (all := []) S.drops hF keep (ow'.less (SubP.right _ _)))) rx
          | ok d as =>
            rw [eΦ] at o
            intro v F' H' fp fps' O r rp'
            rw [flat_rep] at O
            obtain ⟨ow', keep, hF⟩ := ow.call O
            refine o v fp F' H' fps (Sta.pushOwn (Sta.mono (all := []) S.drops hF keep (ow'.less (SubP.right _ _))) (ow'.less ?_) r)
            exact SubP.app2 (SubP.left fp fps'.flatten) _
        · cases e2
      · exact o.elim
end Mi
end

section
set_option Elab.async false
set_option linter.all false
set_option maxRecDepth 100000
/-! What a def promises where no guard stands; calls; the law's end. -/
namespace Mi
open PySem PySem.Spec PyProof.Rows L2

theorem deeper_guards {A : Around} (env : PySem.Env) (h : A.guards = some []) : (A.deeper env).guards = some [] := h
structure FnG (P : Program) (w : World) (K : PySem.W.Frag) (mg : Str → Option Value) (base : Heap) (CX : CXT) (k : Nat) (f : Addr) (fd : FuncData) (ps : List Str) (sp : Sp) : Prop where
  len : ∀ vs H Q E, sp vs H Q E → vs.length = ps.length
  run : ∀ (A : Around) (outer : List PySem.Env) (s : Shared) (H : Hp) (args : Args) (us : List Value) (vs : List V) (Q : VK) (E : XK), Room k A → A.guards = some [] → Env0 P w K mg base A outer s H → BindsTo s fd args (ps.zip us) → Vals vs us → sp vs H Q E →
    codeAny (model P w) A (.call (.ref f) args) (CR CX outer P w H s Q E) s
theorem fn_ofG {CX : CXT} {P : Program} {w : World} {K : PySem.W.Frag} {mg : Str → Option Value} {base : Heap} {k : Nat} {f : Addr} {name qual : Str} {params : Arguments} {body : List Stmt} {scope : Scope} {dV kV doc pm cdv ct oc : Value} {an od : Option Addr}
    {osl : Array (Option Value)} {N ps : List Str} {sp : Sp} (lk : K.lookup f = some ⟨oc, od, .func (PySem.W.fnOf name qual params body scope dV kV doc pm an cdv ct), osl⟩) (hcd : PySem.W.codeIn K cdv qual = true) (S : FnScope N ps scope)
    (len : ∀ vs H Q E, sp vs H Q E → vs.length = ps.length)
    (hbody : ∀ (A : Around) (outer : List PySem.Env) (s : Shared) (H : Hp) (vs : List V) (Q : VK) (E : XK), Room k (A.deeper (envOfC qual scope s.heap.objs.size f cdv)) → A.guards = some [] → sp vs H Q E →
      ∃ t, PSs (cxOf CX P w K mg base N qual scope f cdv A outer s H E) body t ∧ t { nx := fun _ H' => Q .non H', rt := Q } (start N vs) H) :
    FnG P w K mg base CX (k + 1) f (PySem.W.fnOf name qual params body scope dV kV doc pm an cdv ct) ps sp where
  len := len
  run := fun A outer s H args us vs Q E hr hg e0 hb r hsp => by
    have inH : K.In s.heap := e0.mod.kin.keeps fun b o e => (e0.bs b o e).1
    have lim := e0.mod.nolimit.keeps fun b o e => (e0.bs b o e).1
    refine codeAny_call_function hr.depth (inH _ _ lk) rfl S.co S.gen rfl (PySem.W.codeRec_of inH hcd) (hb _ _ _ _ ?_)
    refine wpAny_newFunctionEnv_cells S.kind (fun y hy => (S.par y.1 (List.of_mem_zip hy).1).imp_right fun q => ⟨q, PySem.W.cellsFrom_some _ _ _ (.inl q)⟩) fun env he s1 x => ?_
    subst he
    obtain ⟨t, ht, hq⟩ := hbody A outer s H vs Q E (hr.deeper _) hg hsp
    refine ⟨lim.keeps x.toInCall.keep, codeAny_func (wpAny_mono (ht.run [] s1 (start N vs) H _ (inv_start S hr.hd e0 (len _ _ _ _ hsp) r x) hq) (fun fl s' hs => ?_) fun _ _ hs => hs)⟩
    match fl, hs with
    | .ret u, ⟨v, _, H', J, rv, q⟩ => exact ⟨v, H', J.os, J.bare, J.base, J.hok, rv, q⟩
    | .next, ⟨_, H', J, q⟩ => exact ⟨V.non, H', J.os, J.bare, J.base, J.hok, rfl, q⟩
    | .brk, ⟨_, _, _, q⟩ => exact q.elim
    | .cont, ⟨_, _, _, q⟩ => exact q.elim
section
variable {X : Cx} {CX : CXT} {k : Nat} {f : Addr} {fd : FuncData} {ps ks : List Str} {sp : Sp} {E : XK} {x : Str} {p pos : Pos} {e : Expr} {es : List Expr} {kws : List Keyword} {t tk : TA}
/-- the callee runs -/
theorem run_g {pins : List (Addr × Obj)} {σ : L2.St} {H : Hp} {s : Shared} {Q : VK} {args : Args} {us : List Value} {vs : List V} (G : FnG X.prog X.w X.K X.mg X.base CX k f fd ps sp) (hr : Room k X.A) (hg : X.A.guards = some []) (hx : Passes CX X E)
    (I : Inv X pins σ H s) (hb : BindsTo s fd args (ps.zip us)) (r : Vals vs us) (h : sp vs H Q E) : codeAny (model X.prog X.w) X.A (.call (.ref f) args) (fun r s' => match r with
      | .ok (.ret u) => EP X pins σ Q u s'
      | .ok _ => False
      | .error e => X.xe e s') s := by
  refine codeAny_mono (G.run X.A X.stack s H args us vs Q E hr hg I.env0 hb r h) fun r s' hq => ?_
  match r, hq with
  | .error e, hq => exact hx pins σ H s e s' I hq
  | .ok (.ret u), hq => exact I.after hq
theorem call_end' {pins : List (Addr × Obj)} {σ : L2.St} {s : Shared} {Q : VK} {us : List Value} {kw : List (Str × Value)} (h : codeAny (model X.prog X.w) X.A (.call (.ref f) ⟨us, kw⟩) (fun r s' => match r with
      | .ok (.ret u) => EP X pins σ Q u s'
      | .ok _ => False
      | .error e => X.xe e s') s) : wpAny (model X.prog X.w) X.A (call (.ref f) us kw) (EP X pins σ Q) X.xe s := by
  refine wpAny_call (codeAny_mono h fun r s' hq => ?_)
  match r, hq with
  | .error e, hq => exact hq
  | .ok (.ret u), hq => exact hq
/-- f(e, ..) -/
theorem pe_callG (G : FnG X.prog X.w X.K X.mg X.base CX k f fd ps sp) (hr : Room k X.A) (hgd : X.A.guards = some []) (hg : Gl X x) (hm : X.mg x = some (.ref f)) (hk : PySem.W.keepIn X.K (.ref f) = true) (hb : ∀ us : List Value, us.length = ps.length → bindArgs fd ⟨us, []⟩ = pure (ps.zip us)) (hx : Passes CX X E)
    (ha : PA X (e :: es) t) (hdb : (x == ("__debug__" : Str)) = false) (he : starEach (e :: es) X.env = (false, eval e X.env) :: starEach es X.env) (hpl : (backTo pos (starEach es X.env)).any (·.1) = false) :
    PE X (.Call (.Name x p) (e :: es) [] pos) (fun σ H Q => t σ H fun vs H1 => sp vs H1 Q E) := by
  refine ⟨fun pins s σ H Q I h => ?_⟩
  refine wpAny_Call_Name_kw (ld_glob I hg hm ?_ hdb)
  refine PySem.W.callWith_K (h₀ := X.base) I.ok.mod.kin hk (thn (ha.run pos pins s σ H _ I h) fun us s1 ⟨vs, H1, I1, r, q⟩ => ⟨I1.kIn, ?_⟩) he hpl
  refine call_end' (run_g G hr hgd hx I1 (.of_eq (hb us ?_)) r q)
  rw [← r.length]
  exact G.len _ _ _ _ q
/-- f(k = v, ..) -/
theorem pe_callKG (G : FnG X.prog X.w X.K X.mg X.base CX k f fd ps sp) (hr : Room k X.A) (hgd : X.A.guards = some []) (hg : Gl X x) (hm : X.mg x = some (.ref f)) (hk : PySem.W.keepIn X.K (.ref f) = true) {perm : List Nat} (hb : ∀ us : List Value, us.length = ks.length → bindArgs fd ⟨[], ks.zip us⟩ = pure (ps.zip (permL perm us))) (hx : Passes CX X E)
    (hkw : PK X kws tk) (hn : ∀ σ H (Q : List V → Hp → Prop), tk σ H Q → tk σ H fun vs H1 => vs.length = ks.length ∧ Q vs H1) (hall : (backToKw pos (keywordEach kws X.env)).all (·.1.isSome) = true) (hks : (backToKw pos (keywordEach kws X.env)).filterMap (·.1) = ks)
    (hdb : (x == ("__debug__" : Str)) = false) (hpl : ((backTo pos (starEach [] X.env)).any (·.1) || (backToKw pos (keywordEach kws X.env)).any (·.1.isNone)) = false) :
    PE X (.Call (.Name x p) [] kws pos) (fun σ H Q => tk σ H fun vs H1 => sp (permL perm vs) H1 Q E) := by
  refine ⟨fun pins s σ H Q I h => ?_⟩
  refine wpAny_Call_Name_kw (ld_glob I hg hm ?_ hdb)
  refine PySem.W.callWith_KW0 (h₀ := X.base) I.ok.mod.kin hk hall ?_ hpl
  refine thn (hkw.run pos pins s σ H _ I (hn σ H _ h)) fun us s1 ⟨vs, H1, I1, r, hl, q⟩ => ⟨I1.kIn, ?_⟩
  rw [hks]
  exact call_end' (run_g G hr hgd hx I1 (.of_eq (hb us (by rw [← r.length]; exact hl))) (vals_perm perm r) q)
where
  vals_perm : ∀ (perm : List Nat) {vs : List V} {us : List Value}, Vals vs us → Vals (permL perm vs) (permL perm us)
    | [], vs, us, r => .nil
    | i :: perm, vs, us, r => by
      have ih := vals_perm perm r
      simp only [permL, List.filterMap_cons]
      cases e : vs[i]? with
      | none =>
        have : us[i]? = none := by
          rw [List.getElem?_eq_none_iff] at e ⊢
          rw [← r.length]
          exact e
        rw [this]
        exact ih
      | some v =>
        obtain ⟨u, e2, rv⟩ := r.get e
        rw [e2]
        exact .cons rv ih
end
/-! ### the law's own call -/
section
variable {P : Program} {w : World} {K : PySem.W.Frag} {mg mb : Str → Option Value} {CX : CXT} {k : Nat} {fa a : Addr} {fd : FuncData} {x : Str} {sp : Sp} {s₁ : Shared} {vs : List Value} {ns : List Int}
/-- the abstract heap at the law's entry: the script alone, unless the module knows it -/
def scrH (K : PySem.W.Frag) (a : Addr) (vs : List Value) (ns : List Int) : Hp := fun b => if b = a ∧ K.lookup a = none then some (.frz { cls := .type "list", data := .seq vs.toArray } (.lst (ns.map V.int))) else none
theorem scrH_some {b : Addr} {o : HO} (h : scrH K a vs ns b = some o) : b = a ∧ K.lookup a = none ∧ o = .frz { cls := .type "list", data := .seq vs.toArray } (.lst (ns.map V.int)) := by
  unfold scrH at h
  split at h
  · rename_i c
    exact ⟨c.1, c.2, (Option.some.inj h).symm⟩
  · cases h
theorem scrH_only : Only (scrH K a vs ns) := fun b => by
  cases e : scrH K a vs ns b with
  | none => exact .inl rfl
  | some o => exact .inr ⟨_, _, by rw [(scrH_some e).2.2]⟩
theorem scrH_seq (KX : K.In s₁.heap) (ha : s₁.heap.get? a = some { cls := .type "list", data := .seq vs.toArray }) (hi : IntsAre vs ns) (hl : ns.length ≤ sizeLine) : SqL K (scrH K a vs ns) a (ns.map V.int) := by
  cases hk : K.lookup a with
  | none => exact .inl (.inr ⟨_, if_pos ⟨rfl, hk⟩⟩)
  | some o =>
    have e := KX a o hk
    rw [ha] at e
    cases e
    exact .inr ⟨_, vs.toArray, _, hk, rfl, rfl, rfl, by rw [List.size_toArray, hi.length]; exact hl, by simpa using vals_ints hi⟩
theorem scrH_ok (ha : s₁.heap.get? a = some { cls := .type "list", data := .seq vs.toArray }) (hi : IntsAre vs ns) (hl : ns.length ≤ sizeLine) : HOk P w (scrH K a vs ns) s₁.heap := fun b o e => by
  obtain ⟨rfl, _, rfl⟩ := scrH_some e
  exact ⟨ha, by rw [List.length_map]; exact hl, vs, _, vals_ints hi, ha⟩
/-- the law's def, called on the script -/
theorem law_callG (KX : K.In s₁.heap) (hns : s₁.heap.Ns mainGlobals mg) (hb : s₁.heap.Ns builtinsNs mb) (hbb : ∀ x : Str, x ≠ "__name__" → mb x = bootBuiltins x) (hlim : s₁.heap.NoLimit) (hg : s₁.gens = #[])
    (ha : s₁.heap.get? a = some { cls := .type "list", data := .seq vs.toArray }) (hi : IntsAre vs ns) (hl : ns.length ≤ sizeLine) (hr : Room k callerA)
    (F : ∀ base : Heap, K.In base → base.Ns mainGlobals mg → FnG P w K mg base CX k fa fd [x] sp) (hbind : ∀ (s : Shared) (u : Value), BindsTo s fd ⟨[u], []⟩ [(x, u)])
    (hsp : ∀ H : Hp, Only H → SqL K H a (ns.map V.int) → sp [.ref a] H (fun v _ => v = .bl true) fun _ _ _ => False)
    (hCX : ∀ H e s', CX [] H s₁ (fun _ _ _ => False) e s' → False) :
    codeAny (model P w) callerA (.call (.ref fa) ⟨[.ref a], []⟩) (fun r s' => r = .ok (.ret (.bool true)) ∧ OldK s₁.heap s'.heap ∧ s'.os = s₁.os ∧ AllBare s'.gens) s₁ := by
  have free : ∀ {b : Addr} {o : Obj}, s₁.heap.get? b = some o → (b = a → o ≠ { cls := .type "list", data := .seq vs.toArray } ∨ ∃ u, K.lookup a = some u) → scrH K a vs ns b = none := fun {b o} e h => by
    cases q : scrH K a vs ns b with
    | none => rfl
    | some u =>
      obtain ⟨rfl, hn, _⟩ := scrH_some q
      rcases h rfl with h | ⟨u, h⟩
      · rw [ha] at e; exact absurd (Option.some.inj e).symm h
      · rw [hn] at h; cases h
  have nsK : ∀ {b : Addr} {m : Str → Option Value}, s₁.heap.Ns b m → (hidT s₁.heap (scrH K a vs ns)).Ns b m := fun {b m} ⟨o, es, ep, e, d, r⟩ => ⟨o, es, ep, hidT_get e (free e fun _ => .inl fun z => by rw [z] at d; cases d), d, r⟩
  have KB : K.In (hidT s₁.heap (scrH K a vs ns)) := fun b o e => hidT_get (KX b o e) (free (KX b o e) fun z => .inr ⟨o, z ▸ e⟩)
  have hok : HOk P w (scrH K a vs ns) s₁.heap := scrH_ok ha hi hl
  obtain ⟨mc, l1, l2⟩ := hlim
  have e0 : Env0 P w K mg (hidT s₁.heap (scrH K a vs ns)) callerA [] s₁ (scrH K a vs ns) :=
    ⟨rfl, ⟨KB, nsK hns, ⟨mb, nsK hb, hbb⟩, mc, nsK l1, l2⟩, fun b o e => of_hidT e, Nat.le_of_eq (hidT_size _ _), trivial, fun b hb => (nomatch hb), hok, .of_eq hg⟩
  refine codeAny_mono ((F _ KB (nsK hns)).run callerA [] s₁ _ ⟨[.ref a], []⟩ [.ref a] [.ref a] _ _ hr rfl e0 (hbind s₁ (.ref a)) (.cons rfl .nil) (hsp _ scrH_only (scrH_seq KX ha hi hl))) fun r s' h => ?_
  match r, h with
  | .error e, h => exact (hCX _ e s' h).elim
  | .ok (.ret u), ⟨v, H', os, bare, un, hok', r', q⟩ =>
    have q : v = .bl true := q
    subst q
    have r' : u = Value.bool true := r'
    subst r'
    refine ⟨rfl, OldK.of_keep fun b o e => ?_, os, bare⟩
    cases q : scrH K a vs ns b with
    | none => exact un.keep b o e q (fun z => nomatch z) (fun z => nomatch z)
    | some u =>
      obtain ⟨_, _, rfl⟩ := scrH_some q
      have e1 := (hok b _ q).1
      rw [e] at e1
      cases e1
      exact (hok' b _ (un.frzs b _ _ q)).1
end
/-- the law, from its def's promise -/
theorem walk_ofG {l : PySem.W.OpenLaw} {n k : Nat} {q : Program} {loose : List Str} {XP : (Str → Option Value) → Heap → Prop} {YP : World → Heap → Prop} {d : DefRec} {CX : World → CXT} {x : Str}
    (hn : l.most = some n) (hn2 : n ≤ sizeLine) (hdf : d.params.defaults = []) (hr : Room k callerA)
    (F : ∀ (w : World) (mg : Str → Option Value) (fa : Addr) (h : Heap), YP w h → h.Ns mainGlobals mg → mg d.name = some (.ref fa) →
      ∃ (K : PySem.W.Frag) (fd : FuncData) (sp : Sp), K.In h ∧ (∀ (s : Shared) (u : Value), BindsTo s fd ⟨[u], []⟩ [(x, u)]) ∧
        (∀ (H : Hp) (a : Addr) (ns : List Int), ns.length ≤ n → Only H → SqL K H a (ns.map V.int) → sp [.ref a] H (fun v _ => v = .bl true) fun _ _ _ => False) ∧
        ∀ base : Heap, K.In base → base.Ns mainGlobals mg → FnG l.prog w K mg base (CX w) k fa fd [x] sp)
    (hCX : ∀ (w : World) (H : Hp) (s : Shared) (e : Value) (s' : Shared), CX w [] H s (fun _ _ _ => False) e s' → False) :
    PySem.W.WalkO q loose XP YP l.row.toRowW d [] (fun f vs => PySem.call f vs) :=
  Att.attach_call hn hdf fun w _ s₁ mg mb fa _ _ _ _ a vs ns G Y _ _ _ hmg hobj hints hlen hg => by
    obtain ⟨K, fd, sp, KX, hb, hsp, hF⟩ := F w mg fa _ Y G.T.g hmg
    exact law_callG KX G.T.g G.T.b G.T.builtins G.T.nolimit hg hobj hints (Nat.le_trans hlen hn2) hr hF hb (fun H hO hS => hsp H a ns hlen hO hS) fun H e s' => hCX w H s₁ e s'
end Mi
end

section
set_option Elab.async false
set_option linter.all false
set_option maxRecDepth 100000
/-! The check that an expression of the text and one of the small language are the same. -/
namespace Mi
open PySem PySem.Spec PyProof.Rows L2
variable {K : PySem.W.Frag} {Φ : Fns} {E : XK} {B : Bs} {lk : List (Nat × V)} {F F' H H' : Hp} {σ : L2.St} {ρ : Env} {fps : List (List Addr)} {ts : List (V × Tm)} {Q : VK} {X : Cx} {lkN : List Nat} {D' : Ends}

/-! ### stars -/
def items : List D → List V → List (V × Tm)
  | d :: ds, v :: vs => (v, .own d []) :: items ds vs
  | _, _ => []
theorem items_fst : ∀ {ds : List D} {vs : List V}, ds.length = vs.length → (items ds vs).map (·.1) = vs
  | [], [], _ => rfl
  | d :: ds, v :: vs, h => by simp [items, items_fst (ds := ds) (vs := vs) (by simpa using h)]
  | [], _ :: _, h => by simp at h
  | _ :: _, [], h => by simp at h
theorem items_is : ∀ {ds : List D} {vs : List V}, ds.length = vs.length → OvsIs (ds.map .val) (items ds vs)
  | [], [], _ => trivial
  | d :: ds, v :: vs, h => ⟨⟨[], rfl⟩, items_is (by simpa using h)⟩
  | [], _ :: _, h => by simp at h
  | _ :: _, [], h => by simp at h
theorem Sta.pushItems : ∀ {ds : List D} {vs : List V} {ts : List (V × Tm)}, Sta K B lk F H σ ρ fps ts → RepL K F H ds vs [] → Sta K B lk F H σ ρ fps ((items ds vs).reverse ++ ts)
  | [], vs, ts, S, r => by simpa [items] using S
  | d :: ds, vs, ts, S, r => by
    simp only [RepL] at r
    obtain ⟨v, vs', f1, f2, rfl, r1, r2, e⟩ := r
    obtain ⟨rfl, rfl⟩ : f1 = [] ∧ f2 = [] := by simpa using e.symm
    have := Sta.pushItems (S.pushS r1) r2
    simpa [items] using this
theorem SrcOk.ofOwn {d : D} {v : V} {fp : List Addr} {xs : List D} (sF : Same F H) (h : Rep K F H d v fp) (e : seqOf d = some xs) (ho : ownL xs = false) : ∃ p vs, v = .ref p ∧ (SqT K H p vs ∨ SqL K H p vs) ∧ RepL K F H xs vs [] := by
  unfold seqOf at e
  split at e
  · rename_i o ys
    cases e
    cases o with
    | true =>
      simp only [Rep] at h
      obtain ⟨a, vs, f, rfl, h1, h2, _⟩ := h
      exact ⟨a, vs, rfl, .inr (SqL.of h1), RepL.nil ho h2⟩
    | false =>
      simp only [Rep] at h
      obtain ⟨a, vs, rfl, h1, h2, _⟩ := h
      exact ⟨a, vs, rfl, .inr (SqL.of (sF _ _ h1)), h2⟩
  · cases e
    simp only [Rep] at h
    obtain ⟨a, vs, rfl, h1, h2⟩ := h
    exact ⟨a, vs, rfl, .inl (Same.seqT sF h1), RepL.nil ho h2⟩
  · cases e
    simp only [Rep] at h
    obtain ⟨a, vs, rfl, h1, h2, _⟩ := h
    exact ⟨a, vs, rfl, .inr (Same.seq sF h1), h2⟩
  · cases e
theorem t_star {ie : IE} {es : List IE} {Q : List V → Hp → Prop} (h : tOs K Φ E (.star ie :: es) σ H Q) : StX.tStar K (tI K Φ E ie) (tOs K Φ E es) σ H Q := by
  obtain ⟨B, lk, F, ρ, fps, ts, S, o⟩ := h
  simp only [evs] at o
  rw [out_bind] at o
  refine ⟨B, lk, F, ρ, fps, ts, S, o.imp fun d ρ1 q v fp F1 H1 fps1 S1 => ?_⟩
  cases e : seqOf d with
  | none => rw [e] at q; exact q.elim
  | some ds =>
    rw [e] at q
    simp only at q
    split at q
    · exact q.elim
    · rename_i ho
      have ho : ownL ds = false := by simpa using ho
      rw [out_bind] at q
      have r : Rep K F1 H1 d v fp := S1.temps _ (List.mem_cons_self ..)
      obtain ⟨p, vs, rfl, hq, rl⟩ := SrcOk.ofOwn S1.own.sub r e ho
      have hl := RepL.length _ _ _ rl
      refine ⟨p, vs, rfl, hq, B, lk, F1, ρ1, fps1, (items ds vs).reverse ++ ts, S1.drop.pushItems rl, q.imp fun os ρ2 q2 tms F2 H2 fps2 hi S2 => ?_⟩
      have := q2 (items ds vs ++ tms) F2 H2 fps2 ((items_is hl.symm).app hi) (by simpa using S2)
      rwa [List.map_append, items_fst hl.symm] at this
/-! ### what the check knows -/
structure Gx where
  /-- the text's functions: name, parameters -/
  fns : List (Str × List Str)
  /-- how functions are called by keywords: the function, the keywords as written, where each parameter's value stands among them -/
  kws : List (Nat × List Str × List Nat)
  /-- the module's constants -/
  cns : List (Str × D)
  /-- built-in names that the module leaves alone -/
  blt : List Str
def ownFn (own : Option Scope) (x : Str) : Bool := match own with
  | none => true
  | some s => s.names.lookup x == some .cell
structure XOk (g : Gx) (N : List Str) (sc : Scope) (own : Option Scope) (Φ : Fns) (E : XK) (X : Cx) : Prop where
  hN : X.N = N
  nd : N.Nodup
  hsc : X.env.scope = sc
  calm : X.calm = true
  units : X.A.units + 200 < cLine
  gds : X.A.guards = some []
  fnm : ∀ x, ownFn own x = true → X.fn x = true
  ownk : ∀ s, own = some s → ∀ x, s.names.lookup x = some .local → sc.names.lookup x = some .local
  fns : ∀ (i : Nat) p, g.fns[i]? = some p → ∃ k CX f fd, FnG X.prog X.w X.K X.mg X.base CX k f fd p.2 (spI X.K Φ i) ∧ Room k X.A ∧ X.mg p.1 = some (.ref f) ∧ PySem.W.keepIn X.K (.ref f) = true ∧
    (∀ us : List Value, us.length = p.2.length → bindArgs fd ⟨us, []⟩ = pure (p.2.zip us)) ∧ (∀ ks perm, (i, ks, perm) ∈ g.kws → ∀ us : List Value, us.length = ks.length → bindArgs fd ⟨[], ks.zip us⟩ = pure (p.2.zip (permL perm us))) ∧
    Passes CX X E ∧ ∀ l H s e s', ¬ CX l H s noX e s'
  cns : ∀ p ∈ g.cns, ∃ v u, X.mg p.1 = some u ∧ RelV v u ∧ ∀ F H, Rep X.K F H p.2 v []
  blt : ∀ x ∈ g.blt, X.mg x = none

/-! ### small checks -/
def nmB (x : Str) : Bool := !(x == ("__debug__" : Str)) && !(x == ("__classdict__" : Str)) && !(x == ("__name__" : Str))
def visB (sc : Scope) (x : Str) : Bool := match sc.names.lookup x with
  | some .local => true
  | some .cell => true
  | some .free => true
  | _ => false
def glB (sc : Scope) (x : Str) : Bool := sc.names.lookup x == some .globalImplicit
def varB (N : List Str) (sc : Scope) (i : Nat) : Expr → Bool
  | .Name x _ => N[i]? == some x && visB sc x && nmB x
  | _ => false
def constB : D → Expr → Bool
  | .int i, .Constant (.int j) _ _ => decide (i = j)
  | .bl a, .Constant (.bool b) _ _ => decide (a = b)
  | .non, .Constant .none _ _ => true
  | .str x, .Constant (.str y) _ _ => decide (x = y)
  | _, _ => false
def tyOf (n : String) (x : Str) : Bool := decide (bootBuiltins x = some (.type n))
def typIs : D → String → Bool
  | .typ n, m => decide (n = m)
  | _, _ => false
mutual
def eqDB : D → D → Bool
  | .int i, .int j => decide (i = j)
  | .bl a, .bl b => decide (a = b)
  | .non, .non => true
  | .str x, .str y => decide (x = y)
  | .typ x, .typ y => decide (x = y)
  | .tup as, .tup bs => eqDBs as bs
  | .lst o as, .lst p bs => decide (o = p) && eqDBs as bs
  | .cls c, .cls d => decide (c = d)
  | _, _ => false
def eqDBs : List D → List D → Bool
  | [], [] => true
  | a :: as, b :: bs => eqDB a b && eqDBs as bs
  | _, _ => false
end
mutual
theorem eqDB_ok : ∀ {a b : D}, eqDB a b = true → a = b
  | .int i, .int j, h => by simp [eqDB] at h; rw [h]
  | .bl i, .bl j, h => by simp [eqDB] at h; rw [h]
  | .non, .non, h => rfl
  | .str i, .str j, h => by simp [eqDB] at h; rw [h]
  | .typ i, .typ j, h => by simp [eqDB] at h; rw [h]
  | .cls i, .cls j, h => by simp [eqDB] at h; rw [h]
  | .tup as, .tup bs, h => by simp only [eqDB] at h; rw [eqDBs_ok h]
  | .lst o as, .lst p bs, h => by
    simp only [eqDB, Bool.and_eq_true, decide_eq_true_eq] at h
    rw [eqDBs_ok h.2, h.1]
theorem eqDBs_ok : ∀ {a b : List D}, eqDBs a b = true → a = b
  | [], [], _ => rfl
  | a :: as, b :: bs, h => by
    simp only [eqDBs, Bool.and_eq_true] at h
    rw [eqDB_ok h.1, eqDBs_ok h.2]
end
def globB (g : Gx) (sc : Scope) (d : D) : Expr → Bool
  | .Name x _ => nmB x && glB sc x && (g.cns.any (fun p => p.1 == x && eqDB p.2 d) || (g.blt.contains x && match d with
    | .typ n => tyOf n x
    | _ => false))
  | _ => false
def isStarred : Expr → Bool
  | .Starred _ _ => true
  | _ => false
def noStar (es : List Expr) : Bool := es.all fun e => !isStarred e
def binO : Op2 → Operator → Bool
  | .add, .Add => true
  | .sub, .Sub => true
  | .mul, .Mult => true
  | .fdiv, .FloorDiv => true
  | .mod, .Mod => true
  | .pow, .Pow => true
  | _, _ => false
def cmpO : Op2 → CmpOp → Bool
  | .eq, .Eq => true
  | .ne, .NotEq => true
  | .lt, .Lt => true
  | .le, .LtE => true
  | .gt, .Gt => true
  | .ge, .GtE => true
  | .mem, .In => true
  | .nmem, .NotIn => true
  | _, _ => false
theorem binO_ok {o : Op2} {op : Operator} (h : binO o op = true) : OpR X (binaryOp op) (rP2 X.K o) := by
  unfold binO at h
  split at h
  · exact op_addP
  · exact op_subP
  · exact op_mulP
  · exact op_fdivP
  · exact op_modP
  · exact op_powP
  · cases h
theorem cmpO_ok {o : Op2} {op : CmpOp} (hu : X.A.units + 200 < cLine) (h : cmpO o op = true) : OpR X (compareOp op) (rP2 X.K o) := by
  unfold cmpO at h
  split at h
  · exact op_eqP (by omega)
  · exact op_neP (by omega)
  · exact op_ltP
  · exact op_leP
  · exact op_gtP
  · exact op_geP
  · exact op_inP (by omega)
  · exact op_notInP (by omega)
  · cases h
/-- which built-in a name calls -/
def prFn : Pr → String → Bool
  | .len, n => n == "len"
  | .sum, n => n == "sum"
  | .min, n => n == "min"
  | .max, n => n == "max"
  | .abs, n => n == "abs"
  | .repr, n => n == "repr"
  | .sorted, n => n == "sorted"
  | .all, n => n == "all"
  | .any, n => n == "any"
  | .isi, n => n == "isinstance"
  | _, _ => false
def prTy : Pr → String → Bool
  | .int, n => n == "int"
  | .list, n => n == "list"
  | .tuple, n => n == "tuple"
  | _, _ => false
def prB (p : Pr) (x : Str) : Bool := match bootBuiltins x with
  | some (.builtin n) => prFn p n
  | some (.type n) => prTy p n
  | _ => false
theorem prFn_ok {p : Pr} {n : String} (hc : X.calm = true) (hg : X.A.guards = some []) (hu : X.A.units + 200 < cLine) (h : prFn p n = true) : CallR X (.builtin n) (rPr X.K p) := by
  unfold prFn at h
  split at h <;> first | (obtain rfl := eq_of_beq h) | (cases h)
  · exact cb_len
  · exact cb_sum hc
  · exact cb_min hc
  · exact cb_max hc
  · exact cb_abs
  · exact cb_repr hg (by omega)
  · exact cb_sorted
  · exact cb_all hc
  · exact cb_any hc
  · exact cb_isi
theorem prTy_ok {p : Pr} {n : String} (h : prTy p n = true) : CallR X (.type n) (rPr X.K p) := by
  unfold prTy at h
  split at h <;> first | (obtain rfl := eq_of_beq h) | (cases h)
  · exact cb_int
  · exact cb_list
  · exact cb_tuple
end Mi
end

section
set_option Elab.async false
set_option linter.all false
set_option maxRecDepth 100000
namespace L2
open PySem
theorem PE.imp {X : Cx} {e : Expr} {t t' : TE} (h : PE X e t) (hi : ∀ σ H Q, t' σ H Q → t σ H Q) : PE X e t' := Mi.PE.imp h hi
theorem PT.imp {X : Cx} {e : Expr} {t t' : TT} (h : PT X e t) (hi : ∀ σ H Q, t' σ H Q → t σ H Q) : PT X e t' := Mi.PT.imp h hi
theorem PW.imp {X : Cx} {e : Expr} {t t' : TT} (h : PW X e t) (hi : ∀ σ H Q, t' σ H Q → t σ H Q) : PW X e t' := ⟨fun whole pins s σ H Q I q => h.run whole pins s σ H Q I (hi σ H Q q)⟩
theorem PA.imp {X : Cx} {e : List Expr} {t t' : TA} (h : PA X e t) (hi : ∀ σ H Q, t' σ H Q → t σ H Q) : PA X e t' := Mi.PA.imp h hi
theorem PI.imp {X : Cx} {tg e : Expr} {t t' : TI} (h : PI X tg e t) (hi : ∀ σ H R, t' σ H R → t σ H R) : PI X tg e t' := Mi.PI.imp h hi
theorem PG.imp {X : Cx} {tg : Expr} {t t' : TG} (h : PG X tg t) (hi : ∀ v σ H Q, t' v σ H Q → t v σ H Q) : PG X tg t' := Mi.PG.imp h hi
theorem PGs.imp {X : Cx} {tg : List Expr} {t t' : TGs} (h : PGs X tg t) (hi : ∀ v σ H Q, t' v σ H Q → t v σ H Q) : PGs X tg t' := Mi.PGs.imp h hi
theorem PTs.imp {X : Cx} {ifs : List Expr} {t t' : TT} (h : PTs X ifs t) (hi : ∀ σ H Q, t' σ H Q → t σ H Q) : PTs X ifs t' := Mi.PTs.imp h hi
theorem PS.imp {X : Cx} {st : Stmt} {t t' : TS} (h : PS X st t) (hi : ∀ D' σ H, t' D' σ H → t D' σ H) : PS X st t' := Mi.PS.imp h hi
theorem PSs.imp {X : Cx} {st : List Stmt} {t t' : TS} (h : PSs X st t) (hi : ∀ D' σ H, t' D' σ H → t D' σ H) : PSs X st t' := Mi.PSs.imp h hi
end L2
namespace Mi
open PySem PySem.Spec PyProof.Rows L2
variable {K : PySem.W.Frag} {Φ : Fns} {E : XK} {B : Bs} {lk : List (Nat × V)} {F F' H H' : Hp} {σ : L2.St} {ρ : Env} {fps : List (List Addr)} {ts : List (V × Tm)} {Q : VK} {X : Cx} {lkN : List Nat} {D' : Ends}
def plainTest : Expr → Bool
  | .UnaryOp .Not _ _ => false
  | .BoolOp _ _ _ => false
  | .IfExp _ _ _ _ => false
  | .Compare _ _ _ _ => false
  | _ => true
theorem plainTest_ok {e : Expr} {env : PySem.Env} (h : plainTest e = true) (whole : Sem Value) : isTrue e env whole = (do let v ← whole; standAt e.pos; holding [v] (truthy v)) := by
  cases e <;> first
    | rfl
    | (simp [plainTest] at h; done)
    | (rename_i op _ _; cases op <;> first | rfl | (simp [plainTest] at h; done))
def isVal : IE → Bool
  | .peek _ => false
  | .peekF _ => false
  | .star _ => false
  | _ => true
theorem oneO : ∀ {a : IE}, isStar a = false → OneO Φ a := by
  intro a h os ρ ρ' e
  cases a with
  | star _ => simp [isStar] at h
  | peek i =>
    simp only [evs] at e
    cases q : getE ρ i with
    | none => rw [q] at e; cases e
    | some d => rw [q] at e; cases e; exact ⟨_, rfl⟩
  | peekF i =>
    simp only [evs] at e
    cases q : getE ρ i with
    | none => rw [q] at e; cases e
    | some d => rw [q] at e; cases e; exact ⟨_, rfl⟩
  | _ =>
    simp only [evs] at e
    generalize hq : ev Φ _ ρ = q at e
    cases q with
    | ok d ρ1 => cases e; exact ⟨_, rfl⟩
    | exc _ _ _ => cases e
    | stk => cases e
theorem evs_val {ie : IE} (h : isVal ie = true) (ρ : Env) : evs Φ [ie] ρ = (ev Φ ie ρ).bind fun d ρ1 => .ok [.val d] ρ1 := by
  cases ie <;> first
    | (simp [isVal] at h; done)
    | (simp only [evs]; cases ev Φ _ ρ <;> rfl)
structure OkO (X : Cx) (Φ : Fns) (E : XK) (ie : IE) (e : Expr) : Prop where
  st : isStar ie = true → ∃ e' p i, e = .Starred e' p ∧ ie = .star i ∧ PE X e' (tI X.K Φ E i)
  op : isStar ie = false → isStarred e = false ∧ PE X e (tO X.K Φ E ie)
  vl : isVal ie = true → PE X e (tI X.K Φ E ie)
theorem OkO.of {ie : IE} {e : Expr} (hv : isVal ie = true) (hs : isStarred e = false) (h : PE X e (tI X.K Φ E ie)) : OkO X Φ E ie e :=
  ⟨fun h => by cases ie <;> simp [isStar] at h <;> simp [isVal] at hv, fun _ => ⟨hs, h.imp fun σ H Q q => t_val (evs_val hv) q⟩, fun _ => h⟩
def OkOs (X : Cx) (Φ : Fns) (E : XK) : List IE → List Expr → Prop
  | [], [] => True
  | a :: as, e :: es => OkO X Φ E a e ∧ OkOs X Φ E as es
  | _, _ => False
theorem star_each {e : Expr} {es : List Expr} {env : PySem.Env} (h : isStarred e = false) : starEach (e :: es) env = (false, eval e env) :: starEach es env := by
  cases e <;> first | rfl | (simp [isStarred] at h; done)
theorem pa_of : ∀ {ies : List IE} {es : List Expr}, OkOs X Φ E ies es → PA X es (tOs X.K Φ E ies)
  | [], [], _ => pa_nil.imp fun σ H Q q => t_nil q
  | a :: as, e :: es, h => by
    cases hs : isStar a with
    | false =>
      obtain ⟨h1, h2⟩ := h.1.op hs
      exact (pa_cons h2 (pa_of h.2) (star_each h1)).imp fun σ H Q q => t_cons (oneO hs) q
    | true =>
      obtain ⟨e', p, i, rfl, rfl, h1⟩ := h.1.st hs
      exact (StX.pa_star h1 (pa_of h.2) rfl).imp fun σ H Q q => t_star q
  | [], _ :: _, h => h.elim
  | _ :: _, [], h => h.elim
theorem OkOs.len : ∀ {ies : List IE} {es : List Expr}, OkOs X Φ E ies es → ies.length = es.length
  | [], [], _ => rfl
  | _ :: _, _ :: _, h => by simp [OkOs.len h.2]
  | [], _ :: _, h => h.elim
  | _ :: _, [], h => h.elim
/-- one operand, no star -/
theorem OkOs.one {ies : List IE} {e : Expr} (h : OkOs X Φ E ies [e]) (hn : noStar [e] = true) : ∃ a, ies = [a] ∧ OneO Φ a ∧ PE X e (tO X.K Φ E a) := by
  match ies, h with
  | [a], h =>
    have hs : isStar a = false := by
      cases q : isStar a with
      | false => rfl
      | true =>
        obtain ⟨e', p, i, rfl, _⟩ := h.1.st q
        simp [noStar, isStarred] at hn
    exact ⟨a, rfl, oneO hs, (h.1.op hs).2⟩
theorem OkOs.cons {ies : List IE} {e e2 : Expr} {es : List Expr} (h : OkOs X Φ E ies (e :: e2 :: es)) (hn : noStar (e :: e2 :: es) = true) : ∃ a as, ies = a :: as ∧ OneO Φ a ∧ PE X e (tO X.K Φ E a) ∧ OkOs X Φ E as (e2 :: es) ∧ noStar (e2 :: es) = true := by
  match ies, h with
  | a :: as, h =>
    have hn' := hn
    unfold noStar at hn
    rw [List.all_cons, Bool.and_eq_true] at hn
    have hs : isStar a = false := by
      cases q : isStar a with
      | false => rfl
      | true =>
        obtain ⟨e', p, i, rfl, _⟩ := h.1.st q
        simp [isStarred] at hn
    exact ⟨a, as, rfl, oneO hs, (h.1.op hs).2, h.2, hn.2⟩
theorem OkOs.two {ies : List IE} {e e2 : Expr} (h : OkOs X Φ E ies [e, e2]) (hn : noStar [e, e2] = true) : ∃ a b, ies = [a, b] ∧ OneO Φ a ∧ OneO Φ b ∧ PE X e (tO X.K Φ E a) ∧ PE X e2 (tO X.K Φ E b) := by
  obtain ⟨a, as, rfl, h1, h2, h3, h4⟩ := h.cons hn
  obtain ⟨b, rfl, h5, h6⟩ := h3.one h4
  exact ⟨a, b, rfl, h1, h5, h2, h6⟩
theorem OkOs.three {ies : List IE} {e e2 e3 : Expr} (h : OkOs X Φ E ies [e, e2, e3]) (hn : noStar [e, e2, e3] = true) : ∃ a b c, ies = [a, b, c] ∧ OneO Φ a ∧ OneO Φ b ∧ OneO Φ c ∧ PE X e (tO X.K Φ E a) ∧ PE X e2 (tO X.K Φ E b) ∧ PE X e3 (tO X.K Φ E c) := by
  obtain ⟨a, as, rfl, h1, h2, h3, h4⟩ := h.cons hn
  obtain ⟨b, c, rfl, h5, h6, h7, h8⟩ := h3.two h4
  exact ⟨a, b, c, rfl, h1, h5, h6, h2, h7, h8⟩
/-! ### blocks -/
def ownOf (N : List Str) (scope : Scope) : List (Str × Nat) := scope.names.filterMap fun y => if y.2 == .local || y.2 == .cell then (N.findIdx? (· == y.1)).map fun i => (y.1, i) else none
def blkB (N : List Str) (sc scope : Scope) : Bool := decide (scope.kind = .function) && scope.names.all (fun y => scope.names.lookup y.1 == some y.2) && (ownOf N scope).all (fun p => N[p.2]? == some p.1) &&
  scope.names.all (fun y => !(y.2 == .free) || (sc.names.lookup y.1 == some .cell || sc.names.lookup y.1 == some .free)) && scope.names.all fun y => !(y.2 == .local || y.2 == .cell) || ((ownOf N scope).map (·.1)).contains y.1 || !N.contains y.1
theorem blkB_ok {N : List Str} {sc scope : Scope} (h : blkB N sc scope = true) : BlkOk N sc scope (ownOf N scope) := by
  unfold blkB at h
  simp only [Bool.and_eq_true, decide_eq_true_eq] at h
  obtain ⟨⟨⟨⟨h1, h2⟩, h3⟩, h4⟩, h5⟩ := h
  refine ⟨h1, fun y hy => ?_, fun p hp => ?_, fun y hy e => ?_, fun y hy e => ?_⟩
  · simpa using List.all_eq_true.mp h2 y hy
  · simpa using List.all_eq_true.mp h3 p hp
  · have := List.all_eq_true.mp h4 y hy
    rw [e] at this
    simpa using this
  · have := List.all_eq_true.mp h5 y hy
    have e' : (y.2 == NameKind.local || y.2 == NameKind.cell) = true := by simpa using e
    rw [e'] at this
    simpa using this
def plainIter : Expr → Bool
  | .Set _ _ _ => false
  | _ => true
theorem plainIter_ok {e : Expr} {env : PySem.Env} (h : plainIter e = true) (x : Value) : foldedSetIterable e env x = pure x := by
  cases e <;> first | rfl | (simp [plainIter] at h; done)
theorem XOk.blk {g : Gx} {N : List Str} {sc : Scope} {own : Option Scope} (O : XOk g N sc own Φ E X) (scope : Scope) (s : Shared) (H : Hp) (C : Addr) (cl : List (Str × Addr)) (fp : List Addr) :
    XOk g N (relS scope sc) (some scope) Φ noX (X.blk s H scope (compEnvC scope cl C X.env) fp) where
  hN := O.hN
  nd := O.nd
  hsc := by rw [← O.hsc]; rfl
  calm := O.calm
  units := O.units
  gds := O.gds
  fnm := fun x h => h
  ownk := fun s e x h => by cases e; exact lookup_relS_keep (by decide) h
  fns := fun i p e => by
    obtain ⟨k, CX, f, fd, G, h1, h2, h3, h4, h5, h6, h7⟩ := O.fns i p e
    exact ⟨k, CX, f, fd, G, h1, h2, h3, h4, h5, fun _ _ H s e s' _ c => (h7 _ _ _ _ _ c).elim, h7⟩
  cns := O.cns
  blt := O.blt
/-! ### targets -/
mutual
def chkG (N : List Str) (sc : Scope) (own : Option Scope) : Tg → Expr → Bool
  | .slot i, .Name x _ => N[i]? == some x && ((match own with
    | none => (sc.names.lookup x == some .local || sc.names.lookup x == some .cell)
    | some s => s.names.lookup x == some .local || (s.names.lookup x == some .cell && sc.names.lookup x == some .cell)))
  | .tup tgs, .Tuple es _ _ => noStar es && chkGs N sc own tgs es
  | _, _ => false
def chkGs (N : List Str) (sc : Scope) (own : Option Scope) : List Tg → List Expr → Bool
  | [], [] => true
  | t :: ts, e :: es => chkG N sc own t e && chkGs N sc own ts es
  | _, _ => false
end
theorem asg_each {e : Expr} {es : List Expr} {env : PySem.Env} (h : isStarred e = false) : assignEach (e :: es) env = (false, assign e env) :: assignEach es env := by
  cases e <;> first | rfl | (simp [isStarred] at h; done)
theorem asg_len : ∀ (es : List Expr) (env : PySem.Env), (assignEach es env).length = es.length
  | [], _ => rfl
  | e :: es, env => by
    have ih := asg_len es env
    cases e <;> (show (_ :: assignEach es env).length = _; simp [ih])
theorem asg_plain : ∀ {es : List Expr} {env : PySem.Env}, noStar es = true → (assignEach es env).findIdx? (·.1) = none
  | [], _, _ => rfl
  | e :: es, env, h => by
    unfold noStar at h
    rw [List.all_cons, Bool.and_eq_true] at h
    have h1 : isStarred e = false := by simpa using h.1
    rw [asg_each h1]
    have ih := asg_plain (es := es) (env := env) h.2
    rw [List.findIdx?_cons]
    simp [ih]
theorem chkGs_len : ∀ {N : List Str} {sc : Scope} {own : Option Scope} {tgs : List Tg} {es : List Expr}, chkGs N sc own tgs es = true → tgs.length = es.length
  | _, _, _, [], [], _ => rfl
  | N, sc, own, t :: ts, e :: es, h => by
    simp only [chkGs, Bool.and_eq_true] at h
    simp [chkGs_len h.2]
  | _, _, _, [], _ :: _, h => by simp [chkGs] at h
  | _, _, _, _ :: _, [], h => by simp [chkGs] at h
mutual
theorem chkG_ok {g : Gx} {N : List Str} {sc : Scope} {own : Option Scope} (O : XOk g N sc own Φ E X) : ∀ (tg : Tg) (e : Expr), chkG N sc own tg e = true → PG X e (tG X.K lkN tg)
  | .slot i, e, h => by
    cases e <;> try (simp [chkG] at h; done)
    rename_i x pos
    simp only [chkG, Bool.and_eq_true] at h
    obtain ⟨h1, h2⟩ := h
    have h1 : N[i]? = some x := by simpa using h1
    have hx : Loc X.env.scope x ∧ (X.fn x = true ∨ X.env.scope.names.lookup x = some .local) := by
      rw [O.hsc]
      cases own with
      | none =>
        have h2 : sc.names.lookup x = some .local ∨ sc.names.lookup x = some .cell := by simpa using h2
        exact ⟨h2, .inl (O.fnm x rfl)⟩
      | some s =>
        have h2 : s.names.lookup x = some .local ∨ (s.names.lookup x = some .cell ∧ sc.names.lookup x = some .cell) := by simpa using h2
        rcases h2 with h2 | ⟨h2, h3⟩
        · have := O.ownk s rfl x h2
          exact ⟨.inl this, .inr this⟩
        · exact ⟨.inr h3, .inl (O.fnm x (by simp [ownFn, h2]))⟩
    exact (pg_name (by rw [O.hN]; exact O.nd) (by rw [O.hN]; exact h1) hx.1 hx.2).imp fun v σ H Q q => g_slot q
  | .tup tgs, e, h => by
    cases e <;> try (simp [chkG] at h; done)
    rename_i es kk pos
    simp only [chkG, Bool.and_eq_true] at h
    have hg := chkGs_ok O tgs es h.2 h.1
    exact (pg_tup O.calm hg (asg_len es X.env) (asg_plain h.1)).imp fun v σ H Q q => g_tup (chkGs_len h.2) q
theorem chkGs_ok {g : Gx} {N : List Str} {sc : Scope} {own : Option Scope} (O : XOk g N sc own Φ E X) : ∀ (tgs : List Tg) (es : List Expr), chkGs N sc own tgs es = true → noStar es = true → PGs X es (tGs X.K lkN tgs)
  | [], es, h, hn => by
    cases es with
    | nil => exact pgs_nil.imp fun v σ H Q q => g_nil q
    | cons _ _ => simp [chkGs] at h
  | t :: ts, es, h, hn => by
    cases es with
    | nil => simp [chkGs] at h
    | cons e es =>
      simp only [chkGs, Bool.and_eq_true] at h
      unfold noStar at hn
      rw [List.all_cons, Bool.and_eq_true] at hn
      have h1 : isStarred e = false := by simpa using hn.1
      exact (pgs_cons (chkG_ok O t e h.1) (chkGs_ok O ts es h.2 hn.2) (by rw [asg_each h1]; rfl)).imp fun v σ H Q q => g_cons q
end
end Mi
end

section
set_option Elab.async false
set_option linter.all false
set_option maxRecDepth 100000
namespace Mi
open PySem PySem.Spec PyProof.Rows L2
variable {K : PySem.W.Frag} {Φ : Fns} {E : XK} {B : Bs} {lk : List (Nat × V)} {F F' H H' : Hp} {σ : L2.St} {ρ : Env} {fps : List (List Addr)} {ts : List (V × Tm)} {Q : VK} {X : Cx} {lkN : List Nat} {D' : Ends}
def plainIx : Expr → Bool
  | .Constant _ _ _ => true
  | .Name _ _ => true
  | .UnaryOp _ _ _ => true
  | .BinOp _ _ _ _ => true
  | .Call _ _ _ _ => true
  | .Subscript _ _ _ => true
  | .IfExp _ _ _ _ => true
  | _ => false
theorem plainIx_ok {b : Expr} (h : plainIx b = true) : PlainIx b := by
  intro o i
  cases b <;> first | rfl | (simp [plainIx] at h; done)
def isName (ns : List (Str × List Str)) (f : Nat) (x : Str) : Bool := match ns[f]? with
  | some p => p.1 == x
  | none => false
def kwNames : List Keyword → List Str
  | [] => []
  | ⟨some n, _, _⟩ :: r => n :: kwNames r
  | ⟨none, _, _⟩ :: r => kwNames r
def kwVals : List Keyword → List Expr
  | [] => []
  | ⟨_, v, _⟩ :: r => v :: kwVals r
def kwAll : List Keyword → Bool
  | [] => true
  | ⟨some _, _, _⟩ :: r => kwAll r
  | ⟨none, _, _⟩ :: _ => false
def isTup : Expr → Bool
  | .Tuple _ _ _ => true
  | _ => false
def callN (g : Gx) (sc : Scope) (n : String) (x : Str) : Bool := decide (x = Str.ofString n) && glB sc x && g.blt.contains x
mutual
def chk (g : Gx) (N : List Str) : IE → Bool → Scope → Expr → Bool
  | .const d, tst, sc, e => (!tst || plainTest e) && constB d e
  | .glob d, tst, sc, e => (!tst || plainTest e) && globB g sc d e
  | .var i, tst, sc, e => (!tst || plainTest e) && varB N sc i e
  | .mov i, tst, sc, e => (!tst || plainTest e) && varB N sc i e
  | .peek i, tst, sc, e => !tst && varB N sc i e
  | .peekF i, tst, sc, e => !tst && varB N sc i e
  | .star i, tst, sc, e => match e with
    | .Starred e' _ => !tst && isVal i && chk g N i false sc e'
    | _ => false
  | .op o es, tst, sc, e => match e with
    | .BinOp a op b _ => binO o op && noStar [a, b] && chkOs g N es sc [a, b]
    | .Compare a [op] [b] _ => cmpO o op && !behindInMarks op b && noStar [a, b] && chkOs g N es sc [a, b]
    | _ => false
  | .isn neg es, tst, sc, e => match e with
    | .Compare a [.Is] [.Constant .none _ _] _ => !neg && noStar [a] && chkOs g N es sc [a]
    | .Compare a [.IsNot] [.Constant .none _ _] _ => neg && noStar [a] && chkOs g N es sc [a]
    | _ => false
  | .neg es, tst, sc, e => match e with
    | .UnaryOp .USub a _ => noStar [a] && chkOs g N es sc [a]
    | _ => false
  | .notE a, tst, sc, e => match e with
    | .UnaryOp .Not x _ => isVal a && chk g N a tst sc x
    | _ => false
  | .chain o1 o2 es cs, tst, sc, e => match e with
    | .Compare a [p1, p2] [b, c] _ => cmpO o1 p1 && cmpO o2 p2 && !lastMarks [p1, p2] [b, c] && noStar [a, b] && noStar [c] && chkOs g N es sc [a, b] && chkOs g N cs sc [c]
    | _ => false
  | .andE a b, tst, sc, e => match e with
    | .BoolOp .And [x, y] _ => isVal a && isVal b && chk g N a tst sc x && chk g N b tst sc y
    | .BoolOp .And (x :: y :: z :: r) pos => isVal a && isVal b && chk g N a tst sc x && chk g N b tst sc (.BoolOp .And (y :: z :: r) pos)
    | _ => false
  | .orE a b, tst, sc, e => match e with
    | .BoolOp .Or [x, y] _ => isVal a && isVal b && chk g N a tst sc x && chk g N b tst sc y
    | .BoolOp .Or (x :: y :: z :: r) pos => isVal a && isVal b && chk g N a tst sc x && chk g N b tst sc (.BoolOp .Or (y :: z :: r) pos)
    | _ => false
  | .ite c a b, tst, sc, e => match e with
    | .IfExp c' a' b' _ => !tst && isVal c && isVal a && isVal b && chk g N c true sc c' && chk g N a false sc a' && chk g N b false sc b'
    | _ => false
  | .tup es, tst, sc, e => match e with
    | .Tuple es' _ _ => chkOs g N es sc es'
    | _ => false
  | .lst es, tst, sc, e => match e with
    | .List es' _ => chkOs g N es sc es'
    | _ => false
  | .idx es, tst, sc, e => match e with
    | .Subscript a b _ => plainIx b && noStar [a, b] && chkOs g N es sc [a, b]
    | _ => false
  | .slc es lo hi, tst, sc, e => match e with
    | .Subscript a (.Slice l u none _) _ => noStar [a] && chkOs g N es sc [a] && chkB g N lo sc l && chkB g N hi sc u
    | _ => false
  | .cb p es, tst, sc, e => match e with
    | .Call (.Name x _) (a :: as) [] _ => nmB x && glB sc x && g.blt.contains x && prB p x && noStar (a :: as) && chkOs g N es sc (a :: as)
    | _ => false
  | .call f es, tst, sc, e => match e with
    | .Call (.Name x _) (a :: as) [] _ => nmB x && glB sc x && isName g.fns f x && noStar (a :: as) && chkOs g N es sc (a :: as)
    | _ => false
  | .callK f es perm, tst, sc, e => match e with
    | .Call (.Name x _) [] kws _ => nmB x && glB sc x && isName g.fns f x && kwAll kws && decide ((f, kwNames kws, perm) ∈ g.kws) && noStar (kwVals kws) && chkOs g N es sc (kwVals kws)
    | _ => false
  | .rng tup es, tst, sc, e => match e with
    | .Call (.Name y _) [.Call (.Name x _) [a] [] _] [] _ => callN g sc (if tup then "tuple" else "list") y && callN g sc "range" x && noStar [a] && chkOs g N es sc [a]
    | .Call (.Name y _) [.Call (.Name x _) [a, b] [] _] [] _ => callN g sc (if tup then "tuple" else "list") y && callN g sc "range" x && noStar [a, b] && chkOs g N es sc [a, b]
    | _ => false
  | .frz a, tst, sc, e => !tst && isVal a && chk g N a false sc e
  | .lc vs tg it ifs elt, tst, sc, e => match e with
    | .ListComp elt' [gen] scope _ => (!tst) && decide (gen.is_async = 0) && blkB N sc scope && decide (vs = (ownOf N scope).map (·.2)) && (slotsT tg).all (fun j => vs.contains j) && plainIter gen.iter && chkIt g N it sc gen.target gen.iter &&
      chkG N (relS scope sc) (some scope) tg gen.target && chkIfs g N ifs (relS scope sc) gen.ifs && isVal elt && chk g N elt false (relS scope sc) elt'
    | _ => false
def chkOs (g : Gx) (N : List Str) : List IE → Scope → List Expr → Bool
  | [], sc, es => es.isEmpty
  | a :: as, sc, es => match es with
    | e :: es => (isStar a || !isStarred e) && chk g N a false sc e && chkOs g N as sc es
    | [] => false
def chkB (g : Gx) (N : List Str) : List IE → Scope → Option Expr → Bool
  | [], sc, e => e.isNone
  | [a], sc, e => match e with
    | some e => isVal a && chk g N a false sc e
    | none => false
  | _ :: _ :: _, sc, e => false
def chkIfs (g : Gx) (N : List Str) : List IE → Scope → List Expr → Bool
  | [], sc, e => e.isEmpty
  | [a], sc, e => match e with
    | [e] => isVal a && chk g N a true sc e
    | _ => false
  | _ :: _ :: _, sc, e => false
def chkIt (g : Gx) (N : List Str) : It → Scope → Expr → Expr → Bool
  | .seq es, sc, tg, iter => noStar [iter] && chkOs g N es sc [iter]
  | .range es, sc, tg, iter => match iter with
    | .Call (.Name x _) [a] [] _ => callN g sc "range" x && noStar [a] && chkOs g N es sc [a]
    | .Call (.Name x _) [a, b] [] _ => callN g sc "range" x && noStar [a, b] && chkOs g N es sc [a, b]
    | _ => false
  | .enum es, sc, tg, iter => match iter with
    | .Call (.Name x _) [a] [] _ => isTup tg && callN g sc "enumerate" x && noStar [a] && chkOs g N es sc [a]
    | _ => false
  | .zip es, sc, tg, iter => match iter with
    | .Call (.Name x _) [a, b] [] _ => isTup tg && callN g sc "zip" x && noStar [a, b] && chkOs g N es sc [a, b]
    | .Call (.Name x _) [a, b, c] [] _ => isTup tg && callN g sc "zip" x && noStar [a, b, c] && chkOs g N es sc [a, b, c]
    | _ => false
end
end Mi
end

section
set_option Elab.async false
set_option linter.all false
set_option maxRecDepth 100000
namespace Mi
open PySem PySem.Spec PyProof.Rows L2
variable {K : PySem.W.Frag} {Φ : Fns} {E : XK} {B : Bs} {lk : List (Nat × V)} {F F' H H' : Hp} {σ : L2.St} {ρ : Env} {fps : List (List Addr)} {ts : List (V × Tm)} {Q : VK} {X : Cx} {lkN : List Nat} {D' : Ends} {g : Gx} {N : List Str} {sc : Scope} {own : Option Scope}
theorem nmB_ok {x : Str} (h : nmB x = true) : (x == ("__debug__" : Str)) = false ∧ (x == ("__classdict__" : Str)) = false ∧ x ≠ "__name__" := by
  unfold nmB at h
  simp only [Bool.and_eq_true, Bool.not_eq_true'] at h
  exact ⟨h.1.1, h.1.2, fun z => by rw [z] at h; simp at h⟩
theorem visB_ok {x : Str} (h : visB sc x = true) : Vis sc x := by
  unfold visB at h
  split at h
  · rename_i e; exact .inl e
  · rename_i e; exact .inr (.inl e)
  · rename_i e; exact .inr (.inr e)
  · cases h
theorem glB_ok (O : XOk g N sc own Φ E X) {x : Str} (h : glB sc x = true) : Gl X x := by
  have : sc.names.lookup x = some .globalImplicit := by simpa [glB] using h
  show X.env.scope.names.lookup x = _
  rw [O.hsc]
  exact this
theorem varB_ok (O : XOk g N sc own Φ E X) {i : Nat} {e : Expr} (h : varB N sc i e = true) : PE X e (tVar i) ∧ isStarred e = false := by
  unfold varB at h
  split at h
  · rename_i x pos
    simp only [Bool.and_eq_true] at h
    obtain ⟨⟨h1, h2⟩, h3⟩ := h
    obtain ⟨n1, n2, n3⟩ := nmB_ok h3
    refine ⟨pe_var (by rw [O.hN]; simpa using h1) ?_ n1 n2, rfl⟩
    rw [O.hsc]
    exact visB_ok h2
  · cases h
theorem constB_ok {d : D} {e : Expr} (h : constB d e = true) : PE X e (tI X.K Φ E (.const d)) ∧ isStarred e = false := by
  unfold constB at h
  split at h
  · simp only [decide_eq_true_eq] at h; subst h
    exact ⟨pe_int.imp fun σ H Q q => t_const (fun F H => by simp [Rep]) q, rfl⟩
  · simp only [decide_eq_true_eq] at h; subst h
    exact ⟨pe_bl.imp fun σ H Q q => t_const (fun F H => by simp [Rep]) q, rfl⟩
  · exact ⟨pe_non.imp fun σ H Q q => t_const (fun F H => by simp [Rep]) q, rfl⟩
  · simp only [decide_eq_true_eq] at h; subst h
    exact ⟨pe_str.imp fun σ H Q q => t_const (fun F H => by simp [Rep]) q, rfl⟩
  · cases h
theorem globB_ok (O : XOk g N sc own Φ E X) {d : D} {e : Expr} (h : globB g sc d e = true) : PE X e (tI X.K Φ E (.glob d)) ∧ isStarred e = false := by
  unfold globB at h
  split at h
  · rename_i x pos
    simp only [Bool.and_eq_true] at h
    obtain ⟨⟨h1, h2⟩, h3⟩ := h
    obtain ⟨n1, n2, n3⟩ := nmB_ok h1
    refine ⟨?_, rfl⟩
    rw [Bool.or_eq_true] at h3
    rcases h3 with h3 | h3
    · obtain ⟨p, hp, hq⟩ := List.any_eq_true.mp h3
      simp only [Bool.and_eq_true] at hq
      obtain ⟨q1, q2⟩ := hq
      have e1 := eqDB_ok q2
      have e2 : p.1 = x := by simpa using q1
      obtain ⟨v, u, m, r, hr⟩ := O.cns p hp
      rw [e2] at m
      rw [e1] at hr
      exact (pe_glob (glB_ok O h2) m r n1).imp fun σ H Q q => t_glob hr q
    · simp only [Bool.and_eq_true] at h3
      obtain ⟨h4, h5⟩ := h3
      split at h5
      · rename_i n
        have hb : bootBuiltins x = some (.type n) := by simpa [tyOf] using h5
        exact (pe_bltn (v := V.ty n) (glB_ok O h2) (O.blt x (by simpa using h4)) hb rfl n3 n1).imp fun σ H Q q => t_glob (fun F H => by simp [Rep]) q
      · cases h5
  · cases h
theorem pt_of {ie : IE} {e : Expr} (h : PE X e (tI X.K Φ E ie)) (hp : plainTest e = true) : PT X e (tT X.K Φ E ie) := (pt_val h (plainTest_ok hp)).imp fun σ H Q q => tT_tI q
theorem plain_args : ∀ {es : List Expr} {env : PySem.Env} {pos : Pos}, noStar es = true → (backTo pos (starEach es env)).any (·.1) = false
  | [], _, _, _ => rfl
  | e :: es, env, pos, h => by
    unfold noStar at h
    rw [List.all_cons, Bool.and_eq_true] at h
    rw [star_each (by simpa using h.1)]
    have ih := plain_args (es := es) (env := env) (pos := pos) h.2
    unfold backTo at ih ⊢
    rw [List.map_cons, List.any_cons]
    simpa using ih
theorem noStar_cons {e : Expr} {es : List Expr} (h : noStar (e :: es) = true) : isStarred e = false ∧ noStar es = true := by
  unfold noStar at h
  rw [List.all_cons, Bool.and_eq_true] at h
  exact ⟨by simpa using h.1, h.2⟩
theorem pk_of : ∀ {ies : List IE} {kws : List Keyword}, OkOs X Φ E ies (kwVals kws) → noStar (kwVals kws) = true → PK X kws (tOs X.K Φ E ies)
  | ies, [], h, _ => by
    match ies, h with
    | [], _ => exact ⟨fun pos pins s σ H Q I q => pk_nil.run pos pins s σ H Q I (t_nil q)⟩
  | ies, ⟨nm, e, kp⟩ :: kws, h, hn => by
    match ies, h with
    | a :: as, h =>
      obtain ⟨n1, n2⟩ := noStar_cons hn
      have hs : isStar a = false := by
        cases q : isStar a with
        | false => rfl
        | true =>
          obtain ⟨e', p, i, e1, _⟩ := h.1.st q
          have e1 : e = .Starred e' p := e1
          rw [e1] at n1
          simp [isStarred] at n1
      have ih := pk_of h.2 n2
      exact ⟨fun pos pins s σ H Q I q => (pk_cons (h.1.op hs).2 ih).run pos pins s σ H Q I (t_cons (oneO hs) q)⟩
theorem kw_all : ∀ {kws : List Keyword} {env : PySem.Env} {pos : Pos}, kwAll kws = true → (backToKw pos (keywordEach kws env)).all (·.1.isSome) = true ∧ (backToKw pos (keywordEach kws env)).filterMap (·.1) = kwNames kws ∧ (backToKw pos (keywordEach kws env)).any (·.1.isNone) = false
  | [], _, _, _ => ⟨rfl, rfl, rfl⟩
  | ⟨some n, v, kp⟩ :: r, env, pos, h => by
    obtain ⟨h1, h2, h3⟩ := kw_all (kws := r) (env := env) (pos := pos) (by simpa [kwAll] using h)
    refine ⟨?_, ?_, ?_⟩
    · show (_ :: backToKw pos (keywordEach r env)).all _ = true
      rw [List.all_cons, h1]; rfl
    · show (n :: List.filterMap (fun x => x.1) (backToKw pos (keywordEach r env))) = _
      rw [h2]; rfl
    · show (_ :: backToKw pos (keywordEach r env)).any _ = false
      rw [List.any_cons, h3]; rfl
  | ⟨none, v, kp⟩ :: r, env, pos, h => by simp [kwAll] at h
theorem kw_len : ∀ {kws : List Keyword}, kwAll kws = true → (kwNames kws).length = (kwVals kws).length
  | [], _ => rfl
  | ⟨some n, v, kp⟩ :: r, h => by simp [kwNames, kwVals, kw_len (kws := r) (by simpa [kwAll] using h)]
  | ⟨none, v, kp⟩ :: r, h => by simp [kwAll] at h
theorem evs_len : ∀ {es : List IE} {ρ ρ' : Env} {os : List OV}, (∀ a ∈ es, isStar a = false) → evs Φ es ρ = .ok os ρ' → os.length = es.length
  | [], ρ, ρ', os, _, h => by simp only [evs] at h; cases h; rfl
  | a :: es, ρ, ρ', os, hs, h => by
    rw [evs_cons] at h
    cases e : evs Φ [a] ρ with
    | ok o ρ1 =>
      rw [e] at h
      obtain ⟨o1, rfl⟩ := oneO (hs a (List.mem_cons_self ..)) _ _ _ e
      simp only [R.bind] at h
      cases e2 : evs Φ es ρ1 with
      | ok os2 ρ2 =>
        rw [e2] at h
        cases h
        simp [evs_len (fun b hb => hs b (List.mem_cons_of_mem _ hb)) e2]
      | exc _ _ _ => rw [e2] at h; cases h
      | stk => rw [e2] at h; cases h
    | exc _ _ _ => rw [e] at h; cases h
    | stk => rw [e] at h; cases h
theorem tOs_len {es : List IE} (hs : ∀ a ∈ es, isStar a = false) (σ : L2.St) (H : Hp) (Q : List V → Hp → Prop) (h : tOs K Φ E es σ H Q) : tOs K Φ E es σ H fun vs H1 => vs.length = es.length ∧ Q vs H1 := by
  obtain ⟨B, lk, F, ρ, fps, ts, S, o⟩ := h
  refine ⟨B, lk, F, ρ, fps, ts, S, o.imp' fun os ρ1 e q tms F1 H1 fps1 hi S1 => ⟨?_, q tms F1 H1 fps1 hi S1⟩⟩
  rw [List.length_map, ← hi.length, evs_len hs e]
theorem okos_noStar : ∀ {ies : List IE} {es : List Expr}, OkOs X Φ E ies es → noStar es = true → ∀ a ∈ ies, isStar a = false
  | [], [], _, _ => fun _ h => nomatch h
  | a :: as, e :: es, h, hn => fun b hb => by
    obtain ⟨n1, n2⟩ := noStar_cons hn
    rcases List.mem_cons.mp hb with rfl | hb
    · cases q : isStar b with
      | false => rfl
      | true =>
        obtain ⟨e', p, i, rfl, _⟩ := h.1.st q
        simp [isStarred] at n1
    · exact okos_noStar h.2 n2 b hb
  | [], _ :: _, h, _ => h.elim
  | _ :: _, [], h, _ => h.elim
def isBoolE : Expr → Bool
  | .BoolOp _ _ _ => true
  | _ => false
/-- what the check tells -/
structure Chk (X : Cx) (Φ : Fns) (E : XK) (ie : IE) (tst : Bool) (e : Expr) : Prop where
  val : tst = false → OkO X Φ E ie e
  tst : tst = true → isVal ie = true → PT X e (tT X.K Φ E ie) ∧ (isBoolE e = true → PW X e (tT X.K Φ E ie))
theorem Chk.plain {ie : IE} {tst : Bool} {e : Expr} (hv : isVal ie = true) (hs : isStarred e = false) (h : PE X e (tI X.K Φ E ie)) (hp : (!tst || plainTest e) = true) : Chk X Φ E ie tst e :=
  ⟨fun _ => .of hv hs h, fun ht _ => by
    subst ht
    have hp : plainTest e = true := by simpa using hp
    exact ⟨pt_of h hp, fun hb => by cases e <;> simp [isBoolE] at hb <;> simp [plainTest] at hp⟩⟩
theorem Chk.both {ie : IE} {tst : Bool} {e : Expr} (hv : isVal ie = true) (hs : isStarred e = false) (hb : isBoolE e = false) (h : PE X e (tI X.K Φ E ie)) (ht : PT X e (tT X.K Φ E ie)) : Chk X Φ E ie tst e :=
  ⟨fun _ => .of hv hs h, fun _ _ => ⟨ht, fun h => by rw [hb] at h; cases h⟩⟩
theorem not_isStar {ie : IE} (h : isVal ie = true) : isStar ie = false := by cases ie <;> first | rfl | (simp [isVal] at h; done)
end Mi
end

section
set_option Elab.async false
set_option linter.all false
set_option maxRecDepth 100000
namespace Mi
open PySem PySem.Spec PyProof.Rows L2
variable {Φ : Fns} {E : XK} {X : Cx} {g : Gx} {N : List Str} {sc : Scope} {own : Option Scope}
def OkB (X : Cx) (Φ : Fns) (E : XK) (bs : List IE) (e : Option Expr) : Prop := PO X e (tBd X.K Φ E bs)
theorem chk_op {o : Op2} {es : List IE} {tst : Bool} {e : Expr} (O : XOk g N sc own Φ E X) (ih : ∀ es', chkOs g N es sc es' = true → OkOs X Φ E es es') (h : chk g N (.op o es) tst sc e = true) : Chk X Φ E (.op o es) tst e := by
  simp only [chk] at h
  split at h
  · rename_i a op b pos
    simp only [Bool.and_eq_true] at h
    obtain ⟨⟨h1, h2⟩, h3⟩ := h
    obtain ⟨x, y, rfl, o1, o2, p1, p2⟩ := (ih _ h3).two h2
    exact .plain rfl rfl ((pe_op (binO_ok h1) p1 p2).imp fun σ H Q q => t_op o1 o2 q) (by simp [plainTest])
  · rename_i a op b pos
    simp only [Bool.and_eq_true, Bool.not_eq_true'] at h
    obtain ⟨⟨⟨h1, h2⟩, h3⟩, h4⟩ := h
    obtain ⟨x, y, rfl, o1, o2, p1, p2⟩ := (ih _ h4).two h3
    exact .both rfl rfl rfl ((pe_cmpR (cmpO_ok O.units h1) p1 p2 h2).imp fun σ H Q q => t_op o1 o2 q) ((pt_cmpR (cmpO_ok O.units h1) p1 p2 h2).imp fun σ H Q q => t_op o1 o2 (tT_tI q))
  · cases h
theorem chk_isn {neg : Bool} {es : List IE} {tst : Bool} {e : Expr} (O : XOk g N sc own Φ E X) (ih : ∀ es', chkOs g N es sc es' = true → OkOs X Φ E es es') (h : chk g N (.isn neg es) tst sc e = true) : Chk X Φ E (.isn neg es) tst e := by
  simp only [chk] at h
  split at h
  · simp only [Bool.and_eq_true, Bool.not_eq_true'] at h
    obtain ⟨⟨h1, h2⟩, h3⟩ := h
    obtain ⟨x, rfl, o1, p1⟩ := (ih _ h3).one h2
    subst h1
    have key : ∀ {σ : L2.St} {H : Hp} {Q : VK}, tI X.K Φ E (.isn false [x]) σ H Q → tIsN (tO X.K Φ E x) σ H Q := fun q => tO_mono (t_isn o1 q) fun v H q => by simpa using q
    exact .both rfl rfl rfl ((pe_cmp (pc_isN p1) rfl).imp fun σ H Q q => key q) ((pt_cmp (pc_isN p1) rfl).imp fun σ H Q q => key (tT_tI q))
  · simp only [Bool.and_eq_true] at h
    obtain ⟨⟨h1, h2⟩, h3⟩ := h
    obtain ⟨x, rfl, o1, p1⟩ := (ih _ h3).one h2
    subst h1
    have key : ∀ {σ : L2.St} {H : Hp} {Q : VK}, tI X.K Φ E (.isn true [x]) σ H Q → tNotN (tO X.K Φ E x) σ H Q := fun q => tO_mono (t_isn o1 q) fun v H q => by simpa using q
    exact .both rfl rfl rfl ((pe_cmp (pc_notN p1) rfl).imp fun σ H Q q => key q) ((pt_cmp (pc_notN p1) rfl).imp fun σ H Q q => key (tT_tI q))
  · cases h
theorem chk_chain {o1 o2 : Op2} {es cs : List IE} {tst : Bool} {e : Expr} (O : XOk g N sc own Φ E X) (ih : ∀ es', chkOs g N es sc es' = true → OkOs X Φ E es es') (ih2 : ∀ es', chkOs g N cs sc es' = true → OkOs X Φ E cs es') (h : chk g N (.chain o1 o2 es cs) tst sc e = true) : Chk X Φ E (.chain o1 o2 es cs) tst e := by
  simp only [chk] at h
  split at h
  · simp only [Bool.and_eq_true, Bool.not_eq_true'] at h
    obtain ⟨⟨⟨⟨⟨⟨h1, h2⟩, h3⟩, h4⟩, h5⟩, h6⟩, h7⟩ := h
    obtain ⟨x, y, rfl, q1, q2, p1, p2⟩ := (ih _ h6).two h4
    obtain ⟨z, rfl, q3, p3⟩ := (ih2 _ h7).one h5
    exact .both rfl rfl rfl ((pe_chain (cmpO_ok O.units h1) (cmpO_ok O.units h2) p1 p2 p3 h3).imp fun σ H Q q => t_chain q1 q2 q3 q) ((pt_chain (cmpO_ok O.units h1) (cmpO_ok O.units h2) p1 p2 p3 h3).imp fun σ H Q q => t_chain q1 q2 q3 (tT_tI q))
  · cases h
theorem chk_cb {p : Pr} {es : List IE} {tst : Bool} {e : Expr} (O : XOk g N sc own Φ E X) (ih : ∀ es', chkOs g N es sc es' = true → OkOs X Φ E es es') (h : chk g N (.cb p es) tst sc e = true) : Chk X Φ E (.cb p es) tst e := by
  simp only [chk] at h
  split at h
  · rename_i x pos1 a as pos
    simp only [Bool.and_eq_true] at h
    obtain ⟨⟨⟨⟨⟨h1, h2⟩, h3⟩, h4⟩, h5⟩, h6⟩ := h
    obtain ⟨n1, n2, n3⟩ := nmB_ok h1
    obtain ⟨s1, s2⟩ := noStar_cons h5
    have pa := pa_of (ih _ h6)
    have hb := O.blt x (by simpa using h3)
    have key : ∀ {σ : L2.St} {H : Hp} {Q : VK}, tI X.K Φ E (.cb p es) σ H Q → tCB (rPr X.K p) (tOs X.K Φ E es) σ H Q := fun {σ H Q} q => by
      have q : ∃ B lk F ρ fps ts, Sta X.K B lk F H σ ρ fps ts ∧ Out (XC X.K E B lk σ) (ev Φ (.cb p es) ρ) _ := q
      simp only [ev] at q
      exact (t_ops q).mono fun vs H1 q => o_cb q
    unfold prB at h4
    split at h4
    · rename_i n e1
      exact .plain rfl rfl ((pe_callB (prFn_ok O.calm O.gds O.units h4) (glB_ok O h2) hb e1 pa n3 n1 (star_each s1) (plain_args s2)).imp fun σ H Q q => key q) (by simp [plainTest])
    · rename_i n e1
      exact .plain rfl rfl ((pe_callTy (prTy_ok h4) (glB_ok O h2) hb e1 pa n3 n1 (star_each s1) (plain_args s2)).imp fun σ H Q q => key q) (by simp [plainTest])
    · cases h4
  · cases h
theorem isName_ok {ns : List (Str × List Str)} {f : Nat} {x : Str} (h : isName ns f x = true) : ∃ p, ns[f]? = some p ∧ p.1 = x := by
  unfold isName at h
  split at h
  · rename_i p e
    exact ⟨p, e, by simpa using h⟩
  · cases h
theorem chk_call {f : Nat} {es : List IE} {tst : Bool} {e : Expr} (O : XOk g N sc own Φ E X) (ih : ∀ es', chkOs g N es sc es' = true → OkOs X Φ E es es') (h : chk g N (.call f es) tst sc e = true) : Chk X Φ E (.call f es) tst e := by
  simp only [chk] at h
  split at h
  · rename_i x pos1 a as pos
    simp only [Bool.and_eq_true] at h
    obtain ⟨⟨⟨⟨h1, h2⟩, h3⟩, h5⟩, h6⟩ := h
    obtain ⟨n1, n2, n3⟩ := nmB_ok h1
    obtain ⟨s1, s2⟩ := noStar_cons h5
    have pa := pa_of (ih _ h6)
    obtain ⟨p, e1, rfl⟩ := isName_ok h3
    obtain ⟨k, CX, fa, fd, G, hr, hm, hk, hb, _, hx, _⟩ := O.fns f p e1
    refine .plain rfl rfl ((pe_callG G hr O.gds (glB_ok O h2) hm hk hb hx pa n1 (star_each s1) (plain_args s2)).imp fun σ H Q q => ?_) (by simp [plainTest])
    have q : ∃ B lk F ρ fps ts, Sta X.K B lk F H σ ρ fps ts ∧ Out (XC X.K E B lk σ) (ev Φ (.call f es) ρ) _ := q
    simp only [ev] at q
    exact (t_ops q).mono fun vs H1 q => o_call q
  · cases h
theorem chk_callK {f : Nat} {es : List IE} {perm : List Nat} {tst : Bool} {e : Expr} (O : XOk g N sc own Φ E X) (ih : ∀ es', chkOs g N es sc es' = true → OkOs X Φ E es es') (h : chk g N (.callK f es perm) tst sc e = true) : Chk X Φ E (.callK f es perm) tst e := by
  simp only [chk] at h
  split at h
  · rename_i x pos1 kws pos
    simp only [Bool.and_eq_true, decide_eq_true_eq] at h
    obtain ⟨⟨⟨⟨⟨⟨h1, h2⟩, h3⟩, h4⟩, h5⟩, h6⟩, h7⟩ := h
    obtain ⟨n1, n2, n3⟩ := nmB_ok h1
    have ok := ih _ h7
    have pk := pk_of ok h6
    obtain ⟨p, e1, rfl⟩ := isName_ok h3
    obtain ⟨k, CX, fa, fd, G, hr, hm, hk, _, hb, hx, _⟩ := O.fns f p e1
    obtain ⟨a1, a2, a3⟩ := kw_all (env := X.env) (pos := pos) h4
    have hn := okos_noStar ok h6
    have hlen : es.length = (kwNames kws).length := by rw [ok.len, kw_len h4]
    refine .plain rfl rfl ((pe_callKG G hr O.gds (glB_ok O h2) hm hk (hb _ _ h5) hx pk (fun σ H Q q => by
      have := tOs_len hn σ H Q q
      rw [hlen] at this
      exact this) a1 a2 n1 (by rw [a3]; rfl)).imp fun σ H Q q => ?_) (by simp [plainTest])
    have q : ∃ B lk F ρ fps ts, Sta X.K B lk F H σ ρ fps ts ∧ Out (XC X.K E B lk σ) (ev Φ (.callK f es perm) ρ) _ := q
    simp only [ev] at q
    exact (t_ops q).mono fun vs H1 q => o_callK q
  · cases h
theorem chk_tup {es : List IE} {tst : Bool} {e : Expr} (ih : ∀ es', chkOs g N es sc es' = true → OkOs X Φ E es es') (h : chk g N (.tup es) tst sc e = true) : Chk X Φ E (.tup es) tst e := by
  simp only [chk] at h
  split at h
  · refine .plain rfl rfl ((pe_tup (pa_of (ih _ h))).imp fun σ H Q q => ?_) (by simp [plainTest])
    have q : ∃ B lk F ρ fps ts, Sta X.K B lk F H σ ρ fps ts ∧ Out (XC X.K E B lk σ) (ev Φ (.tup es) ρ) _ := q
    simp only [ev] at q
    exact (t_ops q).mono fun vs H1 q => o_tup q
  · cases h
theorem chk_lst {es : List IE} {tst : Bool} {e : Expr} (ih : ∀ es', chkOs g N es sc es' = true → OkOs X Φ E es es') (h : chk g N (.lst es) tst sc e = true) : Chk X Φ E (.lst es) tst e := by
  simp only [chk] at h
  split at h
  · refine .plain rfl rfl ((pe_lst (pa_of (ih _ h))).imp fun σ H Q q => ?_) (by simp [plainTest])
    have q : ∃ B lk F ρ fps ts, Sta X.K B lk F H σ ρ fps ts ∧ Out (XC X.K E B lk σ) (ev Φ (.lst es) ρ) _ := q
    simp only [ev] at q
    exact (t_ops q).mono fun vs H1 q => o_lst q
  · cases h
theorem chk_idx {es : List IE} {tst : Bool} {e : Expr} (ih : ∀ es', chkOs g N es sc es' = true → OkOs X Φ E es es') (h : chk g N (.idx es) tst sc e = true) : Chk X Φ E (.idx es) tst e := by
  simp only [chk] at h
  split at h
  · simp only [Bool.and_eq_true] at h
    obtain ⟨⟨h1, h2⟩, h3⟩ := h
    obtain ⟨x, y, rfl, o1, o2, p1, p2⟩ := (ih _ h3).two h2
    exact .plain rfl rfl ((pe_ix ix_P p1 p2 (plainIx_ok h1)).imp fun σ H Q q => t_idx o1 o2 q) (by simp [plainTest])
  · cases h
theorem chk_neg {es : List IE} {tst : Bool} {e : Expr} (ih : ∀ es', chkOs g N es sc es' = true → OkOs X Φ E es es') (h : chk g N (.neg es) tst sc e = true) : Chk X Φ E (.neg es) tst e := by
  simp only [chk] at h
  split at h
  · simp only [Bool.and_eq_true] at h
    obtain ⟨x, rfl, o1, p1⟩ := (ih _ h.2).one h.1
    exact .plain rfl rfl ((pe_un un_neg p1).imp fun σ H Q q => t_neg o1 q) (by simp [plainTest])
  · cases h
theorem chk_slc {es lo hi : List IE} {tst : Bool} {e : Expr} (ih : ∀ es', chkOs g N es sc es' = true → OkOs X Φ E es es') (ih1 : ∀ e, chkB g N lo sc e = true → OkB X Φ E lo e) (ih2 : ∀ e, chkB g N hi sc e = true → OkB X Φ E hi e) (h : chk g N (.slc es lo hi) tst sc e = true) : Chk X Φ E (.slc es lo hi) tst e := by
  simp only [chk] at h
  split at h
  · simp only [Bool.and_eq_true] at h
    obtain ⟨⟨⟨h1, h2⟩, h3⟩, h4⟩ := h
    obtain ⟨x, rfl, o1, p1⟩ := (ih _ h2).one h1
    exact .plain rfl rfl ((pe_slice sl_P p1 (ih1 _ h3) (ih2 _ h4)).imp fun σ H Q q => t_slc o1 q) (by simp [plainTest])
  · cases h
theorem chk_notE {a : IE} {tst : Bool} {e : Expr} (ih : ∀ e, chk g N a tst sc e = true → Chk X Φ E a tst e) (h : chk g N (.notE a) tst sc e = true) : Chk X Φ E (.notE a) tst e := by
  simp only [chk] at h
  split at h
  · rename_i x pos
    simp only [Bool.and_eq_true] at h
    have ih := ih _ h.2
    refine ⟨fun ht => ?_, fun ht _ => ⟨?_, fun hb => by cases hb⟩⟩
    · exact .of rfl rfl ((pe_not ((ih.val ht).vl h.1)).imp fun σ H Q q => t_not q)
    · exact (pt_not (ih.tst ht h.1).1).imp fun σ H Q q => tT_not q
  · cases h
theorem chk_andE {a b : IE} {tst : Bool} {e : Expr} (ih : ∀ e, chk g N a tst sc e = true → Chk X Φ E a tst e) (ih2 : ∀ e, chk g N b tst sc e = true → Chk X Φ E b tst e) (h : chk g N (.andE a b) tst sc e = true) : Chk X Φ E (.andE a b) tst e := by
  simp only [chk] at h
  split at h
  · rename_i x y pos
    simp only [Bool.and_eq_true] at h
    obtain ⟨⟨⟨v1, v2⟩, h1⟩, h2⟩ := h
    have c1 := ih _ h1
    have c2 := ih2 _ h2
    refine ⟨fun ht => ?_, fun ht _ => ?_⟩
    · exact .of rfl rfl ((pe_and ((c1.val ht).vl v1) (pe_one ((c2.val ht).vl v2))).imp fun σ H Q q => t_and q)
    · have : PW X (.BoolOp .And [x, y] pos) (tT X.K Φ E (.andE a b)) := (pw_and (c1.tst ht v1).1 (pw_and1 (c2.tst ht v2).1)).imp fun σ H Q q => tT_and q
      exact ⟨this.pt, fun _ => this⟩
  · rename_i x y z r pos
    simp only [Bool.and_eq_true] at h
    obtain ⟨⟨⟨v1, v2⟩, h1⟩, h2⟩ := h
    have c1 := ih _ h1
    have c2 := ih2 _ h2
    refine ⟨fun ht => ?_, fun ht _ => ?_⟩
    · exact .of rfl rfl ((pe_and ((c1.val ht).vl v1) ((c2.val ht).vl v2)).imp fun σ H Q q => t_and q)
    · have : PW X (.BoolOp .And (x :: y :: z :: r) pos) (tT X.K Φ E (.andE a b)) := (pw_and (c1.tst ht v1).1 ((c2.tst ht v2).2 rfl)).imp fun σ H Q q => tT_and q
      exact ⟨this.pt, fun _ => this⟩
  · cases h
theorem chk_orE {a b : IE} {tst : Bool} {e : Expr} (ih : ∀ e, chk g N a tst sc e = true → Chk X Φ E a tst e) (ih2 : ∀ e, chk g N b tst sc e = true → Chk X Φ E b tst e) (h : chk g N (.orE a b) tst sc e = true) : Chk X Φ E (.orE a b) tst e := by
  simp only [chk] at h
  split at h
  · rename_i x y pos
    simp only [Bool.and_eq_true] at h
    obtain ⟨⟨⟨v1, v2⟩, h1⟩, h2⟩ := h
    have c1 := ih _ h1
    have c2 := ih2 _ h2
    refine ⟨fun ht => ?_, fun ht _ => ?_⟩
    · exact .of rfl rfl ((pe_or ((c1.val ht).vl v1) (pe_one ((c2.val ht).vl v2))).imp fun σ H Q q => t_or q)
    · have : PW X (.BoolOp .Or [x, y] pos) (tT X.K Φ E (.orE a b)) := (pw_or (c1.tst ht v1).1 (pw_or1 (c2.tst ht v2).1)).imp fun σ H Q q => tT_or q
      exact ⟨this.pt, fun _ => this⟩
  · rename_i x y z r pos
    simp only [Bool.and_eq_true] at h
    obtain ⟨⟨⟨v1, v2⟩, h1⟩, h2⟩ := h
    have c1 := ih _ h1
    have c2 := ih2 _ h2
    refine ⟨fun ht => ?_, fun ht _ => ?_⟩
    · exact .of rfl rfl ((pe_or ((c1.val ht).vl v1) ((c2.val ht).vl v2)).imp fun σ H Q q => t_or q)
    · have : PW X (.BoolOp .Or (x :: y :: z :: r) pos) (tT X.K Φ E (.orE a b)) := (pw_or (c1.tst ht v1).1 ((c2.tst ht v2).2 rfl)).imp fun σ H Q q => tT_or q
      exact ⟨this.pt, fun _ => this⟩
  · cases h
theorem chk_ite {c a b : IE} {tst : Bool} {e : Expr} (ih0 : ∀ e, chk g N c true sc e = true → Chk X Φ E c true e) (ih : ∀ e, chk g N a false sc e = true → Chk X Φ E a false e) (ih2 : ∀ e, chk g N b false sc e = true → Chk X Φ E b false e) (h : chk g N (.ite c a b) tst sc e = true) : Chk X Φ E (.ite c a b) tst e := by
  simp only [chk] at h
  split at h
  · simp only [Bool.and_eq_true, Bool.not_eq_true'] at h
    obtain ⟨⟨⟨⟨⟨⟨h0, v0⟩, v1⟩, v2⟩, h1⟩, h2⟩, h3⟩ := h
    exact ⟨fun _ => .of rfl rfl ((pe_ifExp ((ih0 _ h1).tst rfl v0).1 (((ih _ h2).val rfl).vl v1) (((ih2 _ h3).val rfl).vl v2)).imp fun σ H Q q => t_ite q), fun ht => by rw [h0] at ht; cases ht⟩
  · cases h
theorem callN_ok {n : String} {x : Str} (O : XOk g N sc own Φ E X) (h : callN g sc n x = true) : x = Str.ofString n ∧ Gl X x ∧ X.mg x = none := by
  unfold callN at h
  simp only [Bool.and_eq_true, decide_eq_true_eq] at h
  exact ⟨h.1.1, glB_ok O h.1.2, O.blt x (by simpa using h.2)⟩
theorem chk_rng {tup : Bool} {es : List IE} {tst : Bool} {e : Expr} (O : XOk g N sc own Φ E X) (ih : ∀ es', chkOs g N es sc es' = true → OkOs X Φ E es es') (h : chk g N (.rng tup es) tst sc e = true) : Chk X Φ E (.rng tup es) tst e := by
  simp only [chk] at h
  split at h
  · rename_i y p1 x p2 a' p3 p4
    simp only [Bool.and_eq_true] at h
    obtain ⟨⟨⟨h1, h2⟩, h3⟩, h4⟩ := h
    obtain ⟨a, rfl, o1, pa1⟩ := (ih _ h4).one h3
    obtain ⟨rfl, gl, mb⟩ := callN_ok O h2
    have s1 := (noStar_cons h3).1
    have pr := prg_1 (p := p2) (pos := p3) gl mb pa1 (star_each s1)
    have key : ∀ {σ : L2.St} {H : Hp} {Q : VK}, tI X.K Φ E (.rng tup [a]) σ H Q → tRg1 (tO X.K Φ E a) σ H fun a b H1 => RgOk a b ∧ ∀ q, H1 q = none → Q (.ref q) (upd H1 q (if tup then .tup (rgV a b) else .lst (rgV a b))) := fun q => tO_mono (t_one' o1 (t_rng q)) fun x H1 ⟨a, b, hv, q⟩ => by
      rcases hv with ⟨hv, rfl⟩ | hv
      · cases hv; exact ⟨b, rfl, q⟩
      · cases hv
    cases tup with
    | true =>
      rw [if_pos rfl] at h1
      obtain ⟨rfl, gl2, mb2⟩ := callN_ok O h1
      exact .plain rfl rfl ((pe_tupRg O.calm gl2 mb2 pr rfl).imp fun σ H Q q => key q) (by simp [plainTest])
    | false =>
      rw [if_neg Bool.false_ne_true] at h1
      obtain ⟨rfl, gl2, mb2⟩ := callN_ok O h1
      exact .plain rfl rfl ((pe_listRg O.calm gl2 mb2 pr rfl).imp fun σ H Q q => key q) (by simp [plainTest])
  · rename_i y p1 x p2 a' b' p3 p4
    simp only [Bool.and_eq_true] at h
    obtain ⟨⟨⟨h1, h2⟩, h3⟩, h4⟩ := h
    obtain ⟨a, b, rfl, o1, o2, pa1, pa2⟩ := (ih _ h4).two h3
    obtain ⟨rfl, gl, mb⟩ := callN_ok O h2
    obtain ⟨s1, s2⟩ := noStar_cons h3
    have s3 := (noStar_cons s2).1
    have pr := prg_2 (p := p2) (pos := p3) gl mb pa1 pa2 (star_each s1) (star_each s3) (plain_args s2)
    have key : ∀ {σ : L2.St} {H : Hp} {Q : VK}, tI X.K Φ E (.rng tup [a, b]) σ H Q → tRg2 (tO X.K Φ E a) (tO X.K Φ E b) σ H fun a b H1 => RgOk a b ∧ ∀ q, H1 q = none → Q (.ref q) (upd H1 q (if tup then .tup (rgV a b) else .lst (rgV a b))) := fun q => tO_mono (t_two' o1 o2 (t_rng q)) fun x H1 q => tO_mono q fun y H2 ⟨a, b, hv, q3⟩ => by
      rcases hv with ⟨hv, rfl⟩ | hv
      · cases hv
      · cases hv; exact ⟨a, b, rfl, rfl, q3⟩
    cases tup with
    | true =>
      rw [if_pos rfl] at h1
      obtain ⟨rfl, gl2, mb2⟩ := callN_ok O h1
      exact .plain rfl rfl ((pe_tupRg O.calm gl2 mb2 pr rfl).imp fun σ H Q q => key q) (by simp [plainTest])
    | false =>
      rw [if_neg Bool.false_ne_true] at h1
      obtain ⟨rfl, gl2, mb2⟩ := callN_ok O h1
      exact .plain rfl rfl ((pe_listRg O.calm gl2 mb2 pr rfl).imp fun σ H Q q => key q) (by simp [plainTest])
  · cases h
theorem chk_it {it : It} {es : List IE} {tg iter : Expr} (hit : it = .seq es ∨ it = .range es ∨ it = .enum es ∨ it = .zip es) (O : XOk g N sc own Φ E X) (ih : ∀ es', chkOs g N es sc es' = true → OkOs X Φ E es es') (h : chkIt g N it sc tg iter = true) : PI X tg iter (tIt X.K Φ E it) := by
  rcases hit with rfl | rfl | rfl | rfl
  · simp only [chkIt, Bool.and_eq_true] at h
    obtain ⟨a, rfl, o1, p1⟩ := (ih _ h.2).one h.1
    exact (pi_seq p1).imp fun σ H R q => t_seq o1 q
  · simp only [chkIt] at h
    split at h
    · simp only [Bool.and_eq_true] at h
      obtain ⟨⟨h1, h2⟩, h3⟩ := h
      obtain ⟨a, rfl, o1, p1⟩ := (ih _ h3).one h2
      obtain ⟨rfl, gl, mb⟩ := callN_ok O h1
      have s1 := (noStar_cons h2).1
      exact (pi_range1 gl mb (pa_cons p1 pa_nil (star_each s1)) (star_each s1)).imp fun σ H R q => t_range1 o1 q
    · simp only [Bool.and_eq_true] at h
      obtain ⟨⟨h1, h2⟩, h3⟩ := h
      obtain ⟨a, b, rfl, o1, o2, p1, p2⟩ := (ih _ h3).two h2
      obtain ⟨rfl, gl, mb⟩ := callN_ok O h1
      obtain ⟨s1, s2⟩ := noStar_cons h2
      have s3 := (noStar_cons s2).1
      exact (pi_range2 gl mb (pa_cons p1 (pa_cons p2 pa_nil (star_each s3)) (star_each s1)) (by rw [star_each s1, star_each s3]; rfl) (star_each s3)).imp fun σ H R q => t_range2 o1 o2 q
    · cases h
  · simp only [chkIt] at h
    split at h
    · simp only [Bool.and_eq_true] at h
      obtain ⟨⟨⟨h0, h1⟩, h2⟩, h3⟩ := h
      obtain ⟨rfl, gl, mb⟩ := callN_ok O h1
      have s1 := (noStar_cons h2).1
      cases tg <;> try (simp [isTup] at h0; done)
      exact (pi_enumB gl mb (pa_of (ih _ h3)) (star_each s1)).imp fun σ H R q => t_enum q
    · cases h
  · simp only [chkIt] at h
    split at h
    · simp only [Bool.and_eq_true] at h
      obtain ⟨⟨⟨h0, h1⟩, h2⟩, h3⟩ := h
      obtain ⟨rfl, gl, mb⟩ := callN_ok O h1
      obtain ⟨a, b, rfl, o1, o2, p1, p2⟩ := (ih _ h3).two h2
      obtain ⟨s1, s2⟩ := noStar_cons h2
      have s3 := (noStar_cons s2).1
      cases tg <;> try (simp [isTup] at h0; done)
      exact (pi_zipB gl mb (pa_cons p1 (pa_cons p2 pa_nil (star_each s3)) (star_each s1)) (star_each s1) (plain_args s2)).imp fun σ H R q => t_zip2 o1 o2 q
    · simp only [Bool.and_eq_true] at h
      obtain ⟨⟨⟨h0, h1⟩, h2⟩, h3⟩ := h
      obtain ⟨rfl, gl, mb⟩ := callN_ok O h1
      obtain ⟨a, b, c, rfl, o1, o2, o3, p1, p2, p3⟩ := (ih _ h3).three h2
      obtain ⟨s1, s2⟩ := noStar_cons h2
      obtain ⟨s3, s4⟩ := noStar_cons s2
      have s5 := (noStar_cons s4).1
      cases tg <;> try (simp [isTup] at h0; done)
      exact (pi_zipC gl mb (pa_cons p1 (pa_cons p2 (pa_cons p3 pa_nil (star_each s5)) (star_each s3)) (star_each s1)) (star_each s1) (plain_args s2)).imp fun σ H R q => t_zip3 o1 o2 o3 q
    · cases h
end Mi
end

section
set_option Elab.async false
set_option linter.all false
set_option maxRecDepth 100000
namespace Mi
open PySem PySem.Spec PyProof.Rows L2
variable {Φ : Fns} {g : Gx} {N : List Str}
theorem t_frz {K : PySem.W.Frag} {E : XK} {e : IE} {σ : L2.St} {H : Hp} {Q : VK} (h : tI K Φ E (.frz e) σ H Q) : tI K Φ E e σ H Q := by
  obtain ⟨B, lk, F, ρ, fps, ts, S, o⟩ := h
  simp only [ev] at o
  rw [out_bind] at o
  refine ⟨B, lk, F, ρ, fps, ts, S, o.imp fun d ρ' q v fp F' H' fps' S' => ?_⟩
  obtain ⟨F2, s2, r, S2⟩ := S'.freezeT
  exact q v [] F2 H' fps' (S2.pushS r)
theorem chk_lc {E : XK} {X : Cx} {sc : Scope} {own : Option Scope} {vs : List Nat} {tg : Tg} {it : It} {ifs : List IE} {elt : IE} {tst : Bool} {e : Expr} (O : XOk g N sc own Φ E X) (ihI : ∀ tg iter, chkIt g N it sc tg iter = true → PI X tg iter (tIt X.K Φ E it))
    (ihF : ∀ {E' : XK} {X' : Cx} {sc' : Scope} {own' : Option Scope} {es : List Expr}, XOk g N sc' own' Φ E' X' → chkIfs g N ifs sc' es = true → PTs X' es (tIfs X'.K Φ E' ifs)) (ihE : ∀ {E' : XK} {X' : Cx} {sc' : Scope} {own' : Option Scope} {e : Expr}, XOk g N sc' own' Φ E' X' → chk g N elt false sc' e = true → Chk X' Φ E' elt false e)
    (h : chk g N (.lc vs tg it ifs elt) tst sc e = true) : Chk X Φ E (.lc vs tg it ifs elt) tst e ∧ (∃ elt' gen scope pos, e = .ListComp elt' [gen] scope pos ∧ gen.is_async = 0 ∧ BlkOk X.N X.env.scope scope (ownOf N scope) ∧ plainIter gen.iter = true ∧ PI X gen.target gen.iter (tIt X.K Φ E it) ∧
      (∀ (s : Shared) (H : Hp) (C : Addr) (cl : List (Str × Addr)) (fp : List Addr), PG (X.blk s H scope (compEnvC scope cl C X.env) fp) gen.target (tG X.K [] tg)) ∧
      (∀ (s : Shared) (H : Hp) (C : Addr) (cl : List (Str × Addr)) (fp : List Addr), PTs (X.blk s H scope (compEnvC scope cl C X.env) fp) gen.ifs (tIfs X.K Φ noX ifs)) ∧
      (∀ (s : Shared) (H : Hp) (C : Addr) (cl : List (Str × Addr)) (fp : List Addr), PE (X.blk s H scope (compEnvC scope cl C X.env) fp) elt' (tI X.K Φ noX elt)) ∧ vs = (ownOf N scope).map (·.2) ∧ ∀ j ∈ slotsT tg, j ∈ vs) := by
  simp only [chk] at h
  split at h
  · rename_i elt' gen scope pos
    simp only [Bool.and_eq_true, Bool.not_eq_true', decide_eq_true_eq] at h
    obtain ⟨⟨⟨⟨⟨⟨⟨⟨⟨⟨h1, h2⟩, h3⟩, h4⟩, h5⟩, h6⟩, h7⟩, h8⟩, h9⟩, h10⟩, h11⟩ := h
    have bk : BlkOk X.N X.env.scope scope (ownOf N scope) := by rw [O.hN, O.hsc]; exact blkB_ok h3
    have hs : ∀ j ∈ slotsT tg, j ∈ vs := fun j hj => by simpa using List.all_eq_true.mp h5 j hj
    have p1 := ihI _ _ h7
    have p2 : ∀ (s : Shared) (H : Hp) (C : Addr) (cl : List (Str × Addr)) (fp : List Addr), PG (X.blk s H scope (compEnvC scope cl C X.env) fp) gen.target (tG X.K [] tg) := fun s H C cl fp => chkG_ok (O.blk scope s H C cl fp) tg _ h8
    have p3 : ∀ (s : Shared) (H : Hp) (C : Addr) (cl : List (Str × Addr)) (fp : List Addr), PTs (X.blk s H scope (compEnvC scope cl C X.env) fp) gen.ifs (tIfs X.K Φ noX ifs) := fun s H C cl fp => ihF (O.blk scope s H C cl fp) h9
    have p4 : ∀ (s : Shared) (H : Hp) (C : Addr) (cl : List (Str × Addr)) (fp : List Addr), PE (X.blk s H scope (compEnvC scope cl C X.env) fp) elt' (tI X.K Φ noX elt) := fun s H C cl fp => ((ihE (O.blk scope s H C cl fp) h11).val rfl).vl h10
    refine ⟨⟨fun _ => .of rfl rfl ?_, fun ht => by rw [h1] at ht; cases ht⟩, elt', gen, scope, pos, rfl, h2, bk, h6, p1, p2, p3, p4, h4, hs⟩
    obtain ⟨tgt, iter, ifs', a⟩ := gen
    subst h2
    subst h4
    exact (pe_lc O.calm (by rw [O.hN]; exact O.nd) p1 bk p2 p3 p4 (plainIter_ok h6)).imp fun σ H Q q => t_lc hs q
  · cases h
mutual
theorem chk_ok : ∀ (ie : IE) {E : XK} {X : Cx} {sc : Scope} {own : Option Scope} (tst : Bool) (e : Expr), XOk g N sc own Φ E X → chk g N ie tst sc e = true → Chk X Φ E ie tst e
  | .const d, E, X, sc, own, tst, e, O, h => by
    simp only [chk, Bool.and_eq_true] at h
    obtain ⟨p, q⟩ := constB_ok (X := X) (Φ := Φ) (E := E) h.2
    exact .plain rfl q p h.1
  | .glob d, E, X, sc, own, tst, e, O, h => by
    simp only [chk, Bool.and_eq_true] at h
    obtain ⟨p, q⟩ := globB_ok O h.2
    exact .plain rfl q p h.1
  | .var i, E, X, sc, own, tst, e, O, h => by
    simp only [chk, Bool.and_eq_true] at h
    obtain ⟨p, q⟩ := varB_ok O h.2
    exact .plain rfl q (p.imp fun σ H Q q => t_var q) h.1
  | .mov i, E, X, sc, own, tst, e, O, h => by
    simp only [chk, Bool.and_eq_true] at h
    obtain ⟨p, q⟩ := varB_ok O h.2
    exact .plain rfl q (p.imp fun σ H Q q => t_mov q) h.1
  | .peek i, E, X, sc, own, tst, e, O, h => by
    simp only [chk, Bool.and_eq_true, Bool.not_eq_true'] at h
    obtain ⟨p, q⟩ := varB_ok O h.2
    exact ⟨fun _ => ⟨fun z => by simp [isStar] at z, fun _ => ⟨q, p.imp fun σ H Q q => t_peek q⟩, fun z => by simp [isVal] at z⟩, fun ht => by rw [h.1] at ht; cases ht⟩
  | .peekF i, E, X, sc, own, tst, e, O, h => by
    simp only [chk, Bool.and_eq_true, Bool.not_eq_true'] at h
    obtain ⟨p, q⟩ := varB_ok O h.2
    exact ⟨fun _ => ⟨fun z => by simp [isStar] at z, fun _ => ⟨q, p.imp fun σ H Q q => t_peekF q⟩, fun z => by simp [isVal] at z⟩, fun ht => by rw [h.1] at ht; cases ht⟩
  | .star i, E, X, sc, own, tst, e, O, h => by
    simp only [chk] at h
    split at h
    · rename_i e' p
      simp only [Bool.and_eq_true, Bool.not_eq_true'] at h
      obtain ⟨⟨h1, h2⟩, h3⟩ := h
      have ih := chk_ok i false e' O h3
      exact ⟨fun _ => ⟨fun _ => ⟨e', p, i, rfl, rfl, (ih.val rfl).vl h2⟩, fun z => by simp [isStar] at z, fun z => by simp [isVal] at z⟩, fun ht => by rw [h1] at ht; cases ht⟩
    · cases h
  | .op o es, E, X, sc, own, tst, e, O, h => chk_op O (fun es' h => chkOs_ok es es' O h) h
  | .isn neg es, E, X, sc, own, tst, e, O, h => chk_isn O (fun es' h => chkOs_ok es es' O h) h
  | .neg es, E, X, sc, own, tst, e, O, h => chk_neg (fun es' h => chkOs_ok es es' O h) h
  | .notE a, E, X, sc, own, tst, e, O, h => chk_notE (fun e h => chk_ok a tst e O h) h
  | .chain o1 o2 es cs, E, X, sc, own, tst, e, O, h => chk_chain O (fun es' h => chkOs_ok es es' O h) (fun es' h => chkOs_ok cs es' O h) h
  | .andE a b, E, X, sc, own, tst, e, O, h => chk_andE (fun e h => chk_ok a tst e O h) (fun e h => chk_ok b tst e O h) h
  | .orE a b, E, X, sc, own, tst, e, O, h => chk_orE (fun e h => chk_ok a tst e O h) (fun e h => chk_ok b tst e O h) h
  | .ite c a b, E, X, sc, own, tst, e, O, h => chk_ite (fun e h => chk_ok c true e O h) (fun e h => chk_ok a false e O h) (fun e h => chk_ok b false e O h) h
  | .tup es, E, X, sc, own, tst, e, O, h => chk_tup (fun es' h => chkOs_ok es es' O h) h
  | .lst es, E, X, sc, own, tst, e, O, h => chk_lst (fun es' h => chkOs_ok es es' O h) h
  | .idx es, E, X, sc, own, tst, e, O, h => chk_idx (fun es' h => chkOs_ok es es' O h) h
  | .slc es lo hi, E, X, sc, own, tst, e, O, h => chk_slc (fun es' h => chkOs_ok es es' O h) (fun e h => chkB_ok lo e O h) (fun e h => chkB_ok hi e O h) h
  | .cb p es, E, X, sc, own, tst, e, O, h => chk_cb O (fun es' h => chkOs_ok es es' O h) h
  | .call f es, E, X, sc, own, tst, e, O, h => chk_call O (fun es' h => chkOs_ok es es' O h) h
  | .callK f es perm, E, X, sc, own, tst, e, O, h => chk_callK O (fun es' h => chkOs_ok es es' O h) h
  | .rng tup es, E, X, sc, own, tst, e, O, h => chk_rng O (fun es' h => chkOs_ok es es' O h) h
  | .frz a, E, X, sc, own, tst, e, O, h => by
    simp only [chk, Bool.and_eq_true, Bool.not_eq_true'] at h
    obtain ⟨⟨h1, h2⟩, h3⟩ := h
    have ih := chk_ok a false e O h3
    have p := (ih.val rfl).vl h2
    have ns := ((ih.val rfl).op (not_isStar h2)).1
    exact ⟨fun _ => .of rfl ns (p.imp fun σ H Q q => t_frz q), fun ht => by rw [h1] at ht; cases ht⟩
  | .lc vs tg it ifs elt, E, X, sc, own, tst, e, O, h => (chk_lc O (fun tg iter h => chkIt_ok it tg iter O h) (fun O' h => chkIfs_ok ifs _ O' h) (fun O' h => chk_ok elt false _ O' h) h).1
theorem chkOs_ok : ∀ (ies : List IE) {E : XK} {X : Cx} {sc : Scope} {own : Option Scope} (es : List Expr), XOk g N sc own Φ E X → chkOs g N ies sc es = true → OkOs X Φ E ies es
  | [], E, X, sc, own, es, O, h => by
    simp only [chkOs] at h
    cases es with
    | nil => trivial
    | cons _ _ => simp at h
  | a :: as, E, X, sc, own, es, O, h => by
    cases es with
    | nil => simp [chkOs] at h
    | cons e es =>
      simp only [chkOs, Bool.and_eq_true] at h
      exact ⟨(chk_ok a false e O h.1.2).val rfl, chkOs_ok as es O h.2⟩
theorem chkB_ok : ∀ (bs : List IE) {E : XK} {X : Cx} {sc : Scope} {own : Option Scope} (e : Option Expr), XOk g N sc own Φ E X → chkB g N bs sc e = true → OkB X Φ E bs e
  | [], E, X, sc, own, e, O, h => by
    simp only [chkB] at h
    cases e with
    | none => exact ⟨fun pins s σ H Q I q => po_none.run pins s σ H Q I (t_bd0 q)⟩
    | some _ => simp at h
  | [a], E, X, sc, own, e, O, h => by
    simp only [chkB] at h
    cases e with
    | none => cases h
    | some e =>
      simp only [Bool.and_eq_true] at h
      have ih := ((chk_ok a false e O h.2).val rfl).vl h.1
      exact ⟨fun pins s σ H Q I q => (po_some ih).run pins s σ H Q I (t_bd1 q)⟩
  | _ :: _ :: _, E, X, sc, own, e, O, h => by simp [chkB] at h
theorem chkIfs_ok : ∀ (bs : List IE) {E : XK} {X : Cx} {sc : Scope} {own : Option Scope} (es : List Expr), XOk g N sc own Φ E X → chkIfs g N bs sc es = true → PTs X es (tIfs X.K Φ E bs)
  | [], E, X, sc, own, es, O, h => by
    simp only [chkIfs] at h
    cases es with
    | nil => exact pts_nil.imp fun σ H Q q => t_ifs0 q
    | cons _ _ => simp at h
  | [a], E, X, sc, own, es, O, h => by
    simp only [chkIfs] at h
    split at h
    · rename_i e
      simp only [Bool.and_eq_true] at h
      exact (pts_one ((chk_ok a true e O h.2).tst rfl h.1).1).imp fun σ H Q q => t_ifs1 q
    · cases h
  | _ :: _ :: _, E, X, sc, own, es, O, h => by simp [chkIfs] at h
theorem chkIt_ok : ∀ (it : It) {E : XK} {X : Cx} {sc : Scope} {own : Option Scope} (tg iter : Expr), XOk g N sc own Φ E X → chkIt g N it sc tg iter = true → PI X tg iter (tIt X.K Φ E it)
  | .seq es, E, X, sc, own, tg, iter, O, h => chk_it (es := es) (.inl rfl) O (fun es' h => chkOs_ok es es' O h) h
  | .range es, E, X, sc, own, tg, iter, O, h => chk_it (es := es) (.inr (.inl rfl)) O (fun es' h => chkOs_ok es es' O h) h
  | .enum es, E, X, sc, own, tg, iter, O, h => chk_it (es := es) (.inr (.inr (.inl rfl))) O (fun es' h => chkOs_ok es es' O h) h
  | .zip es, E, X, sc, own, tg, iter, O, h => chk_it (es := es) (.inr (.inr (.inr rfl))) O (fun es' h => chkOs_ok es es' O h) h
end
end Mi
end

section
set_option Elab.async false
set_option linter.all false
set_option maxRecDepth 100000
/-! The check of statements. -/
namespace Mi
open PySem PySem.Spec PyProof.Rows L2
variable {Φ : Fns} {E : XK} {X : Cx} {g : Gx} {N : List Str} {sc : Scope} {lkN : List Nat}
def isComp : Expr → Bool
  | .ListComp _ _ _ _ => true
  | .SetComp _ _ _ _ => true
  | .DictComp _ _ _ _ _ => true
  | _ => false
theorem sw_plain {e : Expr} {t : Option Expr} {l : Nat} {env : PySem.Env} (h : isComp e = false) : swapsWith e t l env = pure false := by
  cases e <;> first | rfl | (simp [isComp] at h; done)
/-- the names that a, b = x, y stores from the right -/
def parName (sc : Scope) (line : Nat) : Expr → Option Str
  | .Name id pos => if sc.names.lookup id == some .local && pos.line == line then some id else none
  | _ => none
def parNames (sc : Scope) (ts : List Expr) : List Str := ts.filterMap (parName sc ((ts.head?.map (·.pos.line)).getD 0))
theorem parNames_of {ts : List Expr} (f : Expr → Option Str) (h : ∀ e, f e = parName sc ((ts.head?.map (·.pos.line)).getD 0) e) : ts.filterMap f = parNames sc ts := by
  unfold parNames
  rw [funext h]
def parOk (sc : Scope) (ts vs : List Expr) : Bool := decide (sc.kind = .function) && (ts.length == 2 || ts.length == 3) && vs.length == ts.length && noStar vs && (parNames sc ts).length == ts.length && (parNames sc ts).eraseDups.length == (parNames sc ts).length && !vs.all (foldedForSure 8) && !vs.all (constantsAlone 8)
def parNot (sc : Scope) (ts vs : List Expr) : Bool := decide (sc.kind = .function) && (!(ts.length == 2 || ts.length == 3) || vs.length != ts.length || (parNames sc ts).length != ts.length)
theorem starred_any {vs : List Expr} (f : Expr → Bool) (hf : ∀ e, f e = isStarred e) (h : noStar vs = true) : vs.any f = false := by
  rw [funext hf]
  induction vs with
  | nil => rfl
  | cons e es ih =>
    obtain ⟨h1, h2⟩ := noStar_cons h
    rw [List.any_cons, ih h2, h1]
    rfl
theorem par_some {ts vs : List Expr} {kt k2 : Nat} {pt pt2 : Pos} {env : PySem.Env} (he : env.scope = sc) (h : parOk sc ts vs = true) : swappedStores [.Tuple ts kt pt] (.Tuple vs k2 pt2) env = pure (some (parNames sc ts)) := by
  unfold parOk at h
  simp only [Bool.and_eq_true, Bool.not_eq_true', decide_eq_true_eq] at h
  obtain ⟨⟨⟨⟨⟨⟨⟨h1, h2⟩, h3⟩, h4⟩, h5⟩, h6⟩, h7⟩, h8⟩ := h
  have hb : env.blockKind = .function := by unfold Env.blockKind; rw [he, h1]; rfl
  have hk : ∀ x, env.kindOf x = sc.names.lookup x := fun x => by unfold Env.kindOf; rw [he]
  unfold swappedStores
  have e3 : (vs.length != ts.length) = false := by rw [bne, h3]; rfl
  have e5 : ((parNames sc ts).length != ts.length) = false := by rw [bne, h5]; rfl
  have e6 : ((parNames sc ts).eraseDups.length != (parNames sc ts).length) = false := by rw [bne, h6]; rfl
  simp only [pure_bind]
  rw [parNames_of (sc := sc) (ts := ts) _ (fun e => by cases e <;> first | rfl | (simp only [hk]; rfl))]
  simp only [hb, h2, e3, e5, e6, h7, h8]
  rw [starred_any _ (fun e => by cases e <;> rfl) h4]
  rfl
theorem par_none {ts vs : List Expr} {kt k2 : Nat} {pt pt2 : Pos} {env : PySem.Env} (he : env.scope = sc) (h : parNot sc ts vs = true) : swappedStores [.Tuple ts kt pt] (.Tuple vs k2 pt2) env = pure none := by
  unfold parNot at h
  simp only [Bool.and_eq_true, decide_eq_true_eq] at h
  obtain ⟨h1, h2⟩ := h
  have hb : env.blockKind = .function := by unfold Env.blockKind; rw [he, h1]; rfl
  have hk : ∀ x, env.kindOf x = sc.names.lookup x := fun x => by unfold Env.kindOf; rw [he]
  unfold swappedStores
  simp only [pure_bind]
  rw [parNames_of (sc := sc) (ts := ts) _ (fun e => by cases e <;> first | rfl | (simp only [hk]; rfl))]
  simp only [hb]
  rw [Bool.or_eq_true] at h2
  rcases h2 with h2 | h2
  · have e : (!(ts.length == 2 || ts.length == 3) || vs.length != ts.length || (ScopeKind.function != ScopeKind.function)) = true := by rw [h2]; rfl
    simp only [e, if_true]
  · split
    · rfl
    · split
      · rfl
      · have e : ((parNames sc ts).length != ts.length || (parNames sc ts).eraseDups.length != (parNames sc ts).length) = true := by rw [h2]; rfl
        simp only [e, if_true]
def isTupE : Expr → Bool
  | .Tuple _ _ _ => true
  | .List _ _ => true
  | _ => false
theorem swp_plain {tg e : Expr} {env : PySem.Env} (h : isTupE tg = false ∨ isTup e = false) : swappedStores [tg] e env = pure none := by
  rcases h with h | h
  · cases tg <;> first | rfl | (simp [isTupE] at h; done)
  · cases e <;> first | (cases tg <;> rfl) | (simp [isTup] at h; done)
/-- name = [.. for ..]: does the store come ahead of the block's end -/
def swB (sc : Scope) (y : Str) (pyl : Nat) (scope : Scope) (pl : Nat) : Bool := sc.names.lookup y == some .local && pyl == pl && !(scope.names.any fun (n, k) => n == y && (k == .local || k == .cell))
theorem sw_is {elt : Expr} {gs : List Comprehension} {scope : Scope} {pos py : Pos} {y : Str} {l : Nat} {env : PySem.Env} (he : env.scope = sc) (hk : sc.kind = .function) : swapsWith (.ListComp elt gs scope pos) (some (.Name y py)) l env = pure (swB sc y py.line scope pos.line) := by
  have ky : env.kindOf y = sc.names.lookup y := by unfold Env.kindOf; rw [he]
  have hb : env.blockKind = .function := by unfold Env.blockKind; rw [he, hk]; rfl
  unfold swapsWith swB
  simp only [hb, ky, Expr.pos]
  rfl
def slotName (N : List Str) (sc : Scope) (i : Nat) : Expr → Bool
  | .Name x _ => N[i]? == some x && (sc.names.lookup x == some .local || sc.names.lookup x == some .cell)
  | _ => false
def allIx (N : List Str) : List Nat → List Str → Bool
  | [], [] => true
  | i :: is, n :: ns => N[i]? == some n && allIx N is ns
  | _, _ => false
theorem allIx_ok : ∀ {is : List Nat} {ns : List Str}, allIx N is ns = true → is.length = ns.length ∧ ∀ (j : Nat) n, ns[j]? = some n → ∃ i, is[j]? = some i ∧ N[i]? = some n
  | [], [], _ => ⟨rfl, fun j n h => by simp at h⟩
  | i :: is, n :: ns, h => by
    simp only [allIx, Bool.and_eq_true] at h
    obtain ⟨h1, h2⟩ := allIx_ok h.2
    refine ⟨by simp [h1], fun j m hj => ?_⟩
    cases j with
    | zero =>
      simp at hj
      subst hj
      exact ⟨i, rfl, by simpa using h.1⟩
    | succ j =>
      obtain ⟨k, e1, e2⟩ := h2 j m (by simpa using hj)
      exact ⟨k, by simpa using e1, e2⟩
  | [], _ :: _, h => by simp [allIx] at h
  | _ :: _, [], h => by simp [allIx] at h
theorem parNames_local {ts : List Expr} {x : Str} (h : x ∈ parNames sc ts) : sc.names.lookup x = some .local := by
  unfold parNames at h
  obtain ⟨e, he, hx⟩ := List.mem_filterMap.mp h
  unfold parName at hx
  split at hx
  · split at hx
    · rename_i hc
      cases hx
      simp only [Bool.and_eq_true] at hc
      simpa using hc.1
    · cases hx
  · cases hx
def augB (sub : Bool) : Operator → Bool
  | .Add => !sub
  | .Sub => sub
  | _ => false
def isSlot : Tg → Bool
  | .slot _ => true
  | _ => false
def isLc : IE → Bool
  | .lc _ _ _ _ _ => true
  | _ => false
mutual
def chkS (g : Gx) (N : List Str) (sc : Scope) : IS → Stmt → Bool
  | .ex e, st => match st with
    | .Expr x _ => !isComp x && isVal e && chk g N e false sc x
    | _ => false
  | .asg tg e, st => match st with
    | .Assign [t] x pos => match x with
      | .ListComp elt gs scope p => match t with
        | .Name y py => decide (sc.kind = .function) && chkG N sc none tg t && isVal e && chk g N e false sc x && isSlot tg && isLc e
        | _ => false
      | .Tuple vs _ _ => match t with
        | .Tuple ts _ _ => noStar ts && parNot sc ts vs && chkG N sc none tg t && isVal e && chk g N e false sc x
        | .Name _ _ => chkG N sc none tg t && isVal e && chk g N e false sc x
        | _ => false
      | _ => !isComp x && !isTup x && !isStarred t && chkG N sc none tg t && isVal e && chk g N e false sc x
    | _ => false
  | .par is es, st => match st with
    | .Assign [.Tuple ts _ _] (.Tuple vs _ _) _ => parOk sc ts vs && allIx N is (parNames sc ts) && chkOs g N es sc vs
    | _ => false
  | .seti i e ix, st => match st with
    | .Assign [.Subscript o x _] v _ => plainIx x && !isComp v && varB N sc i o && isVal e && isVal ix && chk g N e false sc v && chk g N ix false sc x
    | _ => false
  | .app i e, st => match st with
    | .Expr (.Call (.Attribute o n apos) [a] [] cpos) _ => decide (n = Str.ofString "append") && varB N sc i o && (match o with | .Name _ _ => true | _ => false) && (apos.endLine == cpos.line) && !isStarred a && isVal e && chk g N e false sc a
    | _ => false
  | .ext i e, st => match st with
    | .Expr (.Call (.Attribute o n apos) [a] [] cpos) _ => decide (n = Str.ofString "extend") && varB N sc i o && (match o with | .Name _ _ => true | _ => false) && (apos.endLine == cpos.line) && !isStarred a && isVal e && chk g N e false sc a
    | _ => false
  | .aug i sub e, st => match st with
    | .AugAssign t op x _ => augB sub op && slotName N sc i t && isVal e && chk g N e false sc x
    | _ => false
  | .augi i sub ix e, st => match st with
    | .AugAssign (.Subscript o x _) op v _ => plainIx x && augB sub op && varB N sc i o && isVal ix && isVal e && chk g N ix false sc x && chk g N e false sc v
    | _ => false
  | .ret e, st => match st with
    | .Return (some x) _ => isVal e && chk g N e false sc x
    | _ => false
  | .ifs c a b, st => match st with
    | .If t p q _ => isVal c && chk g N c true sc t && chkSs g N sc a p && chkSs g N sc b q
    | _ => false
  | .for_ tg it body, st => match st with
    | .For t iter p [] _ => plainIter iter && chkG N sc none tg t && chkIt g N it sc t iter && chkSs g N sc body p
    | _ => false
  | .while_ c body, st => match st with
    | .While t p [] _ => isVal c && chk g N c true sc t && chkSs g N sc body p
    | _ => false
  | .never, _ => true
def chkSs (g : Gx) (N : List Str) (sc : Scope) : List IS → List Stmt → Bool
  | [], sts => sts.isEmpty
  | s :: r, sts => match sts with
    | st :: sts => chkS g N sc s st && chkSs g N sc r sts
    | [] => false
end
end Mi
end

section
set_option Elab.async false
set_option linter.all false
set_option maxRecDepth 100000
namespace Mi
open PySem PySem.Spec PyProof.Rows L2
variable {Φ : Fns} {E : XK} {X : Cx} {g : Gx} {N : List Str} {sc : Scope} {lkN : List Nat}
structure SOk (g : Gx) (N : List Str) (sc : Scope) (Φ : Fns) (E : XK) (X : Cx) : Prop where
  ok : XOk g N sc none Φ E X
  po : PassesOwn (model X.prog X.w) X.A X.env X.xe
theorem tI_mono {K : PySem.W.Frag} {ie : IE} {σ : L2.St} {H : Hp} {Q Q' : VK} (h : tI K Φ E ie σ H Q) (hq : ∀ x H, Q x H → Q' x H) : tI K Φ E ie σ H Q' := by
  obtain ⟨B, lk, F, ρ, fps, ts, S, o⟩ := h
  exact ⟨B, lk, F, ρ, fps, ts, S, o.imp fun d ρ' q v fp F' H' fps' S' => hq _ _ (q v fp F' H' fps' S')⟩
theorem asg_one {t : Expr} {env : PySem.Env} (h : isStarred t = false) : (assignEach [t] env).map (·.2) = [assign t env] := by
  rw [asg_each h]
  rfl
theorem swSole {t x : Expr} {l : Nat} {env : PySem.Env} : swapsWithSole [t] x l env = swapsWith x (some t) l env := rfl
theorem chk_pe (S : SOk g N sc Φ E X) {e : IE} {x : Expr} (hv : isVal e = true) (h : chk g N e false sc x = true) : PE X x (tI X.K Φ E e) := ((chk_ok e false x S.ok h).val rfl).vl hv
theorem chk_pt (S : SOk g N sc Φ E X) {e : IE} {x : Expr} (hv : isVal e = true) (h : chk g N e true sc x = true) : PT X x (tT X.K Φ E e) := ((chk_ok e true x S.ok h).tst rfl hv).1
theorem chkG_nostar {tg : Tg} {t : Expr} (h : chkG N sc none tg t = true) : isStarred t = false := by
  cases t <;> first | rfl | (cases tg <;> simp [chkG] at h)
theorem plain_asg (S : SOk g N sc Φ E X) {tg : Tg} {e : IE} {t x : Expr} {pos : Pos} (hc : isComp x = false) (hw : swappedStores [t] x X.env = pure none) (hg : chkG N sc none tg t = true) (hv : isVal e = true) (h : chk g N e false sc x = true) : PS X (.Assign [t] x pos) (tS X.K Φ E lkN (.asg tg e)) :=
  (ps_asg (chk_pe S hv h) (chkG_ok (lkN := lkN) S.ok tg t hg) (by rw [swSole, sw_plain hc]) hw (asg_one (chkG_nostar hg))).imp fun D' σ H q => ts_asg q
theorem chkS_asg (S : SOk g N sc Φ E X) {tg : Tg} {e : IE} {st : Stmt} (h : chkS g N sc (.asg tg e) st = true) : PS X st (tS X.K Φ E lkN (.asg tg e)) := by
  simp only [chkS] at h
  split at h
  · rename_i t x pos
    split at h
    · rename_i elt gs scope p
      split at h
      · rename_i y py
        simp only [Bool.and_eq_true, decide_eq_true_eq] at h
        obtain ⟨⟨⟨⟨⟨h1, h2⟩, h3⟩, h4⟩, h5⟩, h6⟩ := h
        have hs := sw_is (elt := elt) (gs := gs) (scope := scope) (pos := p) (py := py) (y := y) (l := pos.line) S.ok.hsc h1
        cases hb : swB sc y py.line scope p.line with
        | false =>
          rw [hb] at hs
          exact (ps_asg (chk_pe S h3 h4) (chkG_ok (lkN := lkN) S.ok tg _ h2) (by rw [swSole]; exact hs) (swp_plain (.inl rfl)) (asg_one rfl)).imp fun D' σ H q => ts_asg q
        | true =>
          rw [hb] at hs
          unfold swB at hb
          simp only [Bool.and_eq_true] at hb
          have hy : sc.names.lookup y = some .local := by simpa using hb.1.1
          cases e <;> try (simp [isLc] at h6; done)
          rename_i vs tg' it ifs elt'
          cases tg <;> try (simp [isSlot] at h5; done)
          rename_i i
          simp only [chkG, Bool.and_eq_true] at h2
          have hi : N[i]? = some y := by simpa using h2.1
          obtain ⟨_, elt2, gen, scope2, pos2, e1, a0, bk, pl, p1, p2, p3, p4, ev, hsl⟩ := chk_lc S.ok (fun tg iter h => chkIt_ok it tg iter S.ok h) (fun O' h => chkIfs_ok ifs _ O' h) (fun O' h => chk_ok elt' false _ O' h) h4
          cases e1
          obtain ⟨tgt, iter, ifs2, a⟩ := gen
          subst a0
          subst ev
          refine (ps_setLc S.ok.calm (by rw [S.ok.hN]; exact S.ok.nd) (by rw [S.ok.hN]; exact hi) (by rw [S.ok.hsc]; exact hy) hs p1 bk p2 p3 p4 (plainIter_ok pl)).imp fun D' σ H q => ?_
          exact t_lc hsl (tI_mono (ts_asg q) fun x H1 q => g_slot q)
      · cases h
    · rename_i vs k2 pt2
      split at h
      · rename_i ts kt pt
        simp only [Bool.and_eq_true] at h
        obtain ⟨⟨⟨⟨h1, h2⟩, h3⟩, h4⟩, h5⟩ := h
        exact plain_asg S rfl (par_none S.ok.hsc h2) h3 h4 h5
      · simp only [Bool.and_eq_true] at h
        obtain ⟨⟨h3, h4⟩, h5⟩ := h
        exact plain_asg S rfl (swp_plain (.inl rfl)) h3 h4 h5
      · cases h
    · simp only [Bool.and_eq_true, Bool.not_eq_true'] at h
      obtain ⟨⟨⟨⟨⟨h1, h2⟩, h3⟩, h4⟩, h5⟩, h6⟩ := h
      exact plain_asg S h1 (swp_plain (.inr h2)) h4 h5 h6
  · cases h
theorem chkS_par (S : SOk g N sc Φ E X) {is : List Nat} {es : List IE} {st : Stmt} (h : chkS g N sc (.par is es) st = true) : PS X st (tS X.K Φ E lkN (.par is es)) := by
  simp only [chkS] at h
  split at h
  · rename_i ts kt pt vs k2 pt2 pos
    simp only [Bool.and_eq_true] at h
    obtain ⟨⟨h1, h2⟩, h3⟩ := h
    obtain ⟨l1, l2⟩ := allIx_ok h2
    have pa := pa_of (chkOs_ok es vs S.ok h3)
    have hl : vs.length = (parNames sc ts).length := by
      unfold parOk at h1
      simp only [Bool.and_eq_true] at h1
      obtain ⟨⟨⟨⟨⟨⟨⟨_, _⟩, e1⟩, _⟩, e2⟩, _⟩, _⟩, _⟩ := h1
      have e1 : vs.length = ts.length := by simpa using e1
      have e2 : (parNames sc ts).length = ts.length := by simpa using e2
      rw [e1, e2]
    refine (ps_parN S.ok.calm (by rw [S.ok.hN]; exact S.ok.nd) l1 hl (fun j n hj => ?_) pa (par_some S.ok.hsc h1) (by rw [swSole]; rfl)).imp fun D' σ H q => ts_par q
    obtain ⟨i, e1, e2⟩ := l2 j n hj
    refine ⟨i, e1, by rw [S.ok.hN]; exact e2, ?_⟩
    rw [S.ok.hsc]
    exact parNames_local (List.mem_of_getElem? hj)
  · cases h
theorem chkS_seti (S : SOk g N sc Φ E X) {i : Nat} {e ix : IE} {st : Stmt} (h : chkS g N sc (.seti i e ix) st = true) : PS X st (tS X.K Φ E lkN (.seti i e ix)) := by
  simp only [chkS] at h
  split at h
  · rename_i o x sp v pos
    simp only [Bool.and_eq_true, Bool.not_eq_true'] at h
    obtain ⟨⟨⟨⟨⟨⟨h0, h1⟩, h2⟩, h3⟩, h4⟩, h5⟩, h6⟩ := h
    exact (ps_asg (chk_pe S h3 h5) (pg_sub (varB_ok S.ok h2).1 (chk_pe S h4 h6) set_list (fun v => by cases x <;> first | rfl | (simp [plainIx] at h0; done))) (by rw [swSole, sw_plain h1]) (swp_plain (.inl rfl)) (asg_one rfl)).imp fun D' σ H q => ts_seti q
  · cases h
theorem base_name {o : Expr} {n : Str} {env : PySem.Env} (h : (match o with | .Name _ _ => true | _ => false) = true) : attributeBase o n env (eval o env) = eval o env := by
  cases o <;> first | rfl | (simp at h; done)
theorem few_one {a : Expr} {cpos : Pos} {env : PySem.Env} (h : isStarred a = false) : ((backTo cpos (starEach [a] env)).all (fun x => !x.1) && (backToKw cpos (keywordEach [] env)).all (fun x => x.1.isSome)
      && decide ([a].length + ([] : List Keyword).length + (if ([] : List Keyword).isEmpty then 0 else 1) < 30)) = true := by
  rw [star_each h]
  rfl
theorem chkS_app (S : SOk g N sc Φ E X) {i : Nat} {e : IE} {st : Stmt} (h : chkS g N sc (.app i e) st = true) : PS X st (tS X.K Φ E lkN (.app i e)) := by
  simp only [chkS] at h
  split at h
  · rename_i o n apos a cpos pos
    simp only [Bool.and_eq_true, Bool.not_eq_true', decide_eq_true_eq] at h
    obtain ⟨⟨⟨⟨⟨⟨rfl, h2⟩, h3⟩, h4⟩, h5⟩, h6⟩, h7⟩ := h
    exact (ps_expr (pe_bm PySem.F.plainAttrs_list PySem.F.slot_list_append PySem.F.type_list_append mt_append (varB_ok S.ok h2).1 (pa_cons (chk_pe S h6 h7) pa_nil (star_each h5)) (base_name h3) (few_one h5) h4 (star_each h5) rfl) rfl).imp fun D' σ H q => ts_app q
  · cases h
theorem chkS_ext (S : SOk g N sc Φ E X) {i : Nat} {e : IE} {st : Stmt} (h : chkS g N sc (.ext i e) st = true) : PS X st (tS X.K Φ E lkN (.ext i e)) := by
  simp only [chkS] at h
  split at h
  · rename_i o n apos a cpos pos
    simp only [Bool.and_eq_true, Bool.not_eq_true', decide_eq_true_eq] at h
    obtain ⟨⟨⟨⟨⟨⟨rfl, h2⟩, h3⟩, h4⟩, h5⟩, h6⟩, h7⟩ := h
    exact (ps_expr (pe_bm PySem.F.plainAttrs_list PySem.F.slot_list_extend PySem.F.type_list_extend mt_extend (varB_ok S.ok h2).1 (pa_cons (chk_pe S h6 h7) pa_nil (star_each h5)) (base_name h3) (few_one h5) h4 (star_each h5) rfl) rfl).imp fun D' σ H q => ts_ext q
  · cases h
theorem ip_of {sub : Bool} {op : Operator} (h : augB sub op = true) : PIp X op (ipI fun a b => if sub then a - b else a + b) := by
  unfold augB at h
  split at h
  · have e : sub = false := by simpa using h
    subst e
    exact ip_add
  · subst h
    exact ip_sub
  · cases h
theorem chkS_aug (S : SOk g N sc Φ E X) {i : Nat} {sub : Bool} {e : IE} {st : Stmt} (h : chkS g N sc (.aug i sub e) st = true) : PS X st (tS X.K Φ E lkN (.aug i sub e)) := by
  simp only [chkS] at h
  split at h
  · rename_i t op x pos
    simp only [Bool.and_eq_true] at h
    obtain ⟨⟨⟨h1, h2⟩, h3⟩, h4⟩ := h
    unfold slotName at h2
    split at h2
    · rename_i y p
      simp only [Bool.and_eq_true] at h2
      have hi : N[i]? = some y := by simpa using h2.1
      have hl : L2.Loc X.env.scope y := by
        rw [S.ok.hsc]
        have := h2.2
        simpa [L2.Loc] using this
      exact (ps_aug (by rw [S.ok.hN]; exact S.ok.nd) (by rw [S.ok.hN]; exact hi) hl (chk_pe S h3 h4) (ip_of h1) (.inl (S.ok.fnm y rfl))).imp fun D' σ H q => ts_aug q
    · cases h2
  · cases h
theorem chkS_augi (S : SOk g N sc Φ E X) {i : Nat} {sub : Bool} {ix e : IE} {st : Stmt} (h : chkS g N sc (.augi i sub ix e) st = true) : PS X st (tS X.K Φ E lkN (.augi i sub ix e)) := by
  simp only [chkS] at h
  split at h
  · rename_i o x sp op v pos
    simp only [Bool.and_eq_true] at h
    obtain ⟨⟨⟨⟨⟨⟨h0, h1⟩, h2⟩, h3⟩, h4⟩, h5⟩, h6⟩ := h
    exact (ps_augS (varB_ok S.ok h2).1 (chk_pe S h3 h5) pget_list (chk_pe S h4 h6) (ip_of h1) set_list (fun ov iv new => by cases x <;> first | rfl | (simp [plainIx] at h0; done))).imp fun D' σ H q => ts_augi q
  · cases h
mutual
theorem chkS_ok (S : SOk g N sc Φ E X) : ∀ (s : IS) (st : Stmt), chkS g N sc s st = true → PS X st (tS X.K Φ E lkN s)
  | .ex e, st, h => by
    simp only [chkS] at h
    split at h
    · simp only [Bool.and_eq_true, Bool.not_eq_true'] at h
      exact (ps_expr (chk_pe S h.1.2 h.2) (sw_plain h.1.1)).imp fun D' σ H q => ts_ex q
    · cases h
  | .asg tg e, st, h => chkS_asg S h
  | .par is es, st, h => chkS_par S h
  | .seti i e ix, st, h => chkS_seti S h
  | .app i e, st, h => chkS_app S h
  | .ext i e, st, h => chkS_ext S h
  | .aug i sub e, st, h => chkS_aug S h
  | .augi i sub ix e, st, h => chkS_augi S h
  | .ret e, st, h => by
    simp only [chkS] at h
    split at h
    · simp only [Bool.and_eq_true] at h
      exact (ps_ret (chk_pe S h.1 h.2)).imp fun D' σ H q => ts_ret q
    · cases h
  | .ifs c a b, st, h => by
    simp only [chkS] at h
    split at h
    · rename_i t p q pos
      simp only [Bool.and_eq_true] at h
      obtain ⟨⟨⟨h1, h2⟩, h3⟩, h4⟩ := h
      exact (ps_if (chk_pt S h1 h2) (chkSs_ok S a p h3) (chkSs_ok S b q h4)).imp fun D' σ H q => ts_if q
    · cases h
  | .for_ tg it body, st, h => by
    simp only [chkS] at h
    split at h
    · rename_i t iter p pos
      simp only [Bool.and_eq_true] at h
      obtain ⟨⟨⟨h1, h2⟩, h3⟩, h4⟩ := h
      exact (ps_for S.po S.ok.calm (chkIt_ok it t iter S.ok h3) (chkG_ok (lkN := lkN) S.ok tg t h2) (chkSs_ok S body p h4) (plainIter_ok h1)).imp fun D' σ H q => ts_for q
    · cases h
  | .while_ c body, st, h => by
    simp only [chkS] at h
    split at h
    · rename_i t p pos
      simp only [Bool.and_eq_true] at h
      obtain ⟨⟨h1, h2⟩, h3⟩ := h
      exact (ps_while S.po (chk_pt S h1 h2) (chkSs_ok S body p h3)).imp fun D' σ H q => ts_while q
    · cases h
  | .never, st, _ => ps_never.imp fun D' σ H q => ts_never q
theorem chkSs_ok (S : SOk g N sc Φ E X) : ∀ (s : List IS) (sts : List Stmt), chkSs g N sc s sts = true → PSs X sts (tSs X.K Φ E lkN s)
  | [], sts, h => by
    simp only [chkSs] at h
    cases sts with
    | nil => exact pss_nil.imp fun D' σ H q => ts_nil q
    | cons _ _ => simp at h
  | s :: r, sts, h => by
    cases sts with
    | nil => simp [chkSs] at h
    | cons st sts =>
      simp only [chkSs, Bool.and_eq_true] at h
      exact (pss_cons (chkS_ok S s st h.1) (chkSs_ok S r sts h.2)).imp fun D' σ H q => ts_cons q
end
end Mi
end

section
set_option Elab.async false
set_option linter.all false
set_option maxRecDepth 100000
/-! A def's body against its function of the small language; all defs of a text. -/
namespace Mi
open PySem PySem.Spec PyProof.Rows L2
variable {K : PySem.W.Frag} {Φ : Fns} {E : XK} {B : Bs} {lk : List (Nat × V)} {F F' H H' : Hp} {σ : L2.St} {ρ : Env} {fps : List (List Addr)} {ts : List (V × Tm)} {Q : VK} {g : Gx}

theorem frz_sta : ∀ (fz : List Nat) {F : Hp} {ρ : Env} {fps : List (List Addr)}, Sta K B lk F H σ ρ fps [] → ∃ F' fps', Same F F' ∧ Sta K B lk F' H σ (frzEnv fz ρ) fps' []
  | [], F, ρ, fps, S => ⟨F, fps, Same.refl _, S⟩
  | i :: fz, F, ρ, fps, S => by
    simp only [frzEnv]
    cases e : getE ρ i with
    | none => exact frz_sta fz S
    | some d =>
      obtain ⟨v, F1, _, s1, _, S1⟩ := S.freeze e
      obtain ⟨F2, fps2, s2, S2⟩ := frz_sta fz S1
      exact ⟨F2, fps2, Same.trans s1 s2, S2⟩
theorem getE_idx {ρ : Env} {i : Nat} {d : D} : getE ρ i = some d ↔ ρ[i]? = some (some d) := by
  unfold getE
  cases e : ρ[i]? with
  | none => simp
  | some o => simp
theorem frzEnv_frozen : ∀ (fz : List Nat) {ρ : Env} {i : Nat} {d : D}, getE (frzEnv fz ρ) i = some d → i ∈ fz → d.own = false
  | j :: fz, ρ, i, d, e, h => by
    simp only [frzEnv] at e
    by_cases hi : i ∈ fz
    · split at e
      · exact frzEnv_frozen fz e hi
      · exact frzEnv_frozen fz e hi
    · have hij : i = j := by
        rcases List.mem_cons.mp h with h | h
        · exact h
        · exact absurd h hi
      subst hij
      split at e
      · rename_i d0 e0
        have hl := getE_lt e0
        have key := frzEnv_off fz hi (ρ := ρ.set i (some d0.frz))
        rw [key, getE_set_same hl] at e
        cases e
        exact D.frz_own d0
      · rename_i e0
        have key := frzEnv_off fz hi (ρ := ρ)
        rw [key, e0] at e
        cases e
where
  frzEnv_off : ∀ (fz : List Nat) {ρ : Env} {i : Nat}, i ∉ fz → getE (frzEnv fz ρ) i = getE ρ i
    | [], ρ, i, _ => rfl
    | j :: fz, ρ, i, h => by
      simp only [List.mem_cons, not_or] at h
      simp only [frzEnv]
      split
      · rw [frzEnv_off fz h.2, getE_set_ne (Ne.symm h.1)]
      · exact frzEnv_off fz h.2
theorem frzEnv_len : ∀ (fz : List Nat) (ρ : Env), (frzEnv fz ρ).length = ρ.length
  | [], ρ => rfl
  | i :: fz, ρ => by
    simp only [frzEnv]
    split
    · rw [frzEnv_len fz]; simp
    · exact frzEnv_len fz ρ
theorem out_rep {fz : List Nat} : ∀ {n i : Nat} {ρ0 ρ : Env} {fps : List (List Addr)} {vs : List V} {xs : List D}, vs.length = n → n ≤ fps.length →
    (∀ (j : Nat) d, j < n → fz.contains (i + j) = true → ρ0[j]? = some (some d) → ∃ v, vs[j]? = some v ∧ Rep K F H d v []) → (∀ (j : Nat) d, j < n → fz.contains (i + j) = false → ρ[j]? = some (some d) → ∃ v, vs[j]? = some v ∧ Rep K F H d v (fps.getD j [])) →
    outAt fz i n ρ0 ρ = some xs → ∃ fs, RepP K F H xs vs fs ∧ SubP fs.flatten fps.flatten
  | 0, i, ρ0, ρ, fps, vs, xs, hv, hn, h0, h1, e => by
    obtain rfl : vs = [] := List.eq_nil_of_length_eq_zero hv
    simp only [outAt] at e
    cases e
    exact ⟨[], trivial, ⟨fps.flatten, by simp⟩⟩
  | n + 1, i, ρ0, ρ, fps, vs, xs, hv, hn, h0, h1, e => by
    match ρ0, ρ, e with
    | [], _, e => simp [outAt] at e
    | _ :: _, [], e => simp [outAt] at e
    | x0 :: ρ0, x :: ρ, e =>
    match vs, fps, hv, hn, h0, h1 with
    | v :: vs, f :: fps, hv, hn, h0, h1 =>
      simp only [outAt] at e
      cases e2 : outAt fz (i + 1) n ρ0 ρ with
      | none => rw [e2] at e; split at e <;> first | (cases e; done) | (rename_i h; cases h)
      | some ds =>
        rw [e2] at e
        obtain ⟨fs, r, s⟩ := out_rep (fps := fps) (vs := vs) (by simpa using hv) (by simpa using hn)
          (fun j d hj hc hd => by
            have := h0 (j + 1) d (by omega) (by rw [← hc]; congr 1; omega) (by simpa using hd)
            simpa using this)
          (fun j d hj hc hd => by
            have := h1 (j + 1) d (by omega) (by rw [← hc]; congr 1; omega) (by simpa using hd)
            simpa using this) e2
        cases hc : fz.contains i with
        | true =>
          simp only [hc, if_true] at e
          cases x0 with
          | none => cases e
          | some d =>
            simp only at e
            cases e
            obtain ⟨w, e3, r3⟩ := h0 0 d (by omega) (by simpa using hc) rfl
            simp at e3
            subst e3
            refine ⟨[] :: fs, ⟨r3, r⟩, ?_⟩
            simp only [List.flatten_cons, List.nil_append]
            exact SubP.trans s (SubP.right f _)
        | false =>
          simp only [hc, Bool.false_eq_true, if_false] at e
          cases x with
          | none => cases e
          | some d =>
            simp only at e
            cases e
            obtain ⟨w, e3, r3⟩ := h1 0 d (by omega) (by simpa using hc) rfl
            simp at e3
            subst e3
            refine ⟨f :: fs, ⟨by simpa using r3, r⟩, ?_⟩
            simp only [List.flatten_cons]
            exact SubP.app s f
theorem start_sta {ds : List D} {vs : List V} {N : List Str} (sF : Same F H) (rp : RepP K F H ds vs fps) (nd : fps.flatten.Nodup) (dj : ∀ a ∈ fps.flatten, F a = none) (hn : vs.length ≤ N.length) (lv : ∀ a ∈ fps.flatten, ∃ xs, H a = some (.lst xs)) (hlk : ∀ p ∈ lk, vs[p.1]? = some p.2) :
    Sta K ⟨F, H, fps.flatten⟩ lk F H (start N vs) (ds.map some ++ List.replicate (N.length - vs.length) none) (fps ++ List.replicate (N.length - vs.length) []) [] := by
  obtain ⟨l1, l2⟩ := rp.length
  have hfl : (fps ++ List.replicate (N.length - vs.length) ([] : List Addr)).flatten = fps.flatten := by rw [List.flatten_append, flat_rep, List.append_nil]
  refine ⟨?_, ?_, ?_, fun i d e => ?_, (fun t ht => nomatch ht), fun p hp => ?_⟩
  · simp only [tfp, List.nil_append]
    rw [hfl]
    exact ⟨sF, Same.refl _, fun b o e _ => e, fun a ha => .inl ha, fun b o e => .inl e, nd, dj, lv⟩
  · simp [L2.start]; omega
  · simp; omega
  · rw [getE_idx] at e
    have hi : i < ds.length := by
      by_cases hi : i < ds.length
      · exact hi
      · rw [List.getElem?_append_right (by simpa using hi), List.getElem?_replicate] at e
        split at e <;> cases e
    rw [List.getElem?_append_left (by simpa using hi), List.getElem?_map] at e
    have e' : ds[i]? = some d := by
      cases q : ds[i]? with
      | none => rw [q] at e; cases e
      | some x => rw [q] at e; cases e; rfl
    obtain ⟨v, e2, r⟩ := rp.get e'
    refine ⟨v, ?_, ?_⟩
    · unfold L2.start
      rw [List.getElem?_append_left (by rw [List.length_map]; omega), List.getElem?_map, e2]
      rfl
    · have : (fps ++ List.replicate (N.length - vs.length) ([] : List Addr)).getD i [] = fps.getD i [] := by
        rw [List.getD_eq_getElem?_getD, List.getD_eq_getElem?_getD, List.getElem?_append_left (by omega)]
      rw [this]
      exact r
  · have := hlk p hp
    have hi : p.1 < vs.length := (List.getElem?_eq_some_iff.mp this).1
    unfold L2.start
    rw [List.getElem?_append_left (by rw [List.length_map]; exact hi), List.getElem?_map, this]
    rfl
theorem repP_lists : ∀ {ds : List D} {vs : List V} {fs : List (List Addr)}, RepP K F H ds vs fs → ∀ a ∈ fs.flatten, ∃ xs, H a = some (.lst xs)
  | [], [], [], _, a, ha => by simp at ha
  | d :: ds, v :: vs, f :: fs, h, a, ha => by
    rw [List.flatten_cons] at ha
    rcases List.mem_append.mp ha with ha | ha
    · exact Rep.lists _ _ _ h.1 a ha
    · exact repP_lists h.2 a ha
  | [], _ :: _, _, h, _, _ => h.elim
  | [], [], _ :: _, h, _, _ => h.elim
  | _ :: _, [], _, h, _, _ => h.elim
  | _ :: _, _ :: _, [], h, _, _ => h.elim
/-- a call's promise is the body's reading -/
theorem body_of {P : List Fd} {k i : Nat} {fd : Fd} {vs : List V} {N : List Str} (hP : P[i]? = some fd) (hns : fd.ns = N.length) (hnp : fd.np ≤ N.length) (h : spI K (runN P (k + 1)) i vs H Q E) :
    tSs K (runN P k) E (lockOf fd) fd.body { nx := fun _ H' => Q .non H', rt := Q } (start N vs) H := by
  obtain ⟨F, ds, fps, sF, rp, nd, dj, w⟩ := h
  simp only [runN, hP] at w
  unfold callF at w
  by_cases hlen : ds.length = fd.np
  · simp only [if_pos hlen] at w
    obtain ⟨l1, l2⟩ := rp.length
    have hvn : vs.length = fd.np := by rw [l1, hlen]
    let lk : List (Nat × V) := (lockOf fd).filterMap fun i => (vs[i]?).map fun v => (i, v)
    have hlk : ∀ p ∈ lk, vs[p.1]? = some p.2 := fun p hp => by
      obtain ⟨j, _, e⟩ := List.mem_filterMap.mp hp
      cases q : vs[j]? with
      | none => rw [q] at e; cases e
      | some v => rw [q] at e; cases e; exact q
    have hLk : Lks lk (lockOf fd) := fun p hp => by
      obtain ⟨j, hj, e⟩ := List.mem_filterMap.mp hp
      cases q : vs[j]? with
      | none => rw [q] at e; cases e
      | some v => rw [q] at e; cases e; simpa using hj
    have S0 := start_sta (lk := lk) (N := N) sF rp nd dj (by rw [hvn]; exact hnp) (repP_lists rp) hlk
    obtain ⟨F1, fps1, s1, S1⟩ := frz_sta fd.fz S0
    have eρ : frzEnv fd.fz (ds.map some ++ List.replicate (N.length - vs.length) none) = startE fd ds := by
      unfold startE
      rw [hns, hvn]
    rw [eρ] at S1
    have S1b := S1.rebase
    have hl1 : (startE fd ds).length = N.length := by
      unfold startE
      rw [frzEnv_len]
      simp
      omega
    -- what the arguments are worth at the end
    have fin : ∀ {ρ' : Env} {xs : List D} {F' H' : Hp} {σ' : L2.St} {fps' : List (List Addr)} {us : List (V × Tm)}, outAt fd.fz 0 fd.np (startE fd ds) ρ' = some xs → Sta K ⟨F1, H, tfp ([] : List (V × Tm)) ++ fps1.flatten⟩ lk F' H' σ' ρ' fps' us →
        ∃ fs, RepP K F' H' xs vs fs ∧ OwnOk ⟨F, H, fps.flatten⟩ F' H' (tfp us ++ fs.flatten) := fun {ρ' xs F' H' σ' fps' us} e S' => by
      have hlρ : ρ'.length = fps'.length := S'.lenF.symm
      have sF1 : Same F1 F' := S'.own.base
      have hlen' : fd.np ≤ fps'.length := by
        rw [← hlρ]
        clear S' sF1 hlρ w
        have : ∀ {n i : Nat} {a b : Env} {xs : List D}, outAt fd.fz i n a b = some xs → n ≤ b.length := by
          intro n
          induction n with
          | zero => intros; omega
          | succ n ih =>
            intro i a b xs h
            match a, b, h with
            | [], _, h => simp [outAt] at h
            | _ :: _, [], h => simp [outAt] at h
            | x0 :: a, x :: b, h =>
              simp only [outAt] at h
              cases q : outAt fd.fz (i + 1) n a b with
              | none => rw [q] at h; split at h <;> first | (cases h; done) | (rename_i h2; cases h2)
              | some ds =>
                have := ih q
                simp
                omega
        exact this e
      obtain ⟨fs, r, sb⟩ := out_rep (K := K) (F := F') (H := H') (fz := fd.fz) (fps := fps') hvn hlen'
        (fun j d hj hc hd => by
          have hd' : getE (startE fd ds) j = some d := getE_idx.mpr hd
          obtain ⟨v, e2, r2⟩ := S1.slots j d hd'
          have ho := frzEnv_frozen fd.fz (ρ := ds.map some ++ List.replicate (fd.ns - fd.np) none) hd' (by simpa using hc)
          have hv : vs[j]? = some v := by
            unfold L2.start at e2
            rw [List.getElem?_append_left (by rw [List.length_map]; omega), List.getElem?_map] at e2
            cases q : vs[j]? with
            | none => rw [q] at e2; cases e2
            | some x => rw [q] at e2; cases e2; rfl
          exact ⟨v, hv, Rep.mono sF1 _ _ _ (fun _ h => nomatch h) (Rep.nil ho r2)⟩)
        (fun j d hj hc hd => by
          obtain ⟨v, e2, r2⟩ := S'.slots j d (getE_idx.mpr hd)
          have hv0 : vs[j]? = some (vs[j]'(by omega)) := by simp [show j < vs.length by omega]
          have hm : (j, vs[j]'(by omega)) ∈ lk := by
            refine List.mem_filterMap.mpr ⟨j, ?_, by rw [hv0]; rfl⟩
            unfold lockOf
            rw [List.mem_filter]
            refine ⟨by simpa using hj, ?_⟩
            have hc : fd.fz.contains j = false := by simpa using hc
            rw [hc]
            rfl
          have := S'.locks _ hm
          have this : σ'[j]? = some (some (vs[j]'(by omega))) := this
          rw [e2] at this
          cases this
          exact ⟨_, hv0, r2⟩) e
      refine ⟨fs, r, ?_⟩
      have o1 : OwnOk ⟨F, H, fps.flatten⟩ F1 H ((tfp ([] : List (V × Tm)) ++ fps1.flatten) ++ []) := by
        have := S1.own
        rw [List.append_nil]
        exact this
      have o2 := (o1.call S'.own).1
      rw [List.append_nil] at o2
      exact o2.less (SubP.app sb _)
    refine ⟨_, lk, F1, startE fd ds, fps1, S1b, hLk, ?_⟩
    cases e : exSs (runN P k) (lockOf fd) fd.body (startE fd ds) with
    | stk => rw [e] at w; exact w.elim
    | nx ρ' =>
      rw [e] at w
      intro F' H' σ' fps' S'
      cases e2 : outAt fd.fz 0 fd.np (startE fd ds) ρ' with
      | none => simp only [e2] at w
      | some xs =>
        simp only [e2] at w
        obtain ⟨fs, r, o⟩ := fin e2 S'
        exact w .non F' H' [] fs (by simpa [tfp] using o) (by simp [Rep]) r
    | ret d ρ' =>
      rw [e] at w
      intro v fp F' H' σ' fps' S'
      cases e2 : outAt fd.fz 0 fd.np (startE fd ds) ρ' with
      | none => simp only [e2] at w
      | some xs =>
        simp only [e2] at w
        obtain ⟨fs, r, o⟩ := fin e2 S'
        exact w v F' H' fp fs (by simpa [tfp, Tm.fp] using o) (S'.temps (v, .own d fp) (List.mem_cons_self ..)) r
    | exc c d ρ' =>
      rw [e] at w
      intro σ' cls dx F' H' fps' S' rx
      cases e2 : outAt fd.fz 0 fd.np (startE fd ds) ρ' with
      | none => simp only [e2] at w
      | some xs =>
        simp only [e2] at w
        obtain ⟨fs, r, o⟩ := fin e2 S'
        exact w cls dx F' H' fs (by simpa [tfp] using o) rx r
  · simp only [if_neg hlen] at w
end Mi
end

section
set_option Elab.async false
set_option linter.all false
set_option maxRecDepth 100000
/-! All defs of a text. -/
namespace Mi
open PySem PySem.Spec PyProof.Rows L2

/-- a def of the text: its names, its scope, its body, what it is in the small language -/
structure Fi where
  name : Str
  ps : List Str
  N : List Str
  sc : Scope
  params : Arguments
  body : List Stmt
  fd : Fd
def scopeB (N ps : List Str) (sc : Scope) : Bool := decide (sc.kind = .function) && !sc.isCoroutine && !sc.isGenerator && decide N.Nodup && decide (N.take ps.length = ps) && ps.all (fun x => sc.names.lookup x == some .local || sc.names.lookup x == some .cell) && sc.names.all fun y => !(y.2 == .free)
theorem scopeB_ok {N ps : List Str} {sc : Scope} (h : scopeB N ps sc = true) : FnScope N ps sc := by
  unfold scopeB at h
  simp only [Bool.and_eq_true, decide_eq_true_eq, Bool.not_eq_true'] at h
  obtain ⟨⟨⟨⟨⟨⟨h1, h2⟩, h3⟩, h4⟩, h5⟩, h6⟩, h7⟩ := h
  refine ⟨h1, h2, h3, h4, h5, fun x hx => ?_, fun y hy => ?_⟩
  · simpa using List.all_eq_true.mp h6 x hx
  · simpa using List.all_eq_true.mp h7 y hy
def Fi.ok (g : Gx) (f : Fi) : Bool := scopeB f.N f.ps f.sc && decide (f.fd.ns = f.N.length) && decide (f.fd.np = f.ps.length) && chkSs g f.N f.sc f.fd.body f.body
/-- the whole text is checked -/
def okAll (g : Gx) (fs : List Fi) : Bool := decide (g.fns = fs.map fun f => (f.name, f.ps)) && fs.all fun f => f.ok g
/-- how a def's arguments are bound -/
structure BindOk (g : Gx) (i : Nat) (f : Fi) : Prop where
  pos : ∀ (kV doc pm cdv ct : Value) (an : Option Addr) (us : List Value), us.length = f.ps.length → bindArgs (PySem.W.fnOf f.name f.name f.params f.body f.sc .none kV doc pm an cdv ct) ⟨us, []⟩ = pure (f.ps.zip us)
  kw : ∀ ks perm, (i, ks, perm) ∈ g.kws → ∀ (kV doc pm cdv ct : Value) (an : Option Addr) (us : List Value), us.length = ks.length → bindArgs (PySem.W.fnOf f.name f.name f.params f.body f.sc .none kV doc pm an cdv ct) ⟨[], ks.zip us⟩ = pure (f.ps.zip (permL perm us))
/-- what the module holds -/
structure ModOk (K : PySem.W.Frag) (mg : Str → Option Value) (g : Gx) (fs : List Fi) : Prop where
  fns : ∀ (i : Nat) f, fs[i]? = some f → ∃ fa fd, mg f.name = some (.ref fa) ∧ FunD K f.name f.name f.params f.body f.sc [] [] fa fd
  cns : ∀ p ∈ g.cns, ∃ v u, mg p.1 = some u ∧ RelV v u ∧ ∀ F H, Rep K F H p.2 v []
  blt : ∀ x ∈ g.blt, mg x = none
  bnd : ∀ (i : Nat) f, fs[i]? = some f → BindOk g i f
/-- what a call of the i-th def promises, k calls deep -/
theorem all_fns {P : Program} {w : World} {K : PySem.W.Frag} {mg : Str → Option Value} {base : Heap} {g : Gx} {fs : List Fi} (M : ModOk K mg g fs) (hc : okAll g fs = true) :
    ∀ (k : Nat) (i : Nat) f, fs[i]? = some f → ∃ fa fd, mg f.name = some (.ref fa) ∧ FunD K f.name f.name f.params f.body f.sc [] [] fa fd ∧ FnG P w K mg base (CX P w) k fa fd f.ps (spI K (runN (fs.map (·.fd)) k) i) := by
  unfold okAll at hc
  simp only [Bool.and_eq_true, decide_eq_true_eq] at hc
  obtain ⟨hg, hall⟩ := hc
  intro k
  induction k with
  | zero =>
    intro i f hf
    obtain ⟨fa, fd, m, D⟩ := M.fns i f hf
    have no : ∀ vs H Q E, ¬ spI K (runN (fs.map (·.fd)) 0) i vs H Q E := fun vs H Q E h => by
      obtain ⟨_, _, _, _, _, _, _, w⟩ := h
      exact w
    exact ⟨fa, fd, m, D, fun vs H Q E h => (no _ _ _ _ h).elim, fun A outer s H args us vs Q E _ _ _ _ _ h => (no _ _ _ _ h).elim⟩
  | succ k ih =>
    intro i f hf
    obtain ⟨fa, fd, m, D⟩ := M.fns i f hf
    refine ⟨fa, fd, m, D, ?_⟩
    obtain ⟨oc, od, dV, kV, doc, pm, an, cdv, ct, osl, rfl, lk, hcd, hdv, _⟩ := D.ex
    have hfo := List.all_eq_true.mp hall f (List.mem_of_getElem? hf)
    unfold Fi.ok at hfo
    simp only [Bool.and_eq_true, decide_eq_true_eq] at hfo
    obtain ⟨⟨⟨c1, c2⟩, c3⟩, c4⟩ := hfo
    have S := scopeB_ok c1
    have hP : (fs.map (·.fd))[i]? = some f.fd := by rw [List.getElem?_map, hf]; rfl
    have hnp : f.fd.np ≤ f.N.length := by
      rw [c3]
      have := congrArg List.length S.pre
      rw [List.length_take] at this
      omega
    refine fn_ofG lk hcd S (fun vs H Q E h => ?_) fun A outer s H vs Q E hr hgd h => ?_
    · obtain ⟨F, ds, fps, _, rp, _, _, w⟩ := h
      simp only [runN, hP] at w
      unfold callF at w
      by_cases hlen : ds.length = f.fd.np
      · rw [rp.length.1, hlen, c3]
      · simp only [if_neg hlen] at w
    · refine ⟨_, ?_, body_of hP c2 hnp h⟩
      refine chkSs_ok (g := g) (N := f.N) (sc := f.sc) ⟨⟨rfl, S.nd, rfl, rfl, (by have := hr.un; show (A.deeper _).units + 200 < cLine; omega), hgd, (fun x _ => rfl), (fun s e => nomatch e), (fun j p hp => ?_), M.cns, M.blt⟩, passes_of rfl⟩ f.fd.body f.body c4
      rw [hg, List.getElem?_map] at hp
      cases hq : fs[j]? with
      | none => rw [hq] at hp; cases hp
      | some f2 =>
        rw [hq] at hp
        cases hp
        obtain ⟨fa2, fd2, m2, D2, G2⟩ := ih j f2 hq
        have B2 := M.bnd j f2 hq
        refine ⟨k, CX P w, fa2, fd2, G2, hr, m2, D2.kp, fun us hl => ?_, fun ks perm hk us hl => ?_, passes_call (takes_of rfl rfl rfl rfl) fun _ _ _ _ h => h, fun l H s e s' c => ?_⟩
        · obtain ⟨oc, od, dV, kV, doc, pm, an, cdv, ct, osl, rfl, lk, hcd, hdv, _⟩ := D2.ex
          rcases hdv with ⟨_, rfl⟩ | ⟨h, _⟩
          · exact B2.pos kV doc pm cdv ct an us hl
          · exact absurd rfl h
        · obtain ⟨oc, od, dV, kV, doc, pm, an, cdv, ct, osl, rfl, lk, hcd, hdv, _⟩ := D2.ex
          rcases hdv with ⟨_, rfl⟩ | ⟨h, _⟩
          · exact B2.kw ks perm hk kV doc pm cdv ct an us hl
          · exact absurd rfl h
        · obtain ⟨_, _, _, _, _, _, _, _, _, _, _, _, h⟩ := c
          exact h
end Mi
end

section
set_option Elab.async false
set_option linter.all false
set_option maxRecDepth 100000
/-! The law from what the small language computes. -/
namespace Mi
open PySem PySem.Spec PyProof.Rows L2
def Fi.d (f : Fi) : He.DefD := ⟨(f.name, none), f.name, f.name, f.params, f.body, f.sc, [], []⟩
def cnFa : Str × D → He.Fa
  | (x, .int i) => .int x i
  | (x, .str z) => .str x z
  | (x, _) => .glo x
def cnOk : Str × D → Bool
  | (_, .int _) => true
  | (_, .str _) => true
  | _ => false
/-- what the head tells -/
def faOf (g : Gx) (fs : List Fi) : List He.Fa := fs.map (fun f => He.Fa.glo f.name) ++ g.blt.map He.Fa.free ++ g.cns.map cnFa
theorem modOk_of {K : PySem.W.Frag} {h : Heap} {mg : Str → Option Value} {g : Gx} {fs : List Fi} (X : K.In h) (G : h.Ns mainGlobals mg) (c : He.SaysD (faOf g fs) (fs.map Fi.d) K) (hc : g.cns.all cnOk = true) (hb : ∀ (i : Nat) f, fs[i]? = some f → BindOk g i f) : ModOk K mg g fs := by
  have fact : ∀ f ∈ faOf g fs, f.ok K = true := fun f hf => by
    obtain ⟨i, hi⟩ := List.getElem?_of_mem hf
    exact c.fact i hi
  refine ⟨fun i f hf => ?_, fun p hp => ?_, fun x hx => ?_, hb⟩
  · have h1 := fact (.glo f.name) (List.mem_append_left _ (List.mem_append_left _ (List.mem_map.mpr ⟨f, List.mem_of_getElem? hf, rfl⟩)))
    obtain ⟨fd, D⟩ := c.def_ i (d := f.d) (by rw [List.getElem?_map, hf]; rfl)
    exact ⟨He.ga K f.name, fd, He.glo_ok X G h1, D⟩
  · obtain ⟨x, d⟩ := p
    have h1 := fact (cnFa (x, d)) (List.mem_append_right _ (List.mem_map.mpr ⟨(x, d), hp, rfl⟩))
    have h2 := List.all_eq_true.mp hc _ hp
    cases d <;> try (simp [cnOk] at h2; done)
    · rename_i i
      obtain ⟨t, m⟩ := He.int_ok X G h1
      exact ⟨.int i, .int i t, m, ⟨t, rfl⟩, fun F H => by simp [Rep]⟩
    · rename_i z
      obtain ⟨t, m⟩ := He.str_ok X G h1
      exact ⟨.str z, .str z t, m, ⟨t, rfl⟩, fun F H => by simp [Rep]⟩
  · exact He.free_ok X G (fact (.free x) (List.mem_append_left _ (List.mem_append_right _ (List.mem_map.mpr ⟨x, hx, rfl⟩))))
theorem scr_rep {K : PySem.W.Frag} {F H : Hp} : ∀ ns : List Int, RepL K F H (ns.map D.int) (ns.map V.int) []
  | [] => by simp [RepL]
  | n :: ns => by
    simp only [List.map_cons, RepL]
    exact ⟨.int n, ns.map V.int, [], [], rfl, by simp [Rep], scr_rep ns, rfl⟩
/-- the law's walk, where the small language tells true for each script -/
theorem law_end {l : PySem.W.OpenLaw} {n k : Nat} {q : Program} {loose : List Str} {XP : (Str → Option Value) → Heap → Prop} {d : DefRec} {g : Gx} {fs : List Fi} {iL : Nat} {f : Fi}
    (hn : l.most = some n) (hn2 : n ≤ sizeLine) (hdf : d.params.defaults = []) (hr : Room k callerA) (hok : okAll g fs = true) (hcn : g.cns.all cnOk = true) (hb : ∀ (i : Nat) f, fs[i]? = some f → BindOk g i f) (hL : fs[iL]? = some f) (hname : f.name = d.name) (hps : f.ps = [("script" : Str)])
    (plain : ∀ ns : List Int, ns.length ≤ n → ∃ as, runN (fs.map (·.fd)) k iL [.scr (ns.map D.int)] = .ok (.bl true) as) :
    PySem.W.WalkO q loose XP (fun _ h => ∃ K : PySem.W.Frag, K.In h ∧ He.SaysD (faOf g fs) (fs.map Fi.d) K) l.row.toRowW d [] (fun f vs => PySem.call f vs) := by
  refine walk_ofG (k := k) (CX := fun w => CX l.prog w) (x := "script") hn hn2 hdf hr (fun w mg fa h ⟨K, KX, c⟩ G hm => ?_) fun w H s e s' c => ?_
  · have M := modOk_of KX G c hcn hb
    obtain ⟨fa', fd, m, DD, _⟩ := all_fns (P := l.prog) (w := w) (base := h) M hok k iL f hL
    have ef : fa' = fa := by
      rw [hname, hm] at m
      cases m
      rfl
    subst ef
    refine ⟨K, fd, spI K (runN (fs.map (·.fd)) k) iL, KX, fun s u => ?_, fun H a ns hl hO hS => ?_, fun base hKb hGb => ?_⟩
    · obtain ⟨oc, od, dV, kV, doc, pm, an, cdv, ct, osl, rfl, lk, hcd, hdv, _⟩ := DD.ex
      rcases hdv with ⟨_, rfl⟩ | ⟨h, _⟩
      · have := (hb iL f hL).pos kV doc pm cdv ct an [u] (by rw [hps]; rfl)
        rw [hps] at this
        exact .of_eq this
      · exact absurd rfl h
    · obtain ⟨as, e⟩ := plain ns hl
      refine ⟨H, [.scr (ns.map D.int)], [[]], Same.refl _, ⟨?_, trivial⟩, by simp, by simp, ?_⟩
      · simp only [Rep]
        exact ⟨a, ns.map V.int, rfl, hS, scr_rep ns, trivial⟩
      · rw [e]
        intro v F' H' fp fps' _ r _
        exact rep_bl r
    · obtain ⟨fa'', fd'', m'', DD'', G''⟩ := all_fns (P := l.prog) (w := w) (base := base) M hok k iL f hL
      have e1 : fa'' = fa' := by rw [m] at m''; cases m''; rfl
      subst e1
      have e2 : fd'' = fd := by
        obtain ⟨oc, od, dV, kV, doc, pm, an, cdv, ct, osl, _, lk, _⟩ := DD.ex
        obtain ⟨oc', od', dV', kV', doc', pm', an', cdv', ct', osl', _, lk', _⟩ := DD''.ex
        rw [lk] at lk'
        cases lk'
        rfl
      subst e2
      rw [← hps]
      exact G''
  · obtain ⟨_, _, _, _, _, _, _, _, _, _, _, _, h⟩ := c
    exact h
end Mi
end

section
set_option Elab.async false
set_option linter.all false
set_option maxRecDepth 100000
/-! How arguments are bound, all defs in a row. -/
namespace Mi
open PySem PySem.Spec PyProof.Rows L2
def PosOk (f : Fi) : Prop := ∀ (kV doc pm cdv ct : Value) (an : Option Addr) (us : List Value), us.length = f.ps.length → bindArgs (PySem.W.fnOf f.name f.name f.params f.body f.sc .none kV doc pm an cdv ct) ⟨us, []⟩ = pure (f.ps.zip us)
def KwOk (f : Fi) (ks : List Str) (perm : List Nat) : Prop := ∀ (kV doc pm cdv ct : Value) (an : Option Addr) (us : List Value), us.length = ks.length → bindArgs (PySem.W.fnOf f.name f.name f.params f.body f.sc .none kV doc pm an cdv ct) ⟨[], ks.zip us⟩ = pure (f.ps.zip (permL perm us))
def AllP : List Fi → Prop
  | [] => True
  | f :: r => PosOk f ∧ AllP r
def AllK (fs : List Fi) : List (Nat × List Str × List Nat) → Prop
  | [] => True
  | e :: r => (∃ f, fs[e.1]? = some f ∧ KwOk f e.2.1 e.2.2) ∧ AllK fs r
theorem allP_get : ∀ {fs : List Fi} {i : Nat} {f : Fi}, AllP fs → fs[i]? = some f → PosOk f
  | f0 :: r, 0, f, h, e => by simp at e; subst e; exact h.1
  | f0 :: r, i + 1, f, h, e => allP_get h.2 (by simpa using e)
  | [], i, f, _, e => by simp at e
theorem allK_get {fs : List Fi} : ∀ {l : List (Nat × List Str × List Nat)} {e : Nat × List Str × List Nat} {f : Fi}, AllK fs l → e ∈ l → fs[e.1]? = some f → KwOk f e.2.1 e.2.2
  | e0 :: r, e, f, h, hm, hf => by
    rcases List.mem_cons.mp hm with rfl | hm
    · obtain ⟨f', h1, h2⟩ := h.1
      rw [hf] at h1
      cases h1
      exact h2
    · exact allK_get h.2 hm hf
theorem bind_all {g : Gx} {fs : List Fi} (hp : AllP fs) (hk : AllK fs g.kws) (i : Nat) (f : Fi) (h : fs[i]? = some f) : BindOk g i f :=
  ⟨allP_get hp h, fun ks perm hm => allK_get hk hm h⟩
end Mi
end

section
set_option linter.all false
set_option maxRecDepth 100000
/-! Lemmas to reckon with: what the small language computes. -/
namespace Mi
theorem getE_zero (o : Option D) (r : Env) : getE (o :: r) 0 = o := rfl
theorem getE_succ (o : Option D) (r : Env) (n : Nat) : getE (o :: r) (n + 1) = getE r n := rfl
theorem getE_nil (n : Nat) : getE [] n = none := rfl
theorem set_zero (o p : Option D) (r : Env) : List.set (o :: r) 0 p = p :: r := rfl
theorem set_succ (o p : Option D) (r : Env) (n : Nat) : List.set (o :: r) (n + 1) p = o :: List.set r n p := rfl
theorem rb_ok {α β : Type} (a : α) (ρ : Env) (f : α → Env → R β) : (R.ok a ρ).bind f = f a ρ := rfl
theorem rb_exc {α β : Type} (c : Nat) (d : D) (ρ : Env) (f : α → Env → R β) : (R.exc c d ρ).bind f = .exc c d ρ := rfl
theorem rb_stk {α β : Type} (f : α → Env → R β) : (R.stk).bind f = .stk := rfl
theorem runN_succ (P : List Fd) (k f : Nat) (as : List D) (fd : Fd) (h : P[f]? = some fd) : runN P (k + 1) f as = callF (runN P k) fd as := by
  simp [runN, h]
/-- a comprehension whose steps change nothing but its own names -/
theorem lcLoop_fm {α : Type} (step : D → Env → R (Option D)) (g : α → D) (f : α → Option D) (β : α → Env) (I : Env → Prop) :
    ∀ (ds : List α) (acc : List D) (ρ : Env), I ρ → (∀ d ∈ ds, ∀ ρ, I ρ → step (g d) ρ = .ok (f d) (β d)) → (∀ d ∈ ds, I (β d)) →
      ∃ ρ', lcLoop step (ds.map g) acc ρ = .ok (acc.reverse ++ ds.filterMap f) ρ' ∧ (ρ' = ρ ∨ ∃ d ∈ ds, ρ' = β d)
  | [], acc, ρ, _, _, _ => ⟨ρ, by simp [lcLoop], .inl rfl⟩
  | d :: ds, acc, ρ, h, hs, hi => by
    have h1 := hs d (by simp) ρ h
    cases hf : f d with
    | none =>
      rw [hf] at h1
      obtain ⟨ρ', e, o⟩ := lcLoop_fm step g f β I ds acc (β d) (hi d (by simp)) (fun d hd => hs d (by simp [hd])) (fun d hd => hi d (by simp [hd]))
      refine ⟨ρ', ?_, .inr ?_⟩
      · simp [lcLoop, h1, e, hf]
      · rcases o with o | ⟨d', m, o⟩
        · exact ⟨d, by simp, o⟩
        · exact ⟨d', by simp [m], o⟩
    | some x =>
      rw [hf] at h1
      obtain ⟨ρ', e, o⟩ := lcLoop_fm step g f β I ds (x :: acc) (β d) (hi d (by simp)) (fun d hd => hs d (by simp [hd])) (fun d hd => hi d (by simp [hd]))
      refine ⟨ρ', ?_, .inr ?_⟩
      · simp [lcLoop, h1, e, hf]
      · rcases o with o | ⟨d', m, o⟩
        · exact ⟨d, by simp, o⟩
        · exact ⟨d', by simp [m], o⟩
def lcStep (Φ : Fns) (vs : List Nat) (tg : Tg) (ifs : List IE) (elt : IE) (d : D) (ρ2 : Env) : R (Option D) :=
  match bindT [] tg d (wipeE vs ρ2) with
  | some ρ3 => (evIfs Φ ifs ρ3).bind fun b ρ4 => match b with
    | true => (ev Φ elt ρ4).bind fun e ρ5 => .ok (some e) ρ5
    | false => .ok none ρ4
  | none => .stk
theorem ev_lc (Φ : Fns) (vs : List Nat) (tg : Tg) (it : It) (ifs : List IE) (elt : IE) (ρ ρ1 : Env) (ds : List D) (hit : evIt Φ it ρ = .ok ds ρ1) (hl : ds.length ≤ SZ) (hu : unowned ρ1 vs = true) :
    ev Φ (.lc vs tg it ifs elt) ρ = (lcLoop (lcStep Φ vs tg ifs elt) ds [] ρ1).bind fun es ρ6 => .ok (.lst true es) (backE ρ1 vs ρ6) := by
  simp only [ev, hit, rb_ok, hl, hu, and_self, if_true]
  rfl
theorem ev_lc_fm {α : Type} (Φ : Fns) (vs : List Nat) (tg : Tg) (it : It) (ifs : List IE) (elt : IE) (ρ ρ1 : Env) (ds : List α) (g : α → D) (f : α → Option D) (β : α → Env)
    (hit : evIt Φ it ρ = .ok (ds.map g) ρ1) (hl : ds.length ≤ SZ) (hu : unowned ρ1 vs = true)
    (hs : ∀ d ∈ ds, ∀ ρ2, wipeE vs ρ2 = wipeE vs ρ1 → lcStep Φ vs tg ifs elt (g d) ρ2 = .ok (f d) (β d)) (hw : ∀ d ∈ ds, wipeE vs (β d) = wipeE vs ρ1)
    (hb : ∀ d ∈ ds, backE ρ1 vs (β d) = ρ1) (hb0 : backE ρ1 vs ρ1 = ρ1) :
    ev Φ (.lc vs tg it ifs elt) ρ = .ok (.lst true (ds.filterMap f)) ρ1 := by
  rw [ev_lc Φ vs tg it ifs elt ρ ρ1 (ds.map g) hit (by simpa using hl) hu]
  obtain ⟨ρ', e, o⟩ := lcLoop_fm (lcStep Φ vs tg ifs elt) g f β (fun r => wipeE vs r = wipeE vs ρ1) ds [] ρ1 rfl hs hw
  rw [e]
  simp only [rb_ok, List.reverse_nil, List.nil_append]
  rcases o with o | ⟨d, m, o⟩
  · rw [o, hb0]
  · rw [o, hb d m]
theorem ev_lc_map {α : Type} (Φ : Fns) (vs : List Nat) (tg : Tg) (it : It) (elt : IE) (ρ ρ1 : Env) (ds : List α) (g : α → D) (f : α → D) (β : α → Env)
    (hit : evIt Φ it ρ = .ok (ds.map g) ρ1) (hl : ds.length ≤ SZ) (hu : unowned ρ1 vs = true)
    (hs : ∀ d ∈ ds, bindT [] tg (g d) (wipeE vs ρ1) = some (β d) ∧ ev Φ elt (β d) = .ok (f d) (β d)) (hw : ∀ d ∈ ds, wipeE vs (β d) = wipeE vs ρ1)
    (hb : ∀ d ∈ ds, backE ρ1 vs (β d) = ρ1) (hb0 : backE ρ1 vs ρ1 = ρ1) :
    ev Φ (.lc vs tg it [] elt) ρ = .ok (.lst true (ds.map f)) ρ1 := by
  rw [ev_lc_fm Φ vs tg it [] elt ρ ρ1 ds g (fun d => some (f d)) β hit hl hu ?_ hw hb hb0]
  · simp
  · intro d hd ρ2 h2
    obtain ⟨h3, h4⟩ := hs d hd
    simp only [lcStep, h2, h3, evIfs, rb_ok, h4]
theorem ev_lc_if {α : Type} (Φ : Fns) (vs : List Nat) (tg : Tg) (it : It) (c elt : IE) (ρ ρ1 : Env) (ds : List α) (g : α → D) (p : α → Bool) (f : α → D) (β : α → Env)
    (hit : evIt Φ it ρ = .ok (ds.map g) ρ1) (hl : ds.length ≤ SZ) (hu : unowned ρ1 vs = true)
    (hs : ∀ d ∈ ds, bindT [] tg (g d) (wipeE vs ρ1) = some (β d) ∧ ev Φ c (β d) = .ok (.bl (p d)) (β d) ∧ (p d = true → ev Φ elt (β d) = .ok (f d) (β d))) (hw : ∀ d ∈ ds, wipeE vs (β d) = wipeE vs ρ1)
    (hb : ∀ d ∈ ds, backE ρ1 vs (β d) = ρ1) (hb0 : backE ρ1 vs ρ1 = ρ1) :
    ev Φ (.lc vs tg it [c] elt) ρ = .ok (.lst true ((ds.filter p).map f)) ρ1 := by
  rw [ev_lc_fm Φ vs tg it [c] elt ρ ρ1 ds g (fun d => if p d then some (f d) else none) β hit hl hu ?_ hw hb hb0]
  · congr 2
    clear hl hs hw hb hit
    induction ds with
    | nil => rfl
    | cons d r ih => cases hp : p d <;> simp [hp, ih]
  · intro d hd ρ2 h2
    obtain ⟨h3, h4, h5⟩ := hs d hd
    cases hp : p d with
    | true => rw [hp] at h4; simp [lcStep, h2, h3, evIfs, rb_ok, h4, h5 hp]
    | false => rw [hp] at h4; simp [lcStep, h2, h3, evIfs, rb_ok, h4]
/-- a comprehension that changes what it stands in: all that is known of the state, and of each item -/
theorem lcLoop_st (step : D → Env → R (Option D)) (I : Nat → Env → Prop) (Q : D → Prop) :
    ∀ (ds acc : List D) (n : Nat) (ρ : Env), I n ρ → (∀ d ∈ ds, ∀ n ρ, I n ρ → ∃ e ρ', step d ρ = .ok (some e) ρ' ∧ I (n + 1) ρ' ∧ Q e) →
      ∃ es ρ', lcLoop step ds acc ρ = .ok (acc.reverse ++ es) ρ' ∧ I (n + ds.length) ρ' ∧ es.length = ds.length ∧ ∀ e ∈ es, Q e
  | [], acc, n, ρ, h, _ => ⟨[], ρ, by simp [lcLoop], h, rfl, by simp⟩
  | d :: ds, acc, n, ρ, h, hs => by
    obtain ⟨e, ρ1, h1, h2, h3⟩ := hs d (by simp) n ρ h
    obtain ⟨es, ρ', e2, i2, l2, q2⟩ := lcLoop_st step I Q ds (e :: acc) (n + 1) ρ1 h2 (fun d hd => hs d (by simp [hd]))
    refine ⟨e :: es, ρ', ?_, ?_, by simp [l2], ?_⟩
    · simp [lcLoop, h1, e2]
    · have : n + (d :: ds).length = n + 1 + ds.length := by simp; omega
      rw [this]; exact i2
    · intro x hx
      rcases List.mem_cons.1 hx with rfl | hx
      · exact h3
      · exact q2 x hx
/-- a loop: an invariant by the number of steps -/
theorem forL_inv (lk : List Nat) (tg : Tg) (body : Env → SR) (I : Nat → Env → Prop) :
    ∀ (ds : List D) (n : Nat) (ρ : Env), I n ρ → (∀ j (hj : j < ds.length) ρ, I (n + j) ρ → ∃ ρ1 ρ2, bindT lk tg ds[j] ρ = some ρ1 ∧ body ρ1 = .nx ρ2 ∧ I (n + j + 1) ρ2) →
      ∃ ρ', forL lk tg body ds ρ = .nx ρ' ∧ I (n + ds.length) ρ'
  | [], n, ρ, h, _ => ⟨ρ, rfl, h⟩
  | d :: ds, n, ρ, h, hs => by
    obtain ⟨ρ1, ρ2, h1, h2, h3⟩ := hs 0 (by simp) ρ h
    obtain ⟨ρ', e, i⟩ := forL_inv lk tg body I ds (n + 1) ρ2 h3 (fun j hj ρ hi => by
      have := hs (j + 1) (by simp; omega) ρ (by have : n + (j + 1) = n + 1 + j := by omega
                                                rw [this]; exact hi)
      obtain ⟨a, b, c1, c2, c3⟩ := this
      refine ⟨a, b, by simpa using c1, c2, ?_⟩
      have : n + 1 + j + 1 = n + (j + 1) + 1 := by omega
      rw [this]; exact c3)
    refine ⟨ρ', ?_, ?_⟩
    · simp only [List.getElem_cons_zero] at h1
      simp [forL, h1, h2, e]
    · have : n + (d :: ds).length = n + 1 + ds.length := by simp; omega
      rw [this]; exact i
theorem rangeD_map (n : Nat) : ∀ (i : Int), rangeD n i 1 = (List.range n).map fun j : Nat => D.int (i + (j : Int)) := by
  induction n with
  | zero => intro i; rfl
  | succ n ih =>
    intro i
    rw [List.range_succ_eq_map]
    simp only [rangeD, ih, List.map_cons, List.map_map]
    congr 1
    · simp
    · apply List.map_congr_left
      intro j _
      simp; omega
theorem rangeOf_nat (n : Nat) (h : n ≤ SZ) : rangeOf [.int (n : Int)] = some ((List.range n).map fun j : Nat => D.int (j : Int)) := by
  have h1 : rangeOk (n : Int) = true := by
    unfold SZ at h
    simp [rangeOk]; omega
  simp [rangeOf, h1, h, rangeD_map]
theorem intsOf_mapI (xs : List Int) : intsOf (xs.map D.int) = some xs := by
  induction xs with
  | nil => rfl
  | cons x r ih => simp [intsOf, ih]
theorem boolsOf_mapB (xs : List Bool) : boolsOf (xs.map D.bl) = some xs := by
  induction xs with
  | nil => rfl
  | cons x r ih => simp [boolsOf, ih]
theorem ownL_int (xs : List Int) : ownL (xs.map D.int) = false := by
  induction xs with
  | nil => rfl
  | cons x r ih => simp [ownL, D.own, ih]
theorem frzL_int (xs : List Int) : frzL (xs.map D.int) = xs.map D.int := by
  induction xs with
  | nil => rfl
  | cons x r ih => simp [frzL, D.frz, ih]
theorem isPdL_int (xs : List Int) : isPdL (xs.map D.int) = true := by
  induction xs with
  | nil => rfl
  | cons x r ih => simp [isPdL, D.isPd, ih]
theorem sum_map (xs : List Int) : sumD (.tup (xs.map D.int)) = some (.int xs.sum) := by simp [sumD, seqOf, intsOf_mapI]
theorem suml_map (o : Bool) (xs : List Int) : sumD (.lst o (xs.map D.int)) = some (.int xs.sum) := by simp [sumD, seqOf, intsOf_mapI]
theorem getE_set_eqQ {ρ : Env} {i : Nat} {o : Option D} (h : i < ρ.length) : getE (ρ.set i o) i = o := by simp [getE, h]
theorem getE_set_neQ {ρ : Env} {i j : Nat} {o : Option D} (h : i ≠ j) : getE (ρ.set i o) j = getE ρ j := by simp [getE, List.getElem?_set_ne h]
end Mi
namespace Mi
theorem run_ret {P : List Fd} {k f : Nat} {as : List D} {fd : Fd} {ρ0 ρ1 : Env} {lk : List Nat} {d : D} {xs : List D} (h : P[f]? = some fd) (hl : as.length = fd.np) (hs : startE fd as = ρ0) (hk : lockOf fd = lk)
    (hx : exSs (runN P k) lk fd.body ρ0 = .ret d ρ1) (ho : outAt fd.fz 0 fd.np ρ0 ρ1 = some xs) : runN P (k + 1) f as = .ok d xs := by
  rw [runN_succ P k f as fd h]
  simp only [callF, hl, if_true, hs, hk, hx, ho]
theorem run_nx {P : List Fd} {k f : Nat} {as : List D} {fd : Fd} {ρ0 ρ1 : Env} {lk : List Nat} {xs : List D} (h : P[f]? = some fd) (hl : as.length = fd.np) (hs : startE fd as = ρ0) (hk : lockOf fd = lk)
    (hx : exSs (runN P k) lk fd.body ρ0 = .nx ρ1) (ho : outAt fd.fz 0 fd.np ρ0 ρ1 = some xs) : runN P (k + 1) f as = .ok .non xs := by
  rw [runN_succ P k f as fd h]
  simp only [callF, hl, if_true, hs, hk, hx, ho]
end Mi
namespace Mi
/-- a token that keeps simp from working at what it stands for -/
structure Tok {γ : Type} (f : γ) : Type where
def rb {α β : Type} (r : R α) (f : α → Env → R β) (t : Tok f) : R β := r.bind f
def ofRb {α : Type} (r : R α) (f : α → Env → SR) (t : Tok f) : SR := ofR r f
theorem bind_rb {α β : Type} (r : R α) (f : α → Env → R β) : r.bind f = rb r f ⟨⟩ := rfl
theorem ofR_rb {α : Type} (r : R α) (f : α → Env → SR) : ofR r f = ofRb r f ⟨⟩ := rfl
theorem ofR_ok {α : Type} (a : α) (ρ : Env) (f : α → Env → SR) : ofR (.ok a ρ) f = f a ρ := rfl
end Mi
namespace Mi
theorem isD_tt (xs : List D) : isD (.tup xs) (.typ "tuple") = some (.bl true) := rfl
theorem isD_ti (xs : List D) : isD (.tup xs) (.typ "int") = some (.bl false) := rfl
theorem isD_lt (o : Bool) (xs : List D) : isD (.lst o xs) (.typ "tuple") = some (.bl false) := rfl
theorem isD_li (o : Bool) (xs : List D) : isD (.lst o xs) (.typ "int") = some (.bl false) := rfl
theorem isD_nt : isD .non (.typ "tuple") = some (.bl false) := rfl
theorem isD_ni : isD .non (.typ "int") = some (.bl false) := rfl
theorem isD_nb : isD .non (.typ "bool") = some (.bl false) := rfl
theorem isD_ii (i : Int) : isD (.int i) (.typ "int") = some (.bl true) := rfl
theorem isD_ib (i : Int) : isD (.int i) (.typ "bool") = some (.bl false) := rfl
theorem isD_it (i : Int) : isD (.int i) (.typ "tuple") = some (.bl false) := rfl
theorem isD_bi (b : Bool) : isD (.bl b) (.typ "int") = some (.bl true) := rfl
theorem isD_bb (b : Bool) : isD (.bl b) (.typ "bool") = some (.bl true) := rfl
theorem isD_bt (b : Bool) : isD (.bl b) (.typ "tuple") = some (.bl false) := rfl
end Mi
namespace Mi
theorem intsOf_mapf {α : Type} (xs : List α) (f : α → Int) : intsOf (xs.map fun x => D.int (f x)) = some (xs.map f) := by
  induction xs with
  | nil => rfl
  | cons x r ih => simp [intsOf, ih]
theorem boolsOf_mapf {α : Type} (xs : List α) (f : α → Bool) : boolsOf (xs.map fun x => D.bl (f x)) = some (xs.map f) := by
  induction xs with
  | nil => rfl
  | cons x r ih => simp [boolsOf, ih]
theorem allD_mapf {α : Type} (o : Bool) (xs : List α) (f : α → Bool) : allD (.lst o (xs.map fun x => D.bl (f x))) = some (.bl (xs.all f)) := by
  have : ((xs.map f).all id) = xs.all f := by induction xs <;> simp_all
  simp only [allD, boolsOf_mapf, Option.map_some, this]
theorem frzL_mapi {α : Type} (xs : List α) (f : α → Int) : frzL (xs.map fun x => D.int (f x)) = xs.map fun x => D.int (f x) := by
  induction xs with
  | nil => rfl
  | cons x r ih => simp [frzL, D.frz, ih]
theorem ownL_mapi {α : Type} (xs : List α) (f : α → Int) : ownL (xs.map fun x => D.int (f x)) = false := by
  induction xs with
  | nil => rfl
  | cons x r ih => simp [ownL, D.own, ih]
end Mi
namespace Mi
theorem forL_inv0 (lk : List Nat) (tg : Tg) (body : Env → SR) (I : Nat → Env → Prop) (ds : List D) (n : Nat) (hn : ds.length = n) (ρ : Env) (h : I 0 ρ)
    (hs : ∀ j (hj : j < ds.length) ρ, I j ρ → ∃ ρ1 ρ2, bindT lk tg ds[j] ρ = some ρ1 ∧ body ρ1 = .nx ρ2 ∧ I (j + 1) ρ2) : ∃ ρ', forL lk tg body ds ρ = .nx ρ' ∧ I n ρ' := by
  have := forL_inv lk tg body I ds 0 ρ h (fun j hj ρ hi => by simpa using hs j hj ρ (by simpa using hi))
  subst hn
  simpa using this
end Mi
end

section
set_option linter.all false
set_option maxRecDepth 100000
/-! The language's own equations as rewriting rules that are no mere unfolding (so that simp takes them one by one). -/
namespace Mi
theorem nr {α : Type} {a b : α} (h : a = b) : a = b := by
  cases h; exact Eq.trans (Eq.refl _) (Eq.refl _)
def E_const := fun Φ ρ d => nr (ev.eq_1 Φ ρ d)
def E_glob := fun Φ ρ d => nr (ev.eq_2 Φ ρ d)
def E_var := fun Φ ρ i => nr (ev.eq_3 Φ ρ i)
def E_mov := fun Φ ρ i => nr (ev.eq_4 Φ ρ i)
def E_op := fun Φ ρ o es => nr (ev.eq_8 Φ ρ o es)
def E_isn := fun Φ ρ n es => nr (ev.eq_9 Φ ρ n es)
def E_neg := fun Φ ρ es => nr (ev.eq_10 Φ ρ es)
def E_notE := fun Φ ρ e => nr (ev.eq_11 Φ ρ e)
def E_chain := fun Φ ρ o1 o2 es cs => nr (ev.eq_12 Φ ρ o1 o2 es cs)
def E_andE := fun Φ ρ a b => nr (ev.eq_13 Φ ρ a b)
def E_orE := fun Φ ρ a b => nr (ev.eq_14 Φ ρ a b)
def E_ite := fun Φ ρ c a b => nr (ev.eq_15 Φ ρ c a b)
def E_tup := fun Φ ρ es => nr (ev.eq_16 Φ ρ es)
def E_lst := fun Φ ρ es => nr (ev.eq_17 Φ ρ es)
def E_idx := fun Φ ρ es => nr (ev.eq_18 Φ ρ es)
def E_slc := fun Φ ρ es lo hi => nr (ev.eq_19 Φ ρ es lo hi)
def E_cb := fun Φ ρ p es => nr (ev.eq_20 Φ ρ p es)
def E_call := fun Φ ρ f es => nr (ev.eq_21 Φ ρ f es)
def E_callK := fun Φ ρ f es perm => nr (ev.eq_22 Φ ρ f es perm)
def E_rng := fun Φ ρ tup es => nr (ev.eq_23 Φ ρ tup es)
def E_frz := fun Φ ρ e => nr (ev.eq_24 Φ ρ e)
def Es_nil := fun Φ ρ => nr (evs.eq_1 Φ ρ)
def Es_peek := fun Φ ρ i es => nr (evs.eq_2 Φ ρ i es)
def Es_peekF := fun Φ ρ i es => nr (evs.eq_3 Φ ρ i es)
def Es_star := fun Φ ρ e es => nr (evs.eq_4 Φ ρ e es)
def Es_const := fun Φ ρ d_ r => nr (evs.eq_5 Φ ρ (IE.const d_) r (fun _ h => nomatch h) (fun _ h => nomatch h) (fun _ h => nomatch h))
def Es_glob := fun Φ ρ d_ r => nr (evs.eq_5 Φ ρ (IE.glob d_) r (fun _ h => nomatch h) (fun _ h => nomatch h) (fun _ h => nomatch h))
def Es_var := fun Φ ρ i_ r => nr (evs.eq_5 Φ ρ (IE.var i_) r (fun _ h => nomatch h) (fun _ h => nomatch h) (fun _ h => nomatch h))
def Es_mov := fun Φ ρ i_ r => nr (evs.eq_5 Φ ρ (IE.mov i_) r (fun _ h => nomatch h) (fun _ h => nomatch h) (fun _ h => nomatch h))
def Es_op := fun Φ ρ o_ es_ r => nr (evs.eq_5 Φ ρ (IE.op o_ es_) r (fun _ h => nomatch h) (fun _ h => nomatch h) (fun _ h => nomatch h))
def Es_isn := fun Φ ρ n_ es_ r => nr (evs.eq_5 Φ ρ (IE.isn n_ es_) r (fun _ h => nomatch h) (fun _ h => nomatch h) (fun _ h => nomatch h))
def Es_neg := fun Φ ρ es_ r => nr (evs.eq_5 Φ ρ (IE.neg es_) r (fun _ h => nomatch h) (fun _ h => nomatch h) (fun _ h => nomatch h))
def Es_notE := fun Φ ρ e_ r => nr (evs.eq_5 Φ ρ (IE.notE e_) r (fun _ h => nomatch h) (fun _ h => nomatch h) (fun _ h => nomatch h))
def Es_chain := fun Φ ρ o1_ o2_ es_ cs_ r => nr (evs.eq_5 Φ ρ (IE.chain o1_ o2_ es_ cs_) r (fun _ h => nomatch h) (fun _ h => nomatch h) (fun _ h => nomatch h))
def Es_andE := fun Φ ρ a_ b_ r => nr (evs.eq_5 Φ ρ (IE.andE a_ b_) r (fun _ h => nomatch h) (fun _ h => nomatch h) (fun _ h => nomatch h))
def Es_orE := fun Φ ρ a_ b_ r => nr (evs.eq_5 Φ ρ (IE.orE a_ b_) r (fun _ h => nomatch h) (fun _ h => nomatch h) (fun _ h => nomatch h))
def Es_ite := fun Φ ρ c_ a_ b_ r => nr (evs.eq_5 Φ ρ (IE.ite c_ a_ b_) r (fun _ h => nomatch h) (fun _ h => nomatch h) (fun _ h => nomatch h))
def Es_tup := fun Φ ρ es_ r => nr (evs.eq_5 Φ ρ (IE.tup es_) r (fun _ h => nomatch h) (fun _ h => nomatch h) (fun _ h => nomatch h))
def Es_lst := fun Φ ρ es_ r => nr (evs.eq_5 Φ ρ (IE.lst es_) r (fun _ h => nomatch h) (fun _ h => nomatch h) (fun _ h => nomatch h))
def Es_idx := fun Φ ρ es_ r => nr (evs.eq_5 Φ ρ (IE.idx es_) r (fun _ h => nomatch h) (fun _ h => nomatch h) (fun _ h => nomatch h))
def Es_slc := fun Φ ρ es_ lo_ hi_ r => nr (evs.eq_5 Φ ρ (IE.slc es_ lo_ hi_) r (fun _ h => nomatch h) (fun _ h => nomatch h) (fun _ h => nomatch h))
def Es_cb := fun Φ ρ p_ es_ r => nr (evs.eq_5 Φ ρ (IE.cb p_ es_) r (fun _ h => nomatch h) (fun _ h => nomatch h) (fun _ h => nomatch h))
def Es_call := fun Φ ρ f_ es_ r => nr (evs.eq_5 Φ ρ (IE.call f_ es_) r (fun _ h => nomatch h) (fun _ h => nomatch h) (fun _ h => nomatch h))
def Es_callK := fun Φ ρ f_ es_ perm_ r => nr (evs.eq_5 Φ ρ (IE.callK f_ es_ perm_) r (fun _ h => nomatch h) (fun _ h => nomatch h) (fun _ h => nomatch h))
def Es_rng := fun Φ ρ tup_ es_ r => nr (evs.eq_5 Φ ρ (IE.rng tup_ es_) r (fun _ h => nomatch h) (fun _ h => nomatch h) (fun _ h => nomatch h))
def Es_frz := fun Φ ρ e_ r => nr (evs.eq_5 Φ ρ (IE.frz e_) r (fun _ h => nomatch h) (fun _ h => nomatch h) (fun _ h => nomatch h))
def Es_lc := fun Φ ρ vs_ tg_ it_ ifs_ elt_ r => nr (evs.eq_5 Φ ρ (IE.lc vs_ tg_ it_ ifs_ elt_) r (fun _ h => nomatch h) (fun _ h => nomatch h) (fun _ h => nomatch h))
def Eb_nil := fun Φ ρ => nr (evB.eq_1 Φ ρ)
def Eb_one := fun Φ ρ e => nr (evB.eq_2 Φ ρ e)
def Ei_nil := fun Φ ρ => nr (evIfs.eq_1 Φ ρ)
def Ei_cons := fun Φ ρ e es => nr (evIfs.eq_2 Φ ρ e es)
def It_seq := fun Φ ρ es => nr (evIt.eq_1 Φ ρ es)
def It_range := fun Φ ρ es => nr (evIt.eq_2 Φ ρ es)
def It_enum := fun Φ ρ es => nr (evIt.eq_3 Φ ρ es)
def It_zip := fun Φ ρ es => nr (evIt.eq_4 Φ ρ es)
def S_ex := fun Φ lk ρ e => nr (exS.eq_1 Φ lk ρ e)
def S_asg := fun Φ lk ρ tg e => nr (exS.eq_2 Φ lk ρ tg e)
def S_par := fun Φ lk ρ is es => nr (exS.eq_3 Φ lk ρ is es)
def S_seti := fun Φ lk ρ i e ix => nr (exS.eq_4 Φ lk ρ i e ix)
def S_app := fun Φ lk ρ i e => nr (exS.eq_5 Φ lk ρ i e)
def S_ext := fun Φ lk ρ i e => nr (exS.eq_6 Φ lk ρ i e)
def S_aug := fun Φ lk ρ i s e => nr (exS.eq_7 Φ lk ρ i s e)
def S_augi := fun Φ lk ρ i s ix e => nr (exS.eq_8 Φ lk ρ i s ix e)
def S_ret := fun Φ lk ρ e => nr (exS.eq_9 Φ lk ρ e)
def S_ifs := fun Φ lk ρ c a b => nr (exS.eq_10 Φ lk ρ c a b)
def S_for_ := fun Φ lk ρ tg it b => nr (exS.eq_11 Φ lk ρ tg it b)
def S_while_ := fun Φ lk ρ c b => nr (exS.eq_12 Φ lk ρ c b)
def S_never := fun Φ lk ρ => nr (exS.eq_13 Φ lk ρ)
def Ss_nil := fun Φ lk ρ => nr (exSs.eq_1 Φ lk ρ)
def Ss_cons := fun Φ lk ρ s r => nr (exSs.eq_2 Φ lk ρ s r)
def rngK (tup : Bool) (o : Option (List D)) (ρ : Env) : R D := match o with
  | some ds => .ok (if tup then .tup ds else .lst true ds) ρ
  | none => .stk
theorem E_rng2 (Φ : Fns) (ρ : Env) (tup : Bool) (es : List IE) : ev Φ (.rng tup es) ρ = (evs Φ es ρ).bind fun os ρ1 => rngK tup ((getAll ρ1 os).bind rangeOf) ρ1 := nr (ev.eq_23 Φ ρ tup es)
def rngK_t (ds : List D) (ρ : Env) := nr (show rngK true (some ds) ρ = .ok (.tup ds) ρ from rfl)
def rngK_f (ds : List D) (ρ : Env) := nr (show rngK false (some ds) ρ = .ok (.lst true ds) ρ from rfl)
def rbk {α β : Type} (a : α) (ρ : Env) (f : α → Env → R β) (t : Tok f) := nr (show rb (.ok a ρ) f t = f a ρ from rfl)
def ork {α : Type} (a : α) (ρ : Env) (f : α → Env → SR) (t : Tok f) := nr (show ofRb (.ok a ρ) f t = f a ρ from rfl)
def ob_some {α β : Type} (a : α) (f : α → Option β) := nr (Option.bind_some (a := a) (f := f))
def om_some {α β : Type} (a : α) (f : α → β) := nr (Option.map_some (a := a) (f := f))
def oo_some {α : Type} (a : α) (ρ : Env) := nr (show ofOpt (some a) ρ = .ok a ρ from rfl)
end Mi
end

section
set_option linter.all false
set_option maxRecDepth 100000
namespace Mi
theorem sIx_nat (n d k : Nat) : HT.sIx n d (some (k : Int)) = min k n := by
  show (if (k : Int) < 0 then ((k : Int) + (n : Int)).toNat else min (k : Int).toNat n) = min k n
  rw [if_neg (by omega), Int.toNat_natCast]
theorem cut_lo (xs : List D) (j : Nat) : cutD xs (some (j : Int)) none = xs.drop j := by
  unfold cutD
  rw [sIx_nat]
  show (xs.drop (min j xs.length)).take (xs.length - min j xs.length) = xs.drop j
  rw [List.take_of_length_le (by simp)]
  by_cases h : j ≤ xs.length
  · rw [Nat.min_eq_left h]
  · rw [Nat.min_eq_right (by omega), List.drop_eq_nil_of_le (Nat.le_refl _), List.drop_eq_nil_of_le (by omega)]
theorem cut_hi (xs : List D) (j : Nat) : cutD xs none (some (j : Int)) = xs.take j := by
  unfold cutD
  rw [sIx_nat]
  show (xs.drop 0).take (min j xs.length - 0) = xs.take j
  simp only [List.drop_zero, Nat.sub_zero]
  by_cases h : j ≤ xs.length
  · rw [Nat.min_eq_left h]
  · rw [Nat.min_eq_right (by omega), List.take_of_length_le (Nat.le_refl _), List.take_of_length_le (by omega)]
theorem atI_nat {α : Type} (xs : List α) (j : Nat) : L2.atI xs (j : Int) = xs[j]? := by
  unfold L2.atI L2.ixN
  by_cases h : j < xs.length
  · simp [h]
  · simp [h]
theorem ixN_nat (n j : Nat) (h : j < n) : L2.ixN n (j : Int) = some j := by
  unfold L2.ixN
  simp [h]
theorem maxI_le (is : List Int) : ∀ m, m ≤ maxI m is ∧ (∀ x ∈ is, x ≤ maxI m is) ∧ (maxI m is = m ∨ maxI m is ∈ is) := by
  induction is with
  | nil => intro m; simp [maxI]
  | cons x r ih =>
    intro m
    simp only [maxI]
    by_cases h : x > m
    · rw [if_pos h]
      obtain ⟨a, b, c⟩ := ih x
      refine ⟨by omega, ?_, ?_⟩
      · intro y hy; rcases List.mem_cons.1 hy with rfl | hy
        · exact a
        · exact b y hy
      · rcases c with c | c
        · exact .inr (by rw [c]; simp)
        · exact .inr (by simp [c])
    · rw [if_neg h]
      obtain ⟨a, b, c⟩ := ih m
      refine ⟨a, ?_, ?_⟩
      · intro y hy; rcases List.mem_cons.1 hy with rfl | hy
        · omega
        · exact b y hy
      · rcases c with c | c
        · exact .inl c
        · exact .inr (by simp [c])
theorem minI_le (is : List Int) : ∀ m, minI m is ≤ m ∧ (∀ x ∈ is, minI m is ≤ x) ∧ (minI m is = m ∨ minI m is ∈ is) := by
  induction is with
  | nil => intro m; simp [minI]
  | cons x r ih =>
    intro m
    simp only [minI]
    by_cases h : x < m
    · rw [if_pos h]
      obtain ⟨a, b, c⟩ := ih x
      refine ⟨by omega, ?_, ?_⟩
      · intro y hy; rcases List.mem_cons.1 hy with rfl | hy
        · exact a
        · exact b y hy
      · rcases c with c | c
        · exact .inr (by rw [c]; simp)
        · exact .inr (by simp [c])
    · rw [if_neg h]
      obtain ⟨a, b, c⟩ := ih m
      refine ⟨a, ?_, ?_⟩
      · intro y hy; rcases List.mem_cons.1 hy with rfl | hy
        · omega
        · exact b y hy
      · rcases c with c | c
        · exact .inl c
        · exact .inr (by simp [c])
/-- the greatest of a list that is not empty, what is known of it -/
theorem max1_spec (o : Bool) (xs : List Int) (h : xs ≠ []) : ∃ m, max1 (.lst o (xs.map D.int)) = some (.int m) ∧ m ∈ xs ∧ ∀ x ∈ xs, x ≤ m := by
  cases xs with
  | nil => exact absurd rfl h
  | cons x r =>
    obtain ⟨a, b, c⟩ := maxI_le r x
    refine ⟨maxI x r, ?_, ?_, ?_⟩
    · have e := intsOf_mapI (x :: r)
      simp only [max1, e]
    · rcases c with c | c
      · rw [c]; simp
      · simp [c]
    · intro y hy; rcases List.mem_cons.1 hy with rfl | hy
      · exact a
      · exact b y hy
theorem min1_spec (o : Bool) (xs : List Int) (h : xs ≠ []) : ∃ m, min1 (.lst o (xs.map D.int)) = some (.int m) ∧ m ∈ xs ∧ ∀ x ∈ xs, m ≤ x := by
  cases xs with
  | nil => exact absurd rfl h
  | cons x r =>
    obtain ⟨a, b, c⟩ := minI_le r x
    refine ⟨minI x r, ?_, ?_, ?_⟩
    · have e := intsOf_mapI (x :: r)
      simp only [min1, e]
    · rcases c with c | c
      · rw [c]; simp
      · simp [c]
    · intro y hy; rcases List.mem_cons.1 hy with rfl | hy
      · exact a
      · exact b y hy
theorem getAll_append (ρ : Env) (a b : List OV) : getAll ρ (a ++ b) = (getAll ρ a).bind fun x => (getAll ρ b).map fun y => x ++ y := by
  induction a with
  | nil => simp [getAll]
  | cons o r ih =>
    simp only [List.cons_append, getAll, ih]
    cases o.get ρ with
    | none => simp
    | some d =>
      cases getAll ρ r with
      | none => simp
      | some x => cases getAll ρ b <;> simp
theorem getAll_vals (ρ : Env) (xs : List D) : getAll ρ (xs.map OV.val) = some xs := by
  induction xs with
  | nil => rfl
  | cons x r ih => simp [getAll, OV.get, ih]
end Mi
namespace Mi
theorem sz_0 : (0 ≤ SZ) = True := by simp [SZ]
theorem sz_1 : (1 ≤ SZ) = True := by simp [SZ]
theorem sz_2 : (2 ≤ SZ) = True := by simp [SZ]
theorem sz_3 : (3 ≤ SZ) = True := by simp [SZ]
theorem sz_4 : (4 ≤ SZ) = True := by simp [SZ]
theorem sz_5 : (5 ≤ SZ) = True := by simp [SZ]
theorem sz_6 : (6 ≤ SZ) = True := by simp [SZ]
theorem sz_7 : (7 ≤ SZ) = True := by simp [SZ]
theorem sz_8 : (8 ≤ SZ) = True := by simp [SZ]
theorem sz_9 : (9 ≤ SZ) = True := by simp [SZ]
theorem sz_10 : (10 ≤ SZ) = True := by simp [SZ]
theorem sz_11 : (11 ≤ SZ) = True := by simp [SZ]
theorem sz_12 : (12 ≤ SZ) = True := by simp [SZ]
theorem sz_13 : (13 ≤ SZ) = True := by simp [SZ]
theorem sz_14 : (14 ≤ SZ) = True := by simp [SZ]
theorem sz_15 : (15 ≤ SZ) = True := by simp [SZ]
theorem sz_16 : (16 ≤ SZ) = True := by simp [SZ]
theorem sz_17 : (17 ≤ SZ) = True := by simp [SZ]
theorem sz_18 : (18 ≤ SZ) = True := by simp [SZ]
theorem sz_19 : (19 ≤ SZ) = True := by simp [SZ]
theorem sz_20 : (20 ≤ SZ) = True := by simp [SZ]
end Mi
namespace Mi
theorem max1_is (o : Bool) (xs : List Int) (m : Int) (h : m ∈ xs) (hm : ∀ x ∈ xs, x ≤ m) : max1 (.lst o (xs.map D.int)) = some (.int m) := by
  obtain ⟨a, e, h1, h2⟩ := max1_spec o xs (List.ne_nil_of_mem h)
  have := hm a h1
  have := h2 m h
  rw [e]; congr 2; omega
theorem min1_is (o : Bool) (xs : List Int) (m : Int) (h : m ∈ xs) (hm : ∀ x ∈ xs, m ≤ x) : min1 (.lst o (xs.map D.int)) = some (.int m) := by
  obtain ⟨a, e, h1, h2⟩ := min1_spec o xs (List.ne_nil_of_mem h)
  have := hm a h1
  have := h2 m h
  rw [e]; congr 2; omega
theorem isPdL_map {α : Type} (xs : List α) (f : α → D) (h : ∀ x ∈ xs, (f x).isPd = true) : isPdL (xs.map f) = true := by
  induction xs with
  | nil => rfl
  | cons x r ih => simp only [List.map_cons, isPdL, h x (by simp), Bool.true_and]; exact ih (fun y hy => h y (by simp [hy]))
theorem pdL_map {α : Type} (xs : List α) (f : α → D) : pdL (xs.map f) = xs.map fun x => (f x).pd := by
  induction xs with
  | nil => rfl
  | cons x r ih => simp only [List.map_cons, pdL, ih]
theorem frzL_map {α : Type} (xs : List α) (f : α → D) (h : ∀ x ∈ xs, (f x).frz = f x) : frzL (xs.map f) = xs.map f := by
  induction xs with
  | nil => rfl
  | cons x r ih => simp only [List.map_cons, frzL, h x (by simp)]; rw [ih (fun y hy => h y (by simp [hy]))]
theorem ownL_map {α : Type} (xs : List α) (f : α → D) (h : ∀ x ∈ xs, (f x).own = false) : ownL (xs.map f) = false := by
  induction xs with
  | nil => rfl
  | cons x r ih => simp only [List.map_cons, ownL, h x (by simp), Bool.false_or]; exact ih (fun y hy => h y (by simp [hy]))
theorem canLayAll_map {α : Type} (xs : List α) (f : α → PySem.PyData) (h : ∀ x ∈ xs, (f x).canLay0 = true) : PySem.PyData.canLayAll0 (xs.map f) = true := by
  induction xs with
  | nil => rfl
  | cons x r ih => simp only [List.map_cons, PySem.PyData.canLayAll0, h x (by simp), Bool.true_and]; exact ih (fun y hy => h y (by simp [hy]))
theorem depthAll_map {α : Type} (xs : List α) (f : α → PySem.PyData) (n : Nat) (h : ∀ x ∈ xs, (f x).depth ≤ n) : PySem.PyData.depthAll (xs.map f) ≤ n := by
  induction xs with
  | nil => exact Nat.zero_le _
  | cons x r ih =>
    simp only [List.map_cons, PySem.PyData.depthAll]
    exact Nat.max_le.mpr ⟨h x (by simp), ih (fun y hy => h y (by simp [hy]))⟩
end Mi
namespace Mi
theorem enumD_map {α : Type} (f : α → D) (xs : List α) : ∀ k, enumD k (xs.map f) = (xs.zipIdx k).map fun p => D.tup [.int (p.2 : Int), f p.1] := by
  induction xs with
  | nil => intro k; rfl
  | cons x r ih => intro k; simp [enumD, ih]
theorem rangeOf_two (a b : Int) (ha : rangeOk a = true) (hb : rangeOk b = true) (h : (b - a).toNat ≤ SZ) : rangeOf [.int a, .int b] = some ((List.range (b - a).toNat).map fun j : Nat => D.int (a + (j : Int))) := by
  simp [rangeOf, ha, hb, h, rangeD_map]
theorem getAll_star (ρ : Env) (a : OV) (xs : List D) (d : D) (h : a.get ρ = some d) : getAll ρ (a :: (xs.map OV.val ++ [])) = some (d :: xs) := by
  rw [List.append_nil, getAll, h, getAll_vals]
end Mi
namespace Mi
theorem modD_pos (i j : Int) (h : 0 < j) : modD (.int i) (.int j) = some (.int (i % j)) := by simp [modD, h]
theorem fdivD_pos (i j : Int) (h : 0 < j) (h2 : j < 1073741824) : fdivD (.int i) (.int j) = some (.int (i / j)) := by simp [fdivD, h, h2]
theorem mulD_l (i j : Int) (h : i.natAbs < 18446744073709551616) : mulD (.int i) (.int j) = some (.int (i * j)) := by simp [mulD, mulOk, h]
theorem mulD_r (i j : Int) (h : j.natAbs < 18446744073709551616) : mulD (.int i) (.int j) = some (.int (i * j)) := by simp [mulD, mulOk, h]
theorem pow3D (i : Int) (h : i.natAbs < 2 ^ 1000) : powD (.int i) (.int 3) = some (.int (i ^ 3)) := by
  have h1 : i.natAbs.log2 < 1000 := by
    by_cases h0 : i.natAbs = 0
    · rw [h0]; decide
    · exact (Nat.log2_lt h0).2 h
  have h2 : (0 : Int) ≤ 3 ∧ (3 : Int) ≤ 1000000 ∧ (i.natAbs.log2 + 1) * (3 : Int).toNat ≤ 1000000 := ⟨by decide, by decide, by
    have : (3 : Int).toNat = 3 := rfl
    rw [this]; omega⟩
  rw [powD, if_pos h2]
  rfl
theorem at3_0 (a b c : D) : L2.atI [a, b, c] 0 = some a := rfl
theorem at3_1 (a b c : D) : L2.atI [a, b, c] 1 = some b := rfl
theorem at3_2 (a b c : D) : L2.atI [a, b, c] 2 = some c := rfl
theorem ix3_0 : L2.ixN 3 0 = some 0 := rfl
theorem ix3_1 : L2.ixN 3 1 = some 1 := rfl
theorem ix3_2 : L2.ixN 3 2 = some 2 := rfl
/-- what a law draws its numbers from -/
def potD (a b c : Int) : D := .lst true [.int a, .int b, .int c]
def Pot (n : Nat) (d : D) : Prop := ∃ a b c : Int, d = potD a b c ∧ 0 ≤ a ∧ 0 ≤ b ∧ b < 2305843009213693951 ∧ 0 ≤ c ∧ c ≤ n
theorem Pot.mono {n m : Nat} {d : D} (h : Pot n d) (hm : n ≤ m) : Pot m d := by
  obtain ⟨a, b, c, e, h1, h2, h3, h4, h5⟩ := h
  exact ⟨a, b, c, e, h1, h2, h3, h4, by omega⟩
theorem primes (i a b c d : Int) (ha : 0 < a ∧ a < 2147483648) (hb : 0 < b ∧ b < 2147483648) (hc : 0 < c ∧ c < 2147483648) (hd : 0 < d ∧ d < 2147483648) :
    ∃ P : Int, L2.atI [D.int a, .int b, .int c, .int d] (i % 4) = some (.int P) ∧ 0 < P ∧ P < 2147483648 := by
  have h1 := Int.emod_nonneg i (show (4 : Int) ≠ 0 by decide)
  have h2 := Int.emod_lt_of_pos i (show (0 : Int) < 4 by decide)
  generalize i % 4 = r at h1 h2
  have : r = 0 ∨ r = 1 ∨ r = 2 ∨ r = 3 := by omega
  rcases this with rfl | rfl | rfl | rfl
  · exact ⟨a, rfl, ha⟩
  · exact ⟨b, rfl, hb⟩
  · exact ⟨c, rfl, hc⟩
  · exact ⟨d, rfl, hd⟩
theorem pot_cube (b c k1 k2 : Int) (hb : 0 ≤ b ∧ b < 2305843009213693951) (hc : 0 ≤ c ∧ c ≤ 1099511627776) (h1 : 0 ≤ k1 ∧ k1 ≤ 1000000000) (h2 : 0 ≤ k2 ∧ k2 ≤ 1000000000) : (b + k1 * c * c + k2).natAbs < 2 ^ 1000 := by
  have a1 : k1 * c ≤ 1000000000 * 1099511627776 := Int.mul_le_mul h1.2 hc.2 hc.1 (by decide)
  have a2 : 0 ≤ k1 * c := Int.mul_nonneg h1.1 hc.1
  have a3 : k1 * c * c ≤ 1000000000 * 1099511627776 * 1099511627776 := Int.mul_le_mul a1 hc.2 hc.1 (by decide)
  have a4 : 0 ≤ k1 * c * c := Int.mul_nonneg a2 hc.1
  have a5 : (b + k1 * c * c + k2).natAbs < 2 ^ 200 := by
    generalize k1 * c * c = x at a3 a4
    have : (2 : Nat) ^ 200 = 1606938044258990275541962092341162602522202993782792835301376 := by decide
    rw [this]
    omega
  exact Nat.lt_trans a5 (Nat.pow_lt_pow_right (by decide) (by decide))
end Mi
namespace Mi
/-- a while loop that ends behind T rounds -/
theorem whL_inv (c : Env → R D) (body : Env → SR) (I : Nat → Env → Prop) (T : Nat) (h1 : ∀ t ρ, t < T → I t ρ → ∃ ρ1 ρ2, c ρ = .ok (.bl true) ρ1 ∧ body ρ1 = .nx ρ2 ∧ I (t + 1) ρ2)
    (h2 : ∀ ρ, I T ρ → ∃ ρ1, c ρ = .ok (.bl false) ρ1 ∧ I T ρ1) : ∀ (n t fuel : Nat) (ρ : Env), n = T - t → t ≤ T → n < fuel → I t ρ → ∃ ρ', whL c body fuel ρ = .nx ρ' ∧ I T ρ' := by
  intro n
  induction n with
  | zero =>
    intro t fuel ρ hn ht hf hi
    have : t = T := by omega
    subst this
    obtain ⟨ρ1, e, i⟩ := h2 ρ hi
    cases fuel with
    | zero => omega
    | succ f => exact ⟨ρ1, by simp [whL, e], i⟩
  | succ n ih =>
    intro t fuel ρ hn ht hf hi
    obtain ⟨ρ1, ρ2, e1, e2, i⟩ := h1 t ρ (by omega) hi
    cases fuel with
    | zero => omega
    | succ f =>
      obtain ⟨ρ', e, i2⟩ := ih (t + 1) f ρ2 (by omega) (by omega) (by omega) i
      exact ⟨ρ', by simp [whL, e1, e2, e], i2⟩
theorem whL_run (c : Env → R D) (body : Env → SR) (I : Nat → Env → Prop) (T : Nat) (ρ : Env) (hT : T < FUEL) (hi : I 0 ρ) (h1 : ∀ t ρ, t < T → I t ρ → ∃ ρ1 ρ2, c ρ = .ok (.bl true) ρ1 ∧ body ρ1 = .nx ρ2 ∧ I (t + 1) ρ2)
    (h2 : ∀ ρ, I T ρ → ∃ ρ1, c ρ = .ok (.bl false) ρ1 ∧ I T ρ1) : ∃ ρ', whL c body FUEL ρ = .nx ρ' ∧ I T ρ' :=
  whL_inv c body I T h1 h2 T 0 FUEL ρ (by omega) (by omega) hT hi
theorem zip3_map (as bs cs : List Int) : zip3 (as.map D.int) (bs.map D.int) (cs.map D.int) = (as.zip (bs.zip cs)).map fun p => D.tup [.int p.1, .int p.2.1, .int p.2.2] := by
  induction as generalizing bs cs with
  | nil => cases bs <;> simp [zip3]
  | cons a r ih =>
    cases bs with
    | nil => simp [zip3]
    | cons b bs => cases cs with
      | nil => simp [zip3]
      | cons c cs => simp [zip3, ih]
theorem cut_1 (xs : List D) : cutD xs (some 1) none = xs.drop 1 := cut_lo xs 1
theorem cut_h1 (xs : List D) : cutD xs none (some 1) = xs.take 1 := cut_hi xs 1
end Mi
namespace Mi
theorem intD_i (i : Int) : intD (.int i) = some (.int i) := rfl
end Mi
namespace Mi
theorem ints_of (P : Int → Prop) : ∀ es : List D, (∀ e ∈ es, ∃ i, e = .int i ∧ P i) → ∃ F : List Int, es = F.map D.int ∧ ∀ x ∈ F, P x
  | [], _ => ⟨[], rfl, fun _ h => nomatch h⟩
  | e :: r, h => by
    obtain ⟨i, rfl, hi⟩ := h e (by simp)
    obtain ⟨F, rfl, hF⟩ := ints_of P r (fun e he => h e (by simp [he]))
    exact ⟨i :: F, rfl, fun x hx => by
      rcases List.mem_cons.1 hx with rfl | hx
      · exact hi
      · exact hF x hx⟩
/-- a comprehension that changes the state it stands in -/
theorem ev_lc_st (Φ : Fns) (vs : List Nat) (tg : Tg) (it : It) (elt : IE) (ρ ρ1 : Env) (ds : List D) (I : Nat → Env → Prop) (Q : D → Prop)
    (hit : evIt Φ it ρ = .ok ds ρ1) (hl : ds.length ≤ SZ) (hu : unowned ρ1 vs = true) (h0 : I 0 ρ1)
    (hs : ∀ d ∈ ds, ∀ n ρ2, n < ds.length → I n ρ2 → ∃ ρ3 e ρ4, bindT [] tg d (wipeE vs ρ2) = some ρ3 ∧ ev Φ elt ρ3 = .ok e ρ4 ∧ I (n + 1) ρ4 ∧ Q e) :
    ∃ es ρ6, ev Φ (.lc vs tg it [] elt) ρ = .ok (.lst true es) (backE ρ1 vs ρ6) ∧ I ds.length ρ6 ∧ es.length = ds.length ∧ ∀ e ∈ es, Q e := by
  rw [ev_lc Φ vs tg it [] elt ρ ρ1 ds hit hl hu]
  have key : ∀ (as acc : List D) (n : Nat) (r : Env), n + as.length ≤ ds.length → (∀ d ∈ as, d ∈ ds) → I n r → ∃ es ρ6, lcLoop (lcStep Φ vs tg [] elt) as acc r = .ok (acc.reverse ++ es) ρ6 ∧ I (n + as.length) ρ6 ∧ es.length = as.length ∧ ∀ e ∈ es, Q e := by
    intro as
    induction as with
    | nil => intro acc n r _ _ hi; exact ⟨[], r, by simp [lcLoop], hi, rfl, fun _ h => nomatch h⟩
    | cons a as ih =>
      intro acc n r hn hm hi
      obtain ⟨ρ3, e, ρ4, h1, h2, h3, h4⟩ := hs a (hm a (by simp)) n r (by simp at hn; omega) hi
      obtain ⟨es, ρ6, e1, e2, e3, e4⟩ := ih (e :: acc) (n + 1) ρ4 (by simp at hn; omega) (fun d hd => hm d (by simp [hd])) h3
      refine ⟨e :: es, ρ6, ?_, ?_, by simp [e3], ?_⟩
      · have : lcStep Φ vs tg [] elt a r = .ok (some e) ρ4 := by simp [lcStep, h1, evIfs, R.bind, h2]
        simp [lcLoop, this, e1]
      · have : n + (a :: as).length = n + 1 + as.length := by simp; omega
        rw [this]; exact e2
      · intro x hx
        rcases List.mem_cons.1 hx with rfl | hx
        · exact h4
        · exact e4 x hx
  obtain ⟨es, ρ6, e1, e2, e3, e4⟩ := key ds [] 0 ρ1 (by omega) (fun _ h => h) h0
  refine ⟨es, ρ6, ?_, by simpa using e2, e3, e4⟩
  rw [e1]; simp [R.bind]
end Mi
namespace Mi
theorem lenD_tup (xs : List D) : lenD (.tup xs) = some (.int xs.length) := rfl
end Mi
end

section
set_option linter.all false
set_option maxRecDepth 100000
namespace Mi
open PySem
/-! texts of small data: no strings within, numbers of at most twelve figures -/
mutual
def smallP : PyData → Bool
  | .none => true
  | .bool _ => true
  | .int i => decide (i.natAbs < 1000000000000)
  | .str _ => false
  | .list xs => smallAll xs
  | .tuple xs => smallAll xs
  | .dict _ => false
def smallAll : List PyData → Bool
  | [] => true
  | x :: xs => smallP x && smallAll xs
end
mutual
def nodesP : PyData → Nat
  | .list xs => 1 + nodesAll xs
  | .tuple xs => 1 + nodesAll xs
  | .none => 1
  | .bool _ => 1
  | .int _ => 1
  | .str _ => 1
  | .dict _ => 1
def nodesAll : List PyData → Nat
  | [] => 0
  | x :: xs => nodesP x + nodesAll xs
end
def okS (x : Str) : Prop := ∀ c ∈ x.cps.toList, c < 0x110000
theorem okS_iff (x : Str) : PyData.strOk x = true ↔ okS x := by
  unfold PyData.strOk okS
  rw [Array.all_eq_true_iff_forall_mem]
  constructor
  · intro h c hc
    have := h c (Array.mem_toList_iff.mp hc)
    simpa using this
  · intro h c hc
    have := h c (Array.mem_toList_iff.mpr hc)
    simpa using this
theorem okS_app {x y : Str} (hx : okS x) (hy : okS y) : okS (x ++ y) := by
  intro c hc
  have e : (x ++ y).cps.toList = x.cps.toList ++ y.cps.toList := by
    show (x.cps ++ y.cps).toList = _
    simp
  rw [e] at hc
  rcases List.mem_append.1 hc with h | h
  · exact hx c h
  · exact hy c h
theorem okS_of (s : String) : okS (Str.ofString s) := by
  intro c hc
  rw [Str.ofString_eq_toList] at hc
  simp at hc
  obtain ⟨a, _, rfl⟩ := hc
  have := a.valid
  rcases this with h | h
  · have h' : a.toNat < 0xd800 := h
    omega
  · have h' : a.toNat < 0x110000 := h.2
    omega
theorem okS_join {sep : Str} (hs : okS sep) : ∀ ts : List Str, (∀ t ∈ ts, okS t) → okS (Str.join sep ts)
  | [], _ => by intro c hc; simp [Str.join, Str.empty] at hc
  | [x], h => h x (by simp)
  | x :: y :: r, h => by
    rw [Str.join]
    · exact okS_app (okS_app (h x (by simp)) hs) (okS_join hs (y :: r) (fun t ht => h t (by simp [List.mem_cons.1 ht])))
    · simp
theorem okS_tup {ts : List Str} (h : ∀ t ∈ ts, okS t) : okS (tupleText ts) := by
  unfold tupleText
  refine okS_app (okS_app (okS_of "(") (okS_join (okS_of ", ") ts h)) ?_
  exact okS_of _
theorem okS_from : ∀ (ts : List Str) (k : Nat) (acc : Str), okS acc → (∀ t ∈ ts, okS t) → okS (textFrom k acc ts)
  | [], _, _, ha, _ => ha
  | t :: ts, k, acc, ha, h => okS_from ts (k + 1) _ (okS_app (okS_app ha (okS_of _)) (h t (by simp))) (fun x hx => h x (by simp [hx]))
theorem okS_lst {ts : List Str} (h : ∀ t ∈ ts, okS t) : okS (listText ts) := okS_app (okS_from ts 0 _ (okS_of "[") h) (okS_of "]")
mutual
theorem okS_shown : ∀ d : PyData, smallP d = true → okS d.shown
  | .none, _ => by simp only [PyData.shown]; exact okS_of "None"
  | .bool b, _ => by
    simp only [PyData.shown]
    cases b
    · exact okS_of "False"
    · exact okS_of "True"
  | .int i, _ => by simp only [PyData.shown]; exact okS_of _
  | .str _, h => by simp [smallP] at h
  | .dict _, h => by simp [smallP] at h
  | .list xs, h => by simp only [PyData.shown]; exact okS_lst (okS_shownAll xs (by simpa [smallP] using h))
  | .tuple xs, h => by simp only [PyData.shown]; exact okS_tup (okS_shownAll xs (by simpa [smallP] using h))
theorem okS_shownAll : ∀ xs : List PyData, smallAll xs = true → ∀ t ∈ PyData.shownAll xs, okS t
  | [], _, t, ht => by simp [PyData.shownAll] at ht
  | x :: xs, h, t, ht => by
    have h' : smallP x = true ∧ smallAll xs = true := by simpa [smallAll] using h
    simp only [PyData.shownAll, List.mem_cons] at ht
    rcases ht with rfl | ht
    · exact okS_shown x h'.1
    · exact okS_shownAll xs h'.2 t ht
end
theorem log_small (i : Int) (h : i.natAbs < 1000000000000) : i.natAbs.log2 < 40 := by
  by_cases h0 : i.natAbs = 0
  · rw [h0]; decide
  · exact (Nat.log2_lt h0).2 (by omega)
mutual
theorem small_facts : ∀ d : PyData, smallP d = true → d.canLay0 = true ∧ d.showable = true ∧ d.intsShort 13 = true ∧ d.depth ≤ nodesP d ∧ d.weight + 1 ≤ 50 * nodesP d
  | .none, _ => ⟨rfl, rfl, rfl, by simp [PyData.depth], by simp [PyData.weight, nodesP]⟩
  | .bool b, _ => ⟨rfl, rfl, rfl, by simp [PyData.depth], by simp [PyData.weight, nodesP]⟩
  | .int i, h => by
    have hi : i.natAbs < 1000000000000 := by simpa [smallP] using h
    have hl := log_small i hi
    refine ⟨rfl, ?_, ?_, ?_, ?_⟩
    · simp only [PyData.showable, decide_eq_true_eq]; omega
    · simp only [PyData.intsShort, decide_eq_true_eq]; exact PyData.shown_int_le (by simpa using hi)
    · simp [PyData.depth]
    · simp only [PyData.weight, nodesP]; split <;> omega
  | .str _, h => by simp [smallP] at h
  | .dict _, h => by simp [smallP] at h
  | .list xs, h => by
    obtain ⟨a, b, c, e, f⟩ := small_factsAll xs (by simpa [smallP] using h)
    refine ⟨?_, ?_, ?_, ?_, ?_⟩
    · simpa [PyData.canLay0] using a
    · simpa [PyData.showable] using b
    · simpa [PyData.intsShort] using c
    · simp only [PyData.depth, nodesP]; omega
    · simp only [PyData.weight, nodesP]; omega
  | .tuple xs, h => by
    obtain ⟨a, b, c, e, f⟩ := small_factsAll xs (by simpa [smallP] using h)
    refine ⟨?_, ?_, ?_, ?_, ?_⟩
    · simpa [PyData.canLay0] using a
    · simpa [PyData.showable] using b
    · simpa [PyData.intsShort] using c
    · simp only [PyData.depth, nodesP]; omega
    · simp only [PyData.weight, nodesP]; omega
theorem small_factsAll : ∀ xs : List PyData, smallAll xs = true → PyData.canLayAll0 xs = true ∧ PyData.showableAll xs = true ∧ PyData.intsShortAll 13 xs = true ∧ PyData.depthAll xs ≤ nodesAll xs ∧ PyData.weightAll xs ≤ 50 * nodesAll xs
  | [], _ => ⟨rfl, rfl, rfl, by simp [PyData.depthAll], by simp [PyData.weightAll]⟩
  | x :: xs, h => by
    have h' : smallP x = true ∧ smallAll xs = true := by simpa [smallAll] using h
    obtain ⟨a, b, c, e, f⟩ := small_facts x h'.1
    obtain ⟨a2, b2, c2, e2, f2⟩ := small_factsAll xs h'.2
    refine ⟨?_, ?_, ?_, ?_, ?_⟩
    · simp [PyData.canLayAll0, a, a2]
    · simp [PyData.showableAll, b, b2]
    · simp [PyData.intsShortAll, c, c2]
    · simp only [PyData.depthAll, nodesAll]; exact Nat.max_le.mpr ⟨by omega, by omega⟩
    · simp only [PyData.weightAll, nodesAll]; omega
end
/-- the text of small data -/
def sh (d : D) : Str := d.pd.shown
theorem repr_small (d : D) (h0 : d.isPd = true) (h : smallP d.pd = true) (hn : nodesP d.pd ≤ 60) : reprD d = some (.str (sh d)) := by
  obtain ⟨a, b, c, e, f⟩ := small_facts d.pd h
  have h1 := PyData.shown_fits (B := 13) (by decide) (by decide) (PyData.leavesShort_of_canLay0 13 _ a c) (by omega)
  have h2 : sizeLine = SZ := by unfold sizeLine SZ; decide
  rw [h2] at h1
  simp [reprD, h0, b, h1, sh]
  omega
theorem strOk_small (d : D) (h : smallP d.pd = true) : PyData.strOk (sh d) = true := (okS_iff _).2 (okS_shown d.pd h)
theorem shaped_str (s : Str) (h : PyData.strOk s = true) : PySem.SeqAt.shaped (.str s) = true := by
  unfold PySem.SeqAt.shaped
  simp [PyData.canLay0, h, PyData.depth]
theorem eqD_str (s t : Str) (h1 : PyData.strOk s = true) (h2 : PyData.strOk t = true) : eqD (.str s) (.str t) = some (s == t) := by
  simp [eqD, D.isPd, D.pd, shaped_str s h1, shaped_str t h2, PyData.eqv]
/-- is a text among some texts -/
theorem memD_strs (s : Str) (ss : List Str) (h1 : PyData.strOk s = true) (h2 : ∀ t ∈ ss, PyData.strOk t = true) : memD (.str s) (ss.map D.str) = some (ss.any (· == s)) := by
  have e1 : isPdL (ss.map D.str) = true := isPdL_map _ _ fun _ _ => rfl
  have e2 : pdL (ss.map D.str) = ss.map PyData.str := pdL_map ss D.str
  have e3 : PySem.SeqAt.shaped (.list (pdL (ss.map D.str))) = true := by
    rw [e2]
    have h3 : PyData.canLayAll0 (ss.map PyData.str) = true := canLayAll_map _ _ fun x hx => by simp [PyData.canLay0, h2 x hx]
    have h4 : PyData.depthAll (ss.map PyData.str) ≤ 0 := depthAll_map _ _ 0 fun _ _ => by simp [PyData.depth]
    show (PyData.canLayAll0 _ && decide (PyData.depthAll _ + 1 ≤ 64)) = true
    rw [h3, Bool.true_and, decide_eq_true_eq]; omega
  rw [e2] at e3
  simp only [memD, e1, D.isPd, D.pd, shaped_str s h1, e2, e3, Bool.and_self, if_true, List.any_map]
  rfl
end Mi
end

section
set_option linter.all false
set_option maxRecDepth 100000
namespace Mi
open PySem
/-- a loop whose rounds change the loop's own name alone -/
theorem forL_slot (lk : List Nat) (tg : Tg) (body : Env → SR) (E : Option D → Env) : ∀ (ds : List D) (o : Option D), (∀ d ∈ ds, ∀ o, bindT lk tg d (E o) = some (E (some d)) ∧ body (E (some d)) = .nx (E (some d))) → ∃ o', forL lk tg body ds (E o) = .nx (E o')
  | [], o, _ => ⟨o, rfl⟩
  | d :: ds, o, h => by
    obtain ⟨h1, h2⟩ := h d (by simp) o
    obtain ⟨o', e⟩ := forL_slot lk tg body E ds (some d) (fun d hd => h d (by simp [hd]))
    exact ⟨o', by simp [forL, h1, h2, e]⟩
theorem smallAll_map {α : Type} (xs : List α) (f : α → PyData) (h : ∀ x ∈ xs, smallP (f x) = true) : smallAll (xs.map f) = true := by
  induction xs with
  | nil => rfl
  | cons x r ih => simp only [List.map_cons, smallAll, h x (by simp), Bool.true_and]; exact ih (fun y hy => h y (by simp [hy]))
theorem nodesAll_map {α : Type} (xs : List α) (f : α → PyData) (k : Nat) (h : ∀ x ∈ xs, nodesP (f x) ≤ k) : nodesAll (xs.map f) ≤ k * xs.length := by
  induction xs with
  | nil => simp [nodesAll]
  | cons x r ih =>
    have h1 := h x (by simp)
    have h2 := ih (fun y hy => h y (by simp [hy]))
    simp only [List.map_cons, nodesAll, List.length_cons]
    rw [Nat.mul_add, Nat.mul_one]; omega
theorem op_ne_str (s : Str) (h : PyData.strOk s = true) : op2 .ne (.str s) (.str s) = some (.bl false) := by
  simp [op2, eqD_str s s h h]
theorem op_eq_str (s : Str) (h : PyData.strOk s = true) : op2 .eq (.str s) (.str s) = some (.bl true) := by
  simp [op2, eqD_str s s h h]
theorem inD_strs (neg : Bool) (s : Str) (o : Bool) (ss : List Str) (h1 : PyData.strOk s = true) (h2 : ∀ t ∈ ss, PyData.strOk t = true) : inD neg (.str s) (.lst o (ss.map D.str)) = some (.bl ((ss.any (· == s)) != neg)) := by
  simp [inD, memD_strs s ss h1 h2]
/-- all that is to be known of a value whose text is asked -/
structure Txt (d : D) : Prop where
  r : reprD d = some (.str (sh d))
  k : PyData.strOk (sh d) = true
theorem Txt.mk' {d : D} (h0 : d.isPd = true) (h : smallP d.pd = true) (hn : nodesP d.pd ≤ 60) : Txt d := ⟨repr_small d h0 h hn, strOk_small d h⟩
theorem txt_bl (b : Bool) : Txt (.bl b) := Txt.mk' rfl rfl (by simp [D.pd, nodesP])
theorem txt_non : Txt .non := Txt.mk' rfl rfl (by simp [D.pd, nodesP])
theorem txt_int (i : Int) (h : i.natAbs < 1000000000000) : Txt (.int i) := Txt.mk' rfl (by simp [D.pd, smallP, h]) (by simp [D.pd, nodesP])
end Mi
end

section
set_option linter.all false
set_option maxRecDepth 100000
set_option maxHeartbeats 1000000
namespace LW
open Mi
def b_is_integer : List IS := [.ret (.andE (.cb .isi [.peek 0, .glob (.typ "int")]) (.notE (.cb .isi [.peek 0, .glob (.typ "bool")])))]
def b_is_between : List IS := [.ret (.andE (.call 0 [.peek 0]) (.chain .le .le [.peek 1, .peek 0] [.peek 2]))]
def b_are_between : List IS := [.ret (.andE (.cb .isi [.peek 0, .glob (.typ "tuple")]) (.cb .all [.lc [3] (.slot 3) (.seq [.peekF 0]) [] (.frz (.call 1 [.peek 3, .peek 1, .peek 2]))]))]
def b_check_floors : List IS := [.ifs (.orE (.notE (.call 2 [.peek 0, .const (.int 0), .glob (.int 50)])) (.notE (.chain .le .le [.const (.int 1), .cb .len [.peek 0]] [.glob (.int 5)]))) [.never] []]
def b_check_stair : List IS := [.ex (.call 3 [.peek 0]), .ifs (.notE (.call 1 [.peek 1, .const (.int 1), .glob (.int 20)])) [.never] []]
def b_check_after : List IS := [.ifs (.notE (.call 1 [.peek 0, .const (.int 0), .glob (.int 400)])) [.never] []]
def b_rounded_up : List IS := [.ret (.op .fdiv [.op .sub [.op .add [.peek 0, .peek 1], .const (.int 1)], .peek 1])]
def b_needs_of : List IS := [.asg (.slot 2) (.lst []), .for_ (.slot 3) (.range [.cb .len [.peek 0]]) [.asg (.slot 4) (.cb .sum [.slc [.peek 0] [.var 3] []]), .app 2 (.tup [.frz (.ite (.op .gt [.peek 4, .const (.int 0)]) (.op .add [.peek 3, .call 6 [.peek 4, .peek 1]]) (.const (.int 0))), .op .add [.peek 3, .const (.int 1)]])], .ret (.mov 2)]
def b_least_of : List IS := [.ret (.cb .max [.lc [2, 3] (.tup [(.slot 2), (.slot 3)]) (.seq [.call 7 [.peek 0, .peek 1]]) [] (.var 2)])]
def b_down_told : List IS := [.ex (.call 4 [.peek 0, .peek 1]), .asg (.slot 2) (.call 8 [.peek 0, .peek 1]), .ifs (.op .eq [.peek 2, .const (.int 0)]) [.ret (.tup [.const (.int 0), .const .non])] [], .ret (.tup [.var 2, .idx [.lc [3, 4] (.tup [(.slot 3), (.slot 4)]) (.seq [.call 7 [.peek 0, .peek 1]]) [.op .eq [.peek 3, .peek 2]] (.var 4), .const (.int 0)]])]
def b_shows_down : List IS := [.ex (.call 4 [.peek 0, .peek 1]), .ifs (.orE (.notE (.cb .isi [.peek 2, .glob (.typ "tuple")])) (.orE (.op .ne [.cb .len [.peek 2], .const (.int 2)]) (.notE (.call 1 [.idx [.peek 2, .const (.int 0)], .const (.int 0), .glob (.int 400)])))) [.ret (.const (.bl false))] [], .asg (.slot 3) (.call 8 [.peek 0, .peek 1]), .ifs (.op .eq [.peek 3, .const (.int 0)]) [.ret (.andE (.op .eq [.idx [.peek 2, .const (.int 0)], .const (.int 0)]) (.isn false [.idx [.peek 2, .const (.int 1)]]))] [], .ret (.andE (.op .eq [.idx [.peek 2, .const (.int 0)], .peek 3]) (.andE (.call 1 [.idx [.peek 2, .const (.int 1)], .const (.int 1), .cb .len [.peek 0]]) (.op .mem [.tup [.var 3, .idx [.peek 2, .const (.int 1)]], .call 7 [.peek 0, .peek 1]])))]
def b_number_after : List IS := [.asg (.slot 3) (.lc [4] (.slot 4) (.range [.op .add [.cb .len [.peek 0], .const (.int 1)]]) [] (.op .add [.cb .sum [.slc [.peek 0] [] [.var 4]], .op .mul [.peek 1, .cb .max [.const (.int 0), .op .sub [.peek 2, .peek 4]]]])), .ret (.cb .min [.lst [.cb .sum [.peek 0], .star (.var 3)]])]
def b_out_after : List IS := [.ex (.call 4 [.peek 0, .peek 1]), .ex (.call 5 [.peek 2]), .ret (.call 11 [.peek 0, .peek 1, .peek 2])]
def b_alone_by : List IS := [.ret (.lc [2, 3] (.tup [(.slot 2), (.slot 3)]) (.enum [.peekF 0]) [] (.frz (.ite (.op .gt [.peek 3, .const (.int 0)]) (.op .add [.peek 2, .call 6 [.peek 3, .peek 1]]) (.const (.int 0)))))]
def b_alone_out : List IS := [.ex (.call 4 [.peek 0, .peek 1]), .ret (.cb .tuple [.call 13 [.peek 0, .peek 1]])]
def b_widest_need : List IS := [.ex (.call 3 [.peek 0]), .ex (.call 5 [.peek 1]), .asg (.slot 2) (.lc [3] (.slot 3) (.range [.const (.int 1), .op .add [.glob (.int 20), .const (.int 1)]]) [.op .le [.call 8 [.peek 0, .peek 3], .peek 1]] (.var 3)), .ret (.ite (.op .ne [.peek 2, .lst []]) (.idx [.peek 2, .const (.int 0)]) (.const .non))]
def b__law_pot : List IS := [.asg (.slot 2) (.ite (.op .lt [.peek 1, .cb .len [.peek 0]]) (.idx [.peek 0, .peek 1]) (.op .add [.op .add [.op .mod [.cb .int [.cb .sum [.slc [.peek 0] [] [.const (.int 1)]]], .const (.int 1000003)], .op .mul [.const (.int 3635), .peek 1]], .const (.int 8711)])), .asg (.slot 3) (.op .mul [.op .mod [.cb .int [.cb .abs [.peek 2]], .op .pow [.op .pow [.const (.int 10), .const (.int 60)], .const (.int 5)]], .cb .int [.op .ge [.cb .abs [.peek 2], .op .pow [.const (.int 10), .const (.int 18)]]]]), .asg (.slot 4) (.op .mod [.cb .int [.peek 2], .const (.int 2305843009213693951)]), .ret (.lst [.var 3, .op .mod [.cb .int [.op .add [.op .add [.op .mul [.peek 4, .const (.int 94629)], .op .mul [.op .mul [.const (.int 13879), .peek 1], .peek 1]], .const (.int 3035)]], .const (.int 2305843009213693921)], .const (.int 0)])]
def b__law_take : List IS := [.ifs (.op .gt [.idx [.peek 0, .const (.int 0)], .const (.int 0)]) [.asg (.slot 4) (.op .mod [.cb .int [.idx [.peek 0, .const (.int 0)]], .peek 1]), .seti 0 (.op .fdiv [.idx [.peek 0, .const (.int 0)], .peek 1]) (.const (.int 0)), .ret (.mov 4)] [], .seti 0 (.op .add [.idx [.peek 0, .const (.int 2)], .const (.int 1)]) (.const (.int 2)), .asg (.slot 2) (.idx [.lst [.const (.int 2147483647), .const (.int 2147483629), .const (.int 2147483587), .const (.int 2147483579)], .op .mod [.cb .int [.idx [.peek 0, .const (.int 2)]], .const (.int 4)]]), .asg (.slot 3) (.op .mod [.cb .int [.op .pow [.cb .int [.op .add [.op .add [.idx [.peek 0, .const (.int 1)], .op .mul [.op .mul [.const (.int 137689), .idx [.peek 0, .const (.int 2)]], .idx [.peek 0, .const (.int 2)]]], .const (.int 3735)]], .const (.int 3)]], .peek 2]), .ret (.op .mod [.cb .int [.op .fdiv [.op .mul [.peek 3, .op .add [.op .mod [.cb .int [.peek 3], .const (.int 10007)], .op .mul [.const (.int 2937), .idx [.peek 0, .const (.int 2)]]]], .const (.int 307)]], .peek 1])]
def b__law_of : List IS := [.ret (.idx [.peek 1, .call 17 [.peek 0, .cb .len [.peek 1]]])]
def b__law_cells : List IS := [.ret (.rng false [.cb .max [.const (.int 1), .cb .min [.peek 1, .cb .len [.peek 0]]]])]
def b__law_run : List IS := [.par [2, 3, 4] [.cb .list [.peek 0], .const (.int 0), .lst [.const (.int 0)]], .while_ (.op .gt [.cb .sum [.peek 2], .const (.int 0)]) [.asg (.slot 5) (.lc [6] (.slot 6) (.seq [.peekF 2]) [] (.cb .min [.peek 1, .peek 6])), .asg (.slot 3) (.op .add [.peek 3, .idx [.peek 5, .const (.int 0)]]), .asg (.slot 2) (.lc [6, 7, 8] (.tup [(.slot 6), (.slot 7), (.slot 8)]) (.zip [.peekF 2, .peekF 5, .op .add [.slc [.peek 5] [.const (.int 1)] [], .lst [.const (.int 0)]]]) [] (.op .add [.op .sub [.peek 6, .peek 7], .peek 8])), .app 4 (.var 3)], .ret (.mov 4)]
def b__law_bounds : List IS := [.asg (.slot 2) (.lst []), .for_ (.slot 3) (.range [.cb .len [.peek 0]]) [.asg (.slot 4) (.cb .sum [.slc [.peek 0] [.var 3] []]), .app 2 (.ite (.op .gt [.peek 4, .const (.int 0)]) (.cb .int [.op .add [.peek 3, .op .fdiv [.op .sub [.op .add [.peek 4, .peek 1], .const (.int 1)], .peek 1]]]) (.const (.int 0)))], .ret (.mov 2)]
def b__law_right : List IS := [.asg (.tup [(.slot 9), (.slot 10)]) (.tup [.cb .tuple [.lc [15] (.slot 15) (.range [.op .add [.const (.int 1), .call 17 [.peek 0, .const (.int 5)]]]) [] (.cb .int [.call 18 [.peek 0, .lst [.const (.int 0), .const (.int 1), .const (.int 4), .const (.int 9), .frz (.call 17 [.peek 0, .const (.int 10)])]]])], .cb .int [.op .add [.const (.int 1), .call 17 [.peek 0, .const (.int 4)]]]]), .par [11, 12] [.call 20 [.peek 9, .peek 10], .call 21 [.peek 9, .peek 10]], .asg (.slot 1) (.op .sub [.cb .len [.peek 11], .const (.int 1)]), .asg (.slot 2) (.ite (.op .gt [.peek 1, .const (.int 0)]) (.lc [14, 16] (.tup [(.slot 14), (.slot 16)]) (.enum [.peekF 12]) [.op .eq [.peek 16, .peek 1]] (.cb .repr [.tup [.var 1, .cb .int [.op .add [.peek 14, .const (.int 1)]]]])) (.lst [.cb .repr [.tup [.const (.int 0), .const .non]]])), .asg (.slot 3) (.callK 9 [.var 10, .var 9] [1, 0]), .ifs (.orE (.op .nmem [.cb .repr [.peek 3], .peek 2]) (.op .ne [.cb .max [.peek 12], .peek 1])) [.ret (.const (.bl false))] [], .asg (.slot 4) (.lst [.var 3, .frz (.cb .list [.peek 3]), .frz (.slc [.peek 3] [] [.const (.int 1)]), .op .add [.peek 3, .tup [.const (.int 0)]], .const .non, .tup [], .tup [.var 1, .const .non], .tup [.op .add [.peek 1, .const (.int 1)], .const (.int 1)], .tup [.var 1, .const (.bl true)], .tup [.var 1, .const (.int 0)], .tup [.var 1, .op .add [.cb .len [.peek 9], .const (.int 1)]], .tup [.neg [.const (.int 1)], .const (.int 1)], .tup [.const (.int 0), .const .non], .tup [.const .non, .const (.int 1)]]), .for_ (.slot 5) (.seq [.op .add [.peek 4, .lc [14] (.slot 14) (.range [.cb .len [.peek 9]]) [] (.tup [.var 1, .cb .int [.op .add [.peek 14, .const (.int 1)]]])]]) [.ifs (.op .ne [.cb .repr [.callK 10 [.var 5, .var 10, .var 9] [2, 1, 0]], .cb .repr [.op .mem [.cb .repr [.peek 5], .peek 2]]]) [.ret (.const (.bl false))] []], .for_ (.slot 6) (.seq [.lst [.const (.int 0), .const (.int 1), .cb .int [.call 17 [.peek 0, .const (.int 30)]], .var 1, .op .add [.peek 1, .const (.int 7)], .const (.int 400)]]) [.ifs (.op .ne [.cb .repr [.callK 12 [.var 6, .var 10, .var 9] [2, 1, 0]], .cb .repr [.idx [.peek 11, .cb .min [.peek 6, .peek 1]]]]) [.ret (.const (.bl false))] []], .asg (.slot 7) (.cb .tuple [.lc [14, 17] (.tup [(.slot 14), (.slot 17)]) (.enum [.peekF 9]) [] (.cb .int [.op .sub [.cb .len [.call 20 [.op .add [.op .mul [.tup [.const (.int 0)], .peek 14], .tup [.var 17]], .peek 10]], .const (.int 1)]])]), .ifs (.op .ne [.cb .repr [.callK 14 [.var 10, .var 9] [1, 0]], .cb .repr [.peek 7]]) [.ret (.const (.bl false))] [], .asg (.slot 6) (.cb .int [.call 17 [.peek 0, .const (.int 40)]]), .asg (.slot 8) (.lc [13] (.slot 13) (.range [.const (.int 1), .const (.int 21)]) [.op .le [.op .sub [.cb .len [.call 20 [.peek 9, .peek 13]], .const (.int 1)], .peek 6]] (.cb .int [.peek 13])), .ret (.op .eq [.cb .repr [.callK 15 [.var 6, .var 9] [1, 0]], .cb .repr [.ite (.op .ne [.peek 8, .lst []]) (.idx [.peek 8, .const (.int 0)]) (.const .non)]])]
def b_law : List IS := [.for_ (.slot 1) (.seq [.call 19 [.peek 0, .const (.int 3)]]) [.asg (.slot 2) (.call 16 [.peek 0, .peek 1]), .ifs (.notE (.cb .all [.lc [3] (.slot 3) (.range [.const (.int 3)]) [] (.frz (.call 22 [.peek 2]))])) [.ret (.const (.bl false))] []], .ret (.const (.bl true))]
def PQ : List Fd := [⟨1, 1, [], b_is_integer⟩, ⟨3, 3, [], b_is_between⟩, ⟨3, 4, [], b_are_between⟩, ⟨1, 1, [], b_check_floors⟩, ⟨2, 2, [], b_check_stair⟩, ⟨1, 1, [], b_check_after⟩, ⟨2, 2, [], b_rounded_up⟩, ⟨2, 5, [], b_needs_of⟩, ⟨2, 4, [], b_least_of⟩, ⟨2, 5, [], b_down_told⟩, ⟨3, 4, [], b_shows_down⟩, ⟨3, 5, [], b_number_after⟩, ⟨3, 3, [], b_out_after⟩, ⟨2, 4, [], b_alone_by⟩, ⟨2, 2, [], b_alone_out⟩, ⟨2, 4, [], b_widest_need⟩, ⟨2, 5, [], b__law_pot⟩, ⟨2, 5, [], b__law_take⟩, ⟨2, 2, [], b__law_of⟩, ⟨2, 2, [], b__law_cells⟩, ⟨2, 9, [], b__law_run⟩, ⟨2, 5, [], b__law_bounds⟩, ⟨1, 18, [], b__law_right⟩, ⟨1, 4, [], b_law⟩]
end LW
end

section
set_option linter.all false
set_option maxRecDepth 100000
set_option maxHeartbeats 1000000
namespace LW
open Mi
theorem is_integer_int (k : Nat) (i : Int) : runN PQ (k + 1) 0 [.int i] = .ok (.bl true) [.int i] := rfl
theorem is_between_int (k : Nat) (i a b : Int) : runN PQ (k + 2) 1 [.int i, .int a, .int b] = .ok (.bl (decide (a ≤ i) && decide (i ≤ b))) [.int i, .int a, .int b] := by
  refine run_ret (ρ0 := [some (.int i), some (.int a), some (.int b)]) (ρ1 := [some (.int i), some (.int a), some (.int b)]) rfl rfl rfl rfl ?_ rfl
  simp -dsimp only [b_is_between, E_const, E_glob, E_var, E_mov, E_op, E_isn, E_neg, E_notE, E_chain, E_andE, E_orE, E_ite, E_tup, E_lst, E_idx, E_slc, E_cb, E_call, E_callK, E_rng2, rngK_t, rngK_f, E_frz, Es_nil, Es_peek, Es_peekF, Es_star, Es_const, Es_glob, Es_var, Es_mov, Es_op, Es_isn, Es_neg, Es_notE, Es_chain, Es_andE, Es_orE, Es_ite, Es_tup, Es_lst, Es_idx, Es_slc, Es_cb, Es_call, Es_callK, Es_rng, Es_frz, Es_lc, Eb_nil, Eb_one, Ei_nil, Ei_cons, It_seq, It_range, It_enum, It_zip, S_ex, S_asg, S_par, S_seti, S_app, S_ext, S_aug, S_augi, S_ret, S_ifs, S_for_, S_while_, S_never, Ss_nil, Ss_cons, getE_zero, getE_succ, ↓bind_rb, ↓ofR_rb, ↓rbk, ↓ork, rbk, ork, Bool.false_eq_true, if_false, oo_some, ob_some, om_some, getAll, OV.get, OV.refs, nodupN, putBack, set_zero, set_succ, List.set_cons_zero, List.set_cons_succ, bindT, bindTs, op2, List.contains_nil, List.contains_cons, Nat.reduceBEq, Bool.or_false, Bool.or_self, Bool.not_false, Bool.not_true, Bool.and_true, Bool.true_and, Bool.and_self, List.length_cons, List.length_nil, if_true, List.cons_append, List.nil_append, reduceIte, Nat.reduceLT, Nat.reduceAdd, prD, isD_tt, isD_ti, isD_lt, isD_li, isD_nt, isD_ni, isD_nb, isD_ii, isD_ib, isD_it, isD_bi, isD_bb, isD_bt, sz_0, sz_1, sz_2, sz_3, sz_4, sz_5, sz_6, sz_7, sz_8, sz_9, sz_10, sz_11, sz_12, sz_13, sz_14, sz_15, sz_16, sz_17, sz_18, sz_19, sz_20, is_integer_int, cmpD]
  by_cases h : a ≤ i <;> simp -dsimp only [h, decide_true, decide_false, E_const, E_glob, E_var, E_mov, E_op, E_isn, E_neg, E_notE, E_chain, E_andE, E_orE, E_ite, E_tup, E_lst, E_idx, E_slc, E_cb, E_call, E_callK, E_rng2, rngK_t, rngK_f, E_frz, Es_nil, Es_peek, Es_peekF, Es_star, Es_const, Es_glob, Es_var, Es_mov, Es_op, Es_isn, Es_neg, Es_notE, Es_chain, Es_andE, Es_orE, Es_ite, Es_tup, Es_lst, Es_idx, Es_slc, Es_cb, Es_call, Es_callK, Es_rng, Es_frz, Es_lc, Eb_nil, Eb_one, Ei_nil, Ei_cons, It_seq, It_range, It_enum, It_zip, S_ex, S_asg, S_par, S_seti, S_app, S_ext, S_aug, S_augi, S_ret, S_ifs, S_for_, S_while_, S_never, Ss_nil, Ss_cons, getE_zero, getE_succ, ↓bind_rb, ↓ofR_rb, ↓rbk, ↓ork, rbk, ork, Bool.false_eq_true, if_false, oo_some, ob_some, om_some, getAll, OV.get, OV.refs, nodupN, putBack, set_zero, set_succ, List.set_cons_zero, List.set_cons_succ, bindT, bindTs, op2, List.contains_nil, List.contains_cons, Nat.reduceBEq, Bool.or_false, Bool.or_self, Bool.not_false, Bool.not_true, Bool.and_true, Bool.true_and, Bool.and_self, List.length_cons, List.length_nil, if_true, List.cons_append, List.nil_append, reduceIte, Nat.reduceLT, Nat.reduceAdd, prD, isD_tt, isD_ti, isD_lt, isD_li, isD_nt, isD_ni, isD_nb, isD_ii, isD_ib, isD_it, isD_bi, isD_bb, isD_bt, sz_0, sz_1, sz_2, sz_3, sz_4, sz_5, sz_6, sz_7, sz_8, sz_9, sz_10, sz_11, sz_12, sz_13, sz_14, sz_15, sz_16, sz_17, sz_18, sz_19, sz_20, cmpD, Bool.true_and, Bool.false_and]
/-- floors as they are drawn -/
def Fl (F : List Int) : D := .tup (F.map .int)
def FOk (F : List Int) : Prop := 1 ≤ F.length ∧ F.length ≤ 5 ∧ ∀ x ∈ F, 0 ≤ x ∧ x ≤ 9
theorem are_between_int (k : Nat) (F : List Int) (a b : Int) (hl : F.length ≤ SZ) : runN PQ (k + 3) 2 [Fl F, .int a, .int b] = .ok (.bl (F.all fun i => decide (a ≤ i) && decide (i ≤ b))) [Fl F, .int a, .int b] := by
  refine run_ret (ρ0 := [some (Fl F), some (.int a), some (.int b), none]) (ρ1 := [some (Fl F), some (.int a), some (.int b), none]) rfl rfl rfl rfl ?_ rfl
  have e := ev_lc_map (runN PQ (k + 2)) [3] (.slot 3) (.seq [.peekF 0]) (.frz (.call 1 [.peek 3, .peek 1, .peek 2])) [some (Fl F), some (.int a), some (.int b), none] [some (Fl F), some (.int a), some (.int b), none] F .int
    (fun i => .bl (decide (a ≤ i) && decide (i ≤ b))) (fun i => [some (Fl F), some (.int a), some (.int b), some (.int i)])
    (by simp -dsimp only [E_const, E_glob, E_var, E_mov, E_op, E_isn, E_neg, E_notE, E_chain, E_andE, E_orE, E_ite, E_tup, E_lst, E_idx, E_slc, E_cb, E_call, E_callK, E_rng2, rngK_t, rngK_f, E_frz, Es_nil, Es_peek, Es_peekF, Es_star, Es_const, Es_glob, Es_var, Es_mov, Es_op, Es_isn, Es_neg, Es_notE, Es_chain, Es_andE, Es_orE, Es_ite, Es_tup, Es_lst, Es_idx, Es_slc, Es_cb, Es_call, Es_callK, Es_rng, Es_frz, Es_lc, Eb_nil, Eb_one, Ei_nil, Ei_cons, It_seq, It_range, It_enum, It_zip, S_ex, S_asg, S_par, S_seti, S_app, S_ext, S_aug, S_augi, S_ret, S_ifs, S_for_, S_while_, S_never, Ss_nil, Ss_cons, getE_zero, getE_succ, ↓bind_rb, ↓ofR_rb, ↓rbk, ↓ork, rbk, ork, Bool.false_eq_true, if_false, oo_some, ob_some, om_some, getAll, OV.get, OV.refs, nodupN, putBack, set_zero, set_succ, List.set_cons_zero, List.set_cons_succ, bindT, bindTs, op2, List.contains_nil, List.contains_cons, Nat.reduceBEq, Bool.or_false, Bool.or_self, Bool.not_false, Bool.not_true, Bool.and_true, Bool.true_and, Bool.and_self, List.length_cons, List.length_nil, if_true, List.cons_append, List.nil_append, reduceIte, Nat.reduceLT, Nat.reduceAdd, prD, isD_tt, isD_ti, isD_lt, isD_li, isD_nt, isD_ni, isD_nb, isD_ii, isD_ib, isD_it, isD_bi, isD_bb, isD_bt, sz_0, sz_1, sz_2, sz_3, sz_4, sz_5, sz_6, sz_7, sz_8, sz_9, sz_10, sz_11, sz_12, sz_13, sz_14, sz_15, sz_16, sz_17, sz_18, sz_19, sz_20, Fl, D.frz, frzL_int, itemsAll, itemsOf, D.own, ownL_int, seqOf, seqG]) hl rfl
    (fun i hi => ⟨rfl, by simp -dsimp only [E_const, E_glob, E_var, E_mov, E_op, E_isn, E_neg, E_notE, E_chain, E_andE, E_orE, E_ite, E_tup, E_lst, E_idx, E_slc, E_cb, E_call, E_callK, E_rng2, rngK_t, rngK_f, E_frz, Es_nil, Es_peek, Es_peekF, Es_star, Es_const, Es_glob, Es_var, Es_mov, Es_op, Es_isn, Es_neg, Es_notE, Es_chain, Es_andE, Es_orE, Es_ite, Es_tup, Es_lst, Es_idx, Es_slc, Es_cb, Es_call, Es_callK, Es_rng, Es_frz, Es_lc, Eb_nil, Eb_one, Ei_nil, Ei_cons, It_seq, It_range, It_enum, It_zip, S_ex, S_asg, S_par, S_seti, S_app, S_ext, S_aug, S_augi, S_ret, S_ifs, S_for_, S_while_, S_never, Ss_nil, Ss_cons, getE_zero, getE_succ, ↓bind_rb, ↓ofR_rb, ↓rbk, ↓ork, rbk, ork, Bool.false_eq_true, if_false, oo_some, ob_some, om_some, getAll, OV.get, OV.refs, nodupN, putBack, set_zero, set_succ, List.set_cons_zero, List.set_cons_succ, bindT, bindTs, op2, List.contains_nil, List.contains_cons, Nat.reduceBEq, Bool.or_false, Bool.or_self, Bool.not_false, Bool.not_true, Bool.and_true, Bool.true_and, Bool.and_self, List.length_cons, List.length_nil, if_true, List.cons_append, List.nil_append, reduceIte, Nat.reduceLT, Nat.reduceAdd, prD, isD_tt, isD_ti, isD_lt, isD_li, isD_nt, isD_ni, isD_nb, isD_ii, isD_ib, isD_it, isD_bi, isD_bb, isD_bt, sz_0, sz_1, sz_2, sz_3, sz_4, sz_5, sz_6, sz_7, sz_8, sz_9, sz_10, sz_11, sz_12, sz_13, sz_14, sz_15, sz_16, sz_17, sz_18, sz_19, sz_20, is_between_int, D.frz]⟩) (fun d hd => rfl) (fun d hd => rfl) rfl
  simp only [Fl] at e ⊢
  simp -dsimp only [b_are_between, ↓e, E_const, E_glob, E_var, E_mov, E_op, E_isn, E_neg, E_notE, E_chain, E_andE, E_orE, E_ite, E_tup, E_lst, E_idx, E_slc, E_cb, E_call, E_callK, E_rng2, rngK_t, rngK_f, E_frz, Es_nil, Es_peek, Es_peekF, Es_star, Es_const, Es_glob, Es_var, Es_mov, Es_op, Es_isn, Es_neg, Es_notE, Es_chain, Es_andE, Es_orE, Es_ite, Es_tup, Es_lst, Es_idx, Es_slc, Es_cb, Es_call, Es_callK, Es_rng, Es_frz, Es_lc, Eb_nil, Eb_one, Ei_nil, Ei_cons, It_seq, It_range, It_enum, It_zip, S_ex, S_asg, S_par, S_seti, S_app, S_ext, S_aug, S_augi, S_ret, S_ifs, S_for_, S_while_, S_never, Ss_nil, Ss_cons, getE_zero, getE_succ, ↓bind_rb, ↓ofR_rb, ↓rbk, ↓ork, rbk, ork, Bool.false_eq_true, if_false, oo_some, ob_some, om_some, getAll, OV.get, OV.refs, nodupN, putBack, set_zero, set_succ, List.set_cons_zero, List.set_cons_succ, bindT, bindTs, op2, List.contains_nil, List.contains_cons, Nat.reduceBEq, Bool.or_false, Bool.or_self, Bool.not_false, Bool.not_true, Bool.and_true, Bool.true_and, Bool.and_self, List.length_cons, List.length_nil, if_true, List.cons_append, List.nil_append, reduceIte, Nat.reduceLT, Nat.reduceAdd, prD, isD_tt, isD_ti, isD_lt, isD_li, isD_nt, isD_ni, isD_nb, isD_ii, isD_ib, isD_it, isD_bi, isD_bb, isD_bt, sz_0, sz_1, sz_2, sz_3, sz_4, sz_5, sz_6, sz_7, sz_8, sz_9, sz_10, sz_11, sz_12, sz_13, sz_14, sz_15, sz_16, sz_17, sz_18, sz_19, sz_20, allD_mapf]
end LW
end

section
set_option linter.all false
set_option maxRecDepth 100000
set_option maxHeartbeats 1000000
namespace LW
open Mi
theorem FOk.all {F : List Int} (h : FOk F) : (F.all fun i => decide ((0:Int) ≤ i) && decide (i ≤ 50)) = true := by
  rw [List.all_eq_true]
  intro x hx
  have := h.2.2 x hx
  simp; omega
theorem FOk.sz {F : List Int} (h : FOk F) : F.length ≤ SZ := by have := h.2.1; unfold SZ; omega
theorem check_floors_ok (k : Nat) (F : List Int) (h : FOk F) : runN PQ (k + 4) 3 [Fl F] = .ok .non [Fl F] := by
  refine run_nx (ρ0 := [some (Fl F)]) (ρ1 := [some (Fl F)]) rfl rfl rfl rfl ?_ rfl
  have h1 : (1 : Int) ≤ (F.length : Int) := by have := h.1; omega
  have h2 : (F.length : Int) ≤ 5 := by have := h.2.1; omega
  simp -dsimp only [b_check_floors, E_const, E_glob, E_var, E_mov, E_op, E_isn, E_neg, E_notE, E_chain, E_andE, E_orE, E_ite, E_tup, E_lst, E_idx, E_slc, E_cb, E_call, E_callK, E_rng2, rngK_t, rngK_f, E_frz, Es_nil, Es_peek, Es_peekF, Es_star, Es_const, Es_glob, Es_var, Es_mov, Es_op, Es_isn, Es_neg, Es_notE, Es_chain, Es_andE, Es_orE, Es_ite, Es_tup, Es_lst, Es_idx, Es_slc, Es_cb, Es_call, Es_callK, Es_rng, Es_frz, Es_lc, Eb_nil, Eb_one, Ei_nil, Ei_cons, It_seq, It_range, It_enum, It_zip, S_ex, S_asg, S_par, S_seti, S_app, S_ext, S_aug, S_augi, S_ret, S_ifs, S_for_, S_while_, S_never, Ss_nil, Ss_cons, getE_zero, getE_succ, ↓bind_rb, ↓ofR_rb, ↓rbk, ↓ork, rbk, ork, Bool.false_eq_true, if_false, oo_some, ob_some, om_some, getAll, OV.get, OV.refs, nodupN, putBack, set_zero, set_succ, List.set_cons_zero, List.set_cons_succ, bindT, bindTs, op2, List.contains_nil, List.contains_cons, Nat.reduceBEq, Bool.or_false, Bool.or_self, Bool.not_false, Bool.not_true, Bool.and_true, Bool.true_and, Bool.and_self, List.length_cons, List.length_nil, if_true, List.cons_append, List.nil_append, reduceIte, Nat.reduceLT, Nat.reduceAdd, prD, isD_tt, isD_ti, isD_lt, isD_li, isD_nt, isD_ni, isD_nb, isD_ii, isD_ib, isD_it, isD_bi, isD_bb, isD_bt, sz_0, sz_1, sz_2, sz_3, sz_4, sz_5, sz_6, sz_7, sz_8, sz_9, sz_10, sz_11, sz_12, sz_13, sz_14, sz_15, sz_16, sz_17, sz_18, sz_19, sz_20, are_between_int k F 0 50 h.sz, h.all]
  simp -dsimp only [Fl, E_const, E_glob, E_var, E_mov, E_op, E_isn, E_neg, E_notE, E_chain, E_andE, E_orE, E_ite, E_tup, E_lst, E_idx, E_slc, E_cb, E_call, E_callK, E_rng2, rngK_t, rngK_f, E_frz, Es_nil, Es_peek, Es_peekF, Es_star, Es_const, Es_glob, Es_var, Es_mov, Es_op, Es_isn, Es_neg, Es_notE, Es_chain, Es_andE, Es_orE, Es_ite, Es_tup, Es_lst, Es_idx, Es_slc, Es_cb, Es_call, Es_callK, Es_rng, Es_frz, Es_lc, Eb_nil, Eb_one, Ei_nil, Ei_cons, It_seq, It_range, It_enum, It_zip, S_ex, S_asg, S_par, S_seti, S_app, S_ext, S_aug, S_augi, S_ret, S_ifs, S_for_, S_while_, S_never, Ss_nil, Ss_cons, getE_zero, getE_succ, ↓bind_rb, ↓ofR_rb, ↓rbk, ↓ork, rbk, ork, Bool.false_eq_true, if_false, oo_some, ob_some, om_some, getAll, OV.get, OV.refs, nodupN, putBack, set_zero, set_succ, List.set_cons_zero, List.set_cons_succ, bindT, bindTs, op2, List.contains_nil, List.contains_cons, Nat.reduceBEq, Bool.or_false, Bool.or_self, Bool.not_false, Bool.not_true, Bool.and_true, Bool.true_and, Bool.and_self, List.length_cons, List.length_nil, if_true, List.cons_append, List.nil_append, reduceIte, Nat.reduceLT, Nat.reduceAdd, prD, isD_tt, isD_ti, isD_lt, isD_li, isD_nt, isD_ni, isD_nb, isD_ii, isD_ib, isD_it, isD_bi, isD_bb, isD_bt, sz_0, sz_1, sz_2, sz_3, sz_4, sz_5, sz_6, sz_7, sz_8, sz_9, sz_10, sz_11, sz_12, sz_13, sz_14, sz_15, sz_16, sz_17, sz_18, sz_19, sz_20, lenD, List.length_map, cmpD, decide_eq_true h1, decide_eq_true h2]
theorem check_stair_ok (k : Nat) (F : List Int) (w : Int) (h : FOk F) (h1 : 1 ≤ w) (h2 : w ≤ 20) : runN PQ (k + 5) 4 [Fl F, .int w] = .ok .non [Fl F, .int w] := by
  refine run_nx (ρ0 := [some (Fl F), some (.int w)]) (ρ1 := [some (Fl F), some (.int w)]) rfl rfl rfl rfl ?_ rfl
  simp -dsimp only [b_check_stair, E_const, E_glob, E_var, E_mov, E_op, E_isn, E_neg, E_notE, E_chain, E_andE, E_orE, E_ite, E_tup, E_lst, E_idx, E_slc, E_cb, E_call, E_callK, E_rng2, rngK_t, rngK_f, E_frz, Es_nil, Es_peek, Es_peekF, Es_star, Es_const, Es_glob, Es_var, Es_mov, Es_op, Es_isn, Es_neg, Es_notE, Es_chain, Es_andE, Es_orE, Es_ite, Es_tup, Es_lst, Es_idx, Es_slc, Es_cb, Es_call, Es_callK, Es_rng, Es_frz, Es_lc, Eb_nil, Eb_one, Ei_nil, Ei_cons, It_seq, It_range, It_enum, It_zip, S_ex, S_asg, S_par, S_seti, S_app, S_ext, S_aug, S_augi, S_ret, S_ifs, S_for_, S_while_, S_never, Ss_nil, Ss_cons, getE_zero, getE_succ, ↓bind_rb, ↓ofR_rb, ↓rbk, ↓ork, rbk, ork, Bool.false_eq_true, if_false, oo_some, ob_some, om_some, getAll, OV.get, OV.refs, nodupN, putBack, set_zero, set_succ, List.set_cons_zero, List.set_cons_succ, bindT, bindTs, op2, List.contains_nil, List.contains_cons, Nat.reduceBEq, Bool.or_false, Bool.or_self, Bool.not_false, Bool.not_true, Bool.and_true, Bool.true_and, Bool.and_self, List.length_cons, List.length_nil, if_true, List.cons_append, List.nil_append, reduceIte, Nat.reduceLT, Nat.reduceAdd, prD, isD_tt, isD_ti, isD_lt, isD_li, isD_nt, isD_ni, isD_nb, isD_ii, isD_ib, isD_it, isD_bi, isD_bb, isD_bt, sz_0, sz_1, sz_2, sz_3, sz_4, sz_5, sz_6, sz_7, sz_8, sz_9, sz_10, sz_11, sz_12, sz_13, sz_14, sz_15, sz_16, sz_17, sz_18, sz_19, sz_20, check_floors_ok k F h, is_between_int (k + 2), decide_eq_true h1, decide_eq_true h2]
theorem check_after_ok (k : Nat) (a : Int) (h1 : 0 ≤ a) (h2 : a ≤ 400) : runN PQ (k + 3) 5 [.int a] = .ok .non [.int a] := by
  refine run_nx (ρ0 := [some (.int a)]) (ρ1 := [some (.int a)]) rfl rfl rfl rfl ?_ rfl
  simp -dsimp only [b_check_after, E_const, E_glob, E_var, E_mov, E_op, E_isn, E_neg, E_notE, E_chain, E_andE, E_orE, E_ite, E_tup, E_lst, E_idx, E_slc, E_cb, E_call, E_callK, E_rng2, rngK_t, rngK_f, E_frz, Es_nil, Es_peek, Es_peekF, Es_star, Es_const, Es_glob, Es_var, Es_mov, Es_op, Es_isn, Es_neg, Es_notE, Es_chain, Es_andE, Es_orE, Es_ite, Es_tup, Es_lst, Es_idx, Es_slc, Es_cb, Es_call, Es_callK, Es_rng, Es_frz, Es_lc, Eb_nil, Eb_one, Ei_nil, Ei_cons, It_seq, It_range, It_enum, It_zip, S_ex, S_asg, S_par, S_seti, S_app, S_ext, S_aug, S_augi, S_ret, S_ifs, S_for_, S_while_, S_never, Ss_nil, Ss_cons, getE_zero, getE_succ, ↓bind_rb, ↓ofR_rb, ↓rbk, ↓ork, rbk, ork, Bool.false_eq_true, if_false, oo_some, ob_some, om_some, getAll, OV.get, OV.refs, nodupN, putBack, set_zero, set_succ, List.set_cons_zero, List.set_cons_succ, bindT, bindTs, op2, List.contains_nil, List.contains_cons, Nat.reduceBEq, Bool.or_false, Bool.or_self, Bool.not_false, Bool.not_true, Bool.and_true, Bool.true_and, Bool.and_self, List.length_cons, List.length_nil, if_true, List.cons_append, List.nil_append, reduceIte, Nat.reduceLT, Nat.reduceAdd, prD, isD_tt, isD_ti, isD_lt, isD_li, isD_nt, isD_ni, isD_nb, isD_ii, isD_ib, isD_it, isD_bi, isD_bb, isD_bt, sz_0, sz_1, sz_2, sz_3, sz_4, sz_5, sz_6, sz_7, sz_8, sz_9, sz_10, sz_11, sz_12, sz_13, sz_14, sz_15, sz_16, sz_17, sz_18, sz_19, sz_20, is_between_int k, decide_eq_true h1, decide_eq_true h2]
theorem rounded_up_ok (k : Nat) (n w : Int) (h1 : 0 < w) (h2 : w < 1073741824) : runN PQ (k + 1) 6 [.int n, .int w] = .ok (.int ((n + w - 1) / w)) [.int n, .int w] := by
  refine run_ret (ρ0 := [some (.int n), some (.int w)]) (ρ1 := [some (.int n), some (.int w)]) rfl rfl rfl rfl ?_ rfl
  have h3 : 0 < w ∧ w < 1073741824 := ⟨h1, h2⟩
  simp -dsimp only [b_rounded_up, E_const, E_glob, E_var, E_mov, E_op, E_isn, E_neg, E_notE, E_chain, E_andE, E_orE, E_ite, E_tup, E_lst, E_idx, E_slc, E_cb, E_call, E_callK, E_rng2, rngK_t, rngK_f, E_frz, Es_nil, Es_peek, Es_peekF, Es_star, Es_const, Es_glob, Es_var, Es_mov, Es_op, Es_isn, Es_neg, Es_notE, Es_chain, Es_andE, Es_orE, Es_ite, Es_tup, Es_lst, Es_idx, Es_slc, Es_cb, Es_call, Es_callK, Es_rng, Es_frz, Es_lc, Eb_nil, Eb_one, Ei_nil, Ei_cons, It_seq, It_range, It_enum, It_zip, S_ex, S_asg, S_par, S_seti, S_app, S_ext, S_aug, S_augi, S_ret, S_ifs, S_for_, S_while_, S_never, Ss_nil, Ss_cons, getE_zero, getE_succ, ↓bind_rb, ↓ofR_rb, ↓rbk, ↓ork, rbk, ork, Bool.false_eq_true, if_false, oo_some, ob_some, om_some, getAll, OV.get, OV.refs, nodupN, putBack, set_zero, set_succ, List.set_cons_zero, List.set_cons_succ, bindT, bindTs, op2, List.contains_nil, List.contains_cons, Nat.reduceBEq, Bool.or_false, Bool.or_self, Bool.not_false, Bool.not_true, Bool.and_true, Bool.true_and, Bool.and_self, List.length_cons, List.length_nil, if_true, List.cons_append, List.nil_append, reduceIte, Nat.reduceLT, Nat.reduceAdd, prD, isD_tt, isD_ti, isD_lt, isD_li, isD_nt, isD_ni, isD_nb, isD_ii, isD_ib, isD_it, isD_bi, isD_bb, isD_bt, sz_0, sz_1, sz_2, sz_3, sz_4, sz_5, sz_6, sz_7, sz_8, sz_9, sz_10, sz_11, sz_12, sz_13, sz_14, sz_15, sz_16, sz_17, sz_18, sz_19, sz_20, addD, subD, fdivD, if_pos h3]
/-- the people on a floor and all above it -/
def S (F : List Int) (j : Nat) : Int := (F.drop j).sum
def need (F : List Int) (w : Int) (j : Nat) : Int := if 0 < S F j then (j : Int) + (S F j + w - 1) / w else 0
def needL (F : List Int) (w : Int) (n : Nat) : List D := (List.range n).map fun j => .tup [.int (need F w j), .int ((j : Int) + 1)]
theorem needL_succ (F : List Int) (w : Int) (n : Nat) : needL F w (n + 1) = needL F w n ++ [.tup [.int (need F w n), .int ((n : Int) + 1)]] := by
  simp [needL, List.range_succ]
theorem needs_ok (k : Nat) (F : List Int) (w : Int) (hl : F.length ≤ SZ) (h1 : 0 < w) (h2 : w < 1073741824) : runN PQ (k + 2) 7 [Fl F, .int w] = .ok (.lst true (needL F w F.length)) [Fl F, .int w] := by
  have step : ∀ j (hj : j < ((List.range F.length).map fun j : Nat => D.int (j : Int)).length) ρ, (∃ o3 o4, ρ = [some (Fl F), some (.int w), some (.lst true (needL F w j)), o3, o4]) →
      ∃ ρ1 ρ2, bindT [0, 1] (.slot 3) ((List.range F.length).map fun j : Nat => D.int (j : Int))[j] ρ = some ρ1 ∧
        exSs (runN PQ (k + 1)) [0, 1] [.asg (.slot 4) (.cb .sum [.slc [.peek 0] [.var 3] []]), .app 2 (.tup [.frz (.ite (.op .gt [.peek 4, .const (.int 0)]) (.op .add [.peek 3, .call 6 [.peek 4, .peek 1]]) (.const (.int 0))), .op .add [.peek 3, .const (.int 1)]])] ρ1 = .nx ρ2 ∧
        ∃ o3 o4, ρ2 = [some (Fl F), some (.int w), some (.lst true (needL F w (j + 1))), o3, o4] := by
    rintro j hj ρ ⟨o3, o4, rfl⟩
    have hj' : j < F.length := by simpa using hj
    have hz : (needL F w j).length < SZ := by simp [needL]; omega
    refine ⟨[some (Fl F), some (.int w), some (.lst true (needL F w j)), some (.int j), o4], [some (Fl F), some (.int w), some (.lst true (needL F w (j + 1))), some (.int j), some (.int (S F j))], ?_, ?_, ⟨some (.int j), some (.int (S F j)), ?_⟩⟩
    · simp [E_const, E_glob, E_var, E_mov, E_op, E_isn, E_neg, E_notE, E_chain, E_andE, E_orE, E_ite, E_tup, E_lst, E_idx, E_slc, E_cb, E_call, E_callK, E_rng2, rngK_t, rngK_f, E_frz, Es_nil, Es_peek, Es_peekF, Es_star, Es_const, Es_glob, Es_var, Es_mov, Es_op, Es_isn, Es_neg, Es_notE, Es_chain, Es_andE, Es_orE, Es_ite, Es_tup, Es_lst, Es_idx, Es_slc, Es_cb, Es_call, Es_callK, Es_rng, Es_frz, Es_lc, Eb_nil, Eb_one, Ei_nil, Ei_cons, It_seq, It_range, It_enum, It_zip, S_ex, S_asg, S_par, S_seti, S_app, S_ext, S_aug, S_augi, S_ret, S_ifs, S_for_, S_while_, S_never, Ss_nil, Ss_cons, getE_zero, getE_succ, ↓bind_rb, ↓ofR_rb, ↓rbk, ↓ork, rbk, ork, Bool.false_eq_true, if_false, oo_some, ob_some, om_some, getAll, OV.get, OV.refs, nodupN, putBack, set_zero, set_succ, List.set_cons_zero, List.set_cons_succ, bindT, bindTs, op2, List.contains_nil, List.contains_cons, Nat.reduceBEq, Bool.or_false, Bool.or_self, Bool.not_false, Bool.not_true, Bool.and_true, Bool.true_and, Bool.and_self, List.length_cons, List.length_nil, if_true, List.cons_append, List.nil_append, reduceIte, Nat.reduceLT, Nat.reduceAdd, prD, isD_tt, isD_ti, isD_lt, isD_li, isD_nt, isD_ni, isD_nb, isD_ii, isD_ib, isD_it, isD_bi, isD_bb, isD_bt, sz_0, sz_1, sz_2, sz_3, sz_4, sz_5, sz_6, sz_7, sz_8, sz_9, sz_10, sz_11, sz_12, sz_13, sz_14, sz_15, sz_16, sz_17, sz_18, sz_19, sz_20]
    · simp -dsimp only [E_const, E_glob, E_var, E_mov, E_op, E_isn, E_neg, E_notE, E_chain, E_andE, E_orE, E_ite, E_tup, E_lst, E_idx, E_slc, E_cb, E_call, E_callK, E_rng2, rngK_t, rngK_f, E_frz, Es_nil, Es_peek, Es_peekF, Es_star, Es_const, Es_glob, Es_var, Es_mov, Es_op, Es_isn, Es_neg, Es_notE, Es_chain, Es_andE, Es_orE, Es_ite, Es_tup, Es_lst, Es_idx, Es_slc, Es_cb, Es_call, Es_callK, Es_rng, Es_frz, Es_lc, Eb_nil, Eb_one, Ei_nil, Ei_cons, It_seq, It_range, It_enum, It_zip, S_ex, S_asg, S_par, S_seti, S_app, S_ext, S_aug, S_augi, S_ret, S_ifs, S_for_, S_while_, S_never, Ss_nil, Ss_cons, getE_zero, getE_succ, ↓bind_rb, ↓ofR_rb, ↓rbk, ↓ork, rbk, ork, Bool.false_eq_true, if_false, oo_some, ob_some, om_some, getAll, OV.get, OV.refs, nodupN, putBack, set_zero, set_succ, List.set_cons_zero, List.set_cons_succ, bindT, bindTs, op2, List.contains_nil, List.contains_cons, Nat.reduceBEq, Bool.or_false, Bool.or_self, Bool.not_false, Bool.not_true, Bool.and_true, Bool.true_and, Bool.and_self, List.length_cons, List.length_nil, if_true, List.cons_append, List.nil_append, reduceIte, Nat.reduceLT, Nat.reduceAdd, prD, isD_tt, isD_ti, isD_lt, isD_li, isD_nt, isD_ni, isD_nb, isD_ii, isD_ib, isD_it, isD_bi, isD_bb, isD_bt, sz_0, sz_1, sz_2, sz_3, sz_4, sz_5, sz_6, sz_7, sz_8, sz_9, sz_10, sz_11, sz_12, sz_13, sz_14, sz_15, sz_16, sz_17, sz_18, sz_19, sz_20, D.own, Fl, slcD, ownL_int, cut_lo, ← List.map_drop, sum_map, isOwnL, cmpD, addD, rounded_up_ok k _ w h1 h2]
      by_cases hp : 0 < (F.drop j).sum
      · simp -dsimp only [hp, decide_true, E_const, E_glob, E_var, E_mov, E_op, E_isn, E_neg, E_notE, E_chain, E_andE, E_orE, E_ite, E_tup, E_lst, E_idx, E_slc, E_cb, E_call, E_callK, E_rng2, rngK_t, rngK_f, E_frz, Es_nil, Es_peek, Es_peekF, Es_star, Es_const, Es_glob, Es_var, Es_mov, Es_op, Es_isn, Es_neg, Es_notE, Es_chain, Es_andE, Es_orE, Es_ite, Es_tup, Es_lst, Es_idx, Es_slc, Es_cb, Es_call, Es_callK, Es_rng, Es_frz, Es_lc, Eb_nil, Eb_one, Ei_nil, Ei_cons, It_seq, It_range, It_enum, It_zip, S_ex, S_asg, S_par, S_seti, S_app, S_ext, S_aug, S_augi, S_ret, S_ifs, S_for_, S_while_, S_never, Ss_nil, Ss_cons, getE_zero, getE_succ, ↓bind_rb, ↓ofR_rb, ↓rbk, ↓ork, rbk, ork, Bool.false_eq_true, if_false, oo_some, ob_some, om_some, getAll, OV.get, OV.refs, nodupN, putBack, set_zero, set_succ, List.set_cons_zero, List.set_cons_succ, bindT, bindTs, op2, List.contains_nil, List.contains_cons, Nat.reduceBEq, Bool.or_false, Bool.or_self, Bool.not_false, Bool.not_true, Bool.and_true, Bool.true_and, Bool.and_self, List.length_cons, List.length_nil, if_true, List.cons_append, List.nil_append, reduceIte, Nat.reduceLT, Nat.reduceAdd, prD, isD_tt, isD_ti, isD_lt, isD_li, isD_nt, isD_ni, isD_nb, isD_ii, isD_ib, isD_it, isD_bi, isD_bb, isD_bt, sz_0, sz_1, sz_2, sz_3, sz_4, sz_5, sz_6, sz_7, sz_8, sz_9, sz_10, sz_11, sz_12, sz_13, sz_14, sz_15, sz_16, sz_17, sz_18, sz_19, sz_20, rounded_up_ok k _ w h1 h2, addD, D.frz, hz]
        simp [needL_succ, need, S, hp]
      · simp -dsimp only [hp, decide_false, E_const, E_glob, E_var, E_mov, E_op, E_isn, E_neg, E_notE, E_chain, E_andE, E_orE, E_ite, E_tup, E_lst, E_idx, E_slc, E_cb, E_call, E_callK, E_rng2, rngK_t, rngK_f, E_frz, Es_nil, Es_peek, Es_peekF, Es_star, Es_const, Es_glob, Es_var, Es_mov, Es_op, Es_isn, Es_neg, Es_notE, Es_chain, Es_andE, Es_orE, Es_ite, Es_tup, Es_lst, Es_idx, Es_slc, Es_cb, Es_call, Es_callK, Es_rng, Es_frz, Es_lc, Eb_nil, Eb_one, Ei_nil, Ei_cons, It_seq, It_range, It_enum, It_zip, S_ex, S_asg, S_par, S_seti, S_app, S_ext, S_aug, S_augi, S_ret, S_ifs, S_for_, S_while_, S_never, Ss_nil, Ss_cons, getE_zero, getE_succ, ↓bind_rb, ↓ofR_rb, ↓rbk, ↓ork, rbk, ork, Bool.false_eq_true, if_false, oo_some, ob_some, om_some, getAll, OV.get, OV.refs, nodupN, putBack, set_zero, set_succ, List.set_cons_zero, List.set_cons_succ, bindT, bindTs, op2, List.contains_nil, List.contains_cons, Nat.reduceBEq, Bool.or_false, Bool.or_self, Bool.not_false, Bool.not_true, Bool.and_true, Bool.true_and, Bool.and_self, List.length_cons, List.length_nil, if_true, List.cons_append, List.nil_append, reduceIte, Nat.reduceLT, Nat.reduceAdd, prD, isD_tt, isD_ti, isD_lt, isD_li, isD_nt, isD_ni, isD_nb, isD_ii, isD_ib, isD_it, isD_bi, isD_bb, isD_bt, sz_0, sz_1, sz_2, sz_3, sz_4, sz_5, sz_6, sz_7, sz_8, sz_9, sz_10, sz_11, sz_12, sz_13, sz_14, sz_15, sz_16, sz_17, sz_18, sz_19, sz_20, D.frz, addD, hz]
        simp [needL_succ, need, S, hp]
    · rfl
  obtain ⟨ρ', e, o3, o4, rfl⟩ := forL_inv0 [0, 1] (.slot 3) (exSs (runN PQ (k + 1)) [0, 1] [.asg (.slot 4) (.cb .sum [.slc [.peek 0] [.var 3] []]), .app 2 (.tup [.frz (.ite (.op .gt [.peek 4, .const (.int 0)]) (.op .add [.peek 3, .call 6 [.peek 4, .peek 1]]) (.const (.int 0))), .op .add [.peek 3, .const (.int 1)]])])
    (fun j ρ => ∃ o3 o4, ρ = [some (Fl F), some (.int w), some (.lst true (needL F w j)), o3, o4]) ((List.range F.length).map fun j : Nat => D.int (j : Int)) F.length (by simp) [some (Fl F), some (.int w), some (.lst true []), none, none] ⟨none, none, rfl⟩ step
  refine run_ret (lk := [0, 1]) (ρ0 := [some (Fl F), some (.int w), none, none, none]) (ρ1 := [some (Fl F), some (.int w), none, o3, o4]) rfl rfl rfl rfl ?_ rfl
  have h0 : (0 : Nat) ≤ SZ := by unfold SZ; omega
  have hr := rangeOf_nat F.length hl
  simp -dsimp only [b_needs_of, E_const, E_glob, E_var, E_mov, E_op, E_isn, E_neg, E_notE, E_chain, E_andE, E_orE, E_ite, E_tup, E_lst, E_idx, E_slc, E_cb, E_call, E_callK, E_rng2, rngK_t, rngK_f, E_frz, Es_nil, Es_peek, Es_peekF, Es_star, Es_const, Es_glob, Es_var, Es_mov, Es_op, Es_isn, Es_neg, Es_notE, Es_chain, Es_andE, Es_orE, Es_ite, Es_tup, Es_lst, Es_idx, Es_slc, Es_cb, Es_call, Es_callK, Es_rng, Es_frz, Es_lc, Eb_nil, Eb_one, Ei_nil, Ei_cons, It_seq, It_range, It_enum, It_zip, S_ex, S_asg, S_par, S_seti, S_app, S_ext, S_aug, S_augi, S_ret, S_ifs, S_for_, S_while_, S_never, Ss_nil, Ss_cons, getE_zero, getE_succ, ↓bind_rb, ↓ofR_rb, ↓rbk, ↓ork, rbk, ork, Bool.false_eq_true, if_false, oo_some, ob_some, om_some, getAll, OV.get, OV.refs, nodupN, putBack, set_zero, set_succ, List.set_cons_zero, List.set_cons_succ, bindT, bindTs, op2, List.contains_nil, List.contains_cons, Nat.reduceBEq, Bool.or_false, Bool.or_self, Bool.not_false, Bool.not_true, Bool.and_true, Bool.true_and, Bool.and_self, List.length_cons, List.length_nil, if_true, List.cons_append, List.nil_append, reduceIte, Nat.reduceLT, Nat.reduceAdd, prD, isD_tt, isD_ti, isD_lt, isD_li, isD_nt, isD_ni, isD_nb, isD_ii, isD_ib, isD_it, isD_bi, isD_bb, isD_bt, sz_0, sz_1, sz_2, sz_3, sz_4, sz_5, sz_6, sz_7, sz_8, sz_9, sz_10, sz_11, sz_12, sz_13, sz_14, sz_15, sz_16, sz_17, sz_18, sz_19, sz_20, h0, Fl, lenD, List.length_map, hr]
  simp only [Fl] at e
  simp -dsimp only [e, E_const, E_glob, E_var, E_mov, E_op, E_isn, E_neg, E_notE, E_chain, E_andE, E_orE, E_ite, E_tup, E_lst, E_idx, E_slc, E_cb, E_call, E_callK, E_rng2, rngK_t, rngK_f, E_frz, Es_nil, Es_peek, Es_peekF, Es_star, Es_const, Es_glob, Es_var, Es_mov, Es_op, Es_isn, Es_neg, Es_notE, Es_chain, Es_andE, Es_orE, Es_ite, Es_tup, Es_lst, Es_idx, Es_slc, Es_cb, Es_call, Es_callK, Es_rng, Es_frz, Es_lc, Eb_nil, Eb_one, Ei_nil, Ei_cons, It_seq, It_range, It_enum, It_zip, S_ex, S_asg, S_par, S_seti, S_app, S_ext, S_aug, S_augi, S_ret, S_ifs, S_for_, S_while_, S_never, Ss_nil, Ss_cons, getE_zero, getE_succ, ↓bind_rb, ↓ofR_rb, ↓rbk, ↓ork, rbk, ork, Bool.false_eq_true, if_false, oo_some, ob_some, om_some, getAll, OV.get, OV.refs, nodupN, putBack, set_zero, set_succ, List.set_cons_zero, List.set_cons_succ, bindT, bindTs, op2, List.contains_nil, List.contains_cons, Nat.reduceBEq, Bool.or_false, Bool.or_self, Bool.not_false, Bool.not_true, Bool.and_true, Bool.true_and, Bool.and_self, List.length_cons, List.length_nil, if_true, List.cons_append, List.nil_append, reduceIte, Nat.reduceLT, Nat.reduceAdd, prD, isD_tt, isD_ti, isD_lt, isD_li, isD_nt, isD_ni, isD_nb, isD_ii, isD_ib, isD_it, isD_bi, isD_bb, isD_bt, sz_0, sz_1, sz_2, sz_3, sz_4, sz_5, sz_6, sz_7, sz_8, sz_9, sz_10, sz_11, sz_12, sz_13, sz_14, sz_15, sz_16, sz_17, sz_18, sz_19, sz_20]
end LW
end

section
set_option linter.all false
set_option maxRecDepth 100000
set_option maxHeartbeats 1000000
namespace LW
open Mi
/-- m is the greatest of all needs -/
def IsL (F : List Int) (w m : Int) : Prop := (∃ j, j < F.length ∧ need F w j = m) ∧ ∀ j, j < F.length → need F w j ≤ m
theorem frz_needL (F : List Int) (w : Int) (n : Nat) : frzL (needL F w n) = needL F w n := frzL_map _ _ fun _ _ => rfl
theorem own_needL (F : List Int) (w : Int) (n : Nat) : ownL (needL F w n) = false := ownL_map _ _ fun _ _ => rfl
theorem it_needs (Φ : Fns) (F : List Int) (w : Int) (r : Env) (c7 : Φ 7 [Fl F, .int w] = .ok (.lst true (needL F w F.length)) [Fl F, .int w]) : evIt Φ (.seq [.call 7 [.peek 0, .peek 1]]) (some (Fl F) :: some (.int w) :: r) = .ok ((List.range F.length).map (fun j => .tup [.int (need F w j), .int ((j : Int) + 1)])) (some (Fl F) :: some (.int w) :: r) := by
  simp -dsimp only [E_const, E_glob, E_var, E_mov, E_op, E_isn, E_neg, E_notE, E_chain, E_andE, E_orE, E_ite, E_tup, E_lst, E_idx, E_slc, E_cb, E_call, E_callK, E_rng2, rngK_t, rngK_f, E_frz, Es_nil, Es_peek, Es_peekF, Es_star, Es_const, Es_glob, Es_var, Es_mov, Es_op, Es_isn, Es_neg, Es_notE, Es_chain, Es_andE, Es_orE, Es_ite, Es_tup, Es_lst, Es_idx, Es_slc, Es_cb, Es_call, Es_callK, Es_rng, Es_frz, Es_lc, Eb_nil, Eb_one, Ei_nil, Ei_cons, It_seq, It_range, It_enum, It_zip, S_ex, S_asg, S_par, S_seti, S_app, S_ext, S_aug, S_augi, S_ret, S_ifs, S_for_, S_while_, S_never, Ss_nil, Ss_cons, getE_zero, getE_succ, ↓bind_rb, ↓ofR_rb, ↓rbk, ↓ork, rbk, ork, Bool.false_eq_true, if_false, oo_some, ob_some, om_some, getAll, OV.get, OV.refs, nodupN, putBack, set_zero, set_succ, List.set_cons_zero, List.set_cons_succ, bindT, bindTs, op2, List.contains_nil, List.contains_cons, Nat.reduceBEq, Bool.or_false, Bool.or_self, Bool.not_false, Bool.not_true, Bool.and_true, Bool.true_and, Bool.and_self, List.length_cons, List.length_nil, if_true, List.cons_append, List.nil_append, reduceIte, Nat.reduceLT, Nat.reduceAdd, prD, isD_tt, isD_ti, isD_lt, isD_li, isD_nt, isD_ni, isD_nb, isD_ii, isD_ib, isD_it, isD_bi, isD_bb, isD_bt, sz_0, sz_1, sz_2, sz_3, sz_4, sz_5, sz_6, sz_7, sz_8, sz_9, sz_10, sz_11, sz_12, sz_13, sz_14, sz_15, sz_16, sz_17, sz_18, sz_19, sz_20, c7, itemsAll, itemsOf, seqOf, frz_needL, seqG]; rfl
theorem least_b (Φ : Fns) (F : List Int) (w m : Int) (hl : F.length ≤ SZ) (hm : IsL F w m) (c7 : Φ 7 [Fl F, .int w] = .ok (.lst true (needL F w F.length)) [Fl F, .int w]) : exSs Φ [0,1] b_least_of [some (Fl F), some (.int w), none, none] = .ret (.int m) [some (Fl F), some (.int w), none, none] := by
  have e := ev_lc_map Φ [2, 3] (.tup [.slot 2, .slot 3]) (.seq [.call 7 [.peek 0, .peek 1]]) (.var 2) [some (Fl F), some (.int w), none, none] [some (Fl F), some (.int w), none, none]
    (List.range F.length) (fun j => .tup [.int (need F w j), .int ((j : Int) + 1)]) (fun j => .int (need F w j)) (fun j => [some (Fl F), some (.int w), some (.int (need F w j)), some (.int ((j : Int) + 1))])
    (it_needs Φ F w _ c7) (by simpa using hl) rfl
    (fun j hj => ⟨rfl, by simp -dsimp only [E_const, E_glob, E_var, E_mov, E_op, E_isn, E_neg, E_notE, E_chain, E_andE, E_orE, E_ite, E_tup, E_lst, E_idx, E_slc, E_cb, E_call, E_callK, E_rng2, rngK_t, rngK_f, E_frz, Es_nil, Es_peek, Es_peekF, Es_star, Es_const, Es_glob, Es_var, Es_mov, Es_op, Es_isn, Es_neg, Es_notE, Es_chain, Es_andE, Es_orE, Es_ite, Es_tup, Es_lst, Es_idx, Es_slc, Es_cb, Es_call, Es_callK, Es_rng, Es_frz, Es_lc, Eb_nil, Eb_one, Ei_nil, Ei_cons, It_seq, It_range, It_enum, It_zip, S_ex, S_asg, S_par, S_seti, S_app, S_ext, S_aug, S_augi, S_ret, S_ifs, S_for_, S_while_, S_never, Ss_nil, Ss_cons, getE_zero, getE_succ, ↓bind_rb, ↓ofR_rb, ↓rbk, ↓ork, rbk, ork, Bool.false_eq_true, if_false, oo_some, ob_some, om_some, getAll, OV.get, OV.refs, nodupN, putBack, set_zero, set_succ, List.set_cons_zero, List.set_cons_succ, bindT, bindTs, op2, List.contains_nil, List.contains_cons, Nat.reduceBEq, Bool.or_false, Bool.or_self, Bool.not_false, Bool.not_true, Bool.and_true, Bool.true_and, Bool.and_self, List.length_cons, List.length_nil, if_true, List.cons_append, List.nil_append, reduceIte, Nat.reduceLT, Nat.reduceAdd, prD, isD_tt, isD_ti, isD_lt, isD_li, isD_nt, isD_ni, isD_nb, isD_ii, isD_ib, isD_it, isD_bi, isD_bb, isD_bt, sz_0, sz_1, sz_2, sz_3, sz_4, sz_5, sz_6, sz_7, sz_8, sz_9, sz_10, sz_11, sz_12, sz_13, sz_14, sz_15, sz_16, sz_17, sz_18, sz_19, sz_20, D.own]⟩) (fun d hd => rfl) (fun d hd => rfl) rfl
  have e2 := max1_is true ((List.range F.length).map (need F w)) m (by obtain ⟨j, h, q⟩ := hm.1; simp only [List.mem_map, List.mem_range]; exact ⟨j, h, q⟩)
    (by intro x hx; simp only [List.mem_map, List.mem_range] at hx; obtain ⟨j, h, rfl⟩ := hx; exact hm.2 j h)
  rw [List.map_map] at e2
  have e3 : max1 (.lst true ((List.range F.length).map fun j => D.int (need F w j))) = some (.int m) := e2
  simp -dsimp only [b_least_of, ↓e, E_const, E_glob, E_var, E_mov, E_op, E_isn, E_neg, E_notE, E_chain, E_andE, E_orE, E_ite, E_tup, E_lst, E_idx, E_slc, E_cb, E_call, E_callK, E_rng2, rngK_t, rngK_f, E_frz, Es_nil, Es_peek, Es_peekF, Es_star, Es_const, Es_glob, Es_var, Es_mov, Es_op, Es_isn, Es_neg, Es_notE, Es_chain, Es_andE, Es_orE, Es_ite, Es_tup, Es_lst, Es_idx, Es_slc, Es_cb, Es_call, Es_callK, Es_rng, Es_frz, Es_lc, Eb_nil, Eb_one, Ei_nil, Ei_cons, It_seq, It_range, It_enum, It_zip, S_ex, S_asg, S_par, S_seti, S_app, S_ext, S_aug, S_augi, S_ret, S_ifs, S_for_, S_while_, S_never, Ss_nil, Ss_cons, getE_zero, getE_succ, ↓bind_rb, ↓ofR_rb, ↓rbk, ↓ork, rbk, ork, Bool.false_eq_true, if_false, oo_some, ob_some, om_some, getAll, OV.get, OV.refs, nodupN, putBack, set_zero, set_succ, List.set_cons_zero, List.set_cons_succ, bindT, bindTs, op2, List.contains_nil, List.contains_cons, Nat.reduceBEq, Bool.or_false, Bool.or_self, Bool.not_false, Bool.not_true, Bool.and_true, Bool.true_and, Bool.and_self, List.length_cons, List.length_nil, if_true, List.cons_append, List.nil_append, reduceIte, Nat.reduceLT, Nat.reduceAdd, prD, isD_tt, isD_ti, isD_lt, isD_li, isD_nt, isD_ni, isD_nb, isD_ii, isD_ib, isD_it, isD_bi, isD_bb, isD_bt, sz_0, sz_1, sz_2, sz_3, sz_4, sz_5, sz_6, sz_7, sz_8, sz_9, sz_10, sz_11, sz_12, sz_13, sz_14, sz_15, sz_16, sz_17, sz_18, sz_19, sz_20, e3]
theorem least_ok (k : Nat) (F : List Int) (w m : Int) (hl : F.length ≤ SZ) (h1 : 0 < w) (h2 : w < 1073741824) (hm : IsL F w m) : runN PQ (k + 3) 8 [Fl F, .int w] = .ok (.int m) [Fl F, .int w] := by
  refine run_ret (lk := [0, 1]) (ρ0 := [some (Fl F), some (.int w), none, none]) (ρ1 := [some (Fl F), some (.int w), none, none]) rfl rfl rfl rfl ?_ rfl
  exact least_b _ F w m hl hm (needs_ok k F w hl h1 h2)
theorem need_nonneg (F : List Int) (w : Int) (j : Nat) (h1 : 0 < w) : 0 ≤ need F w j := by
  unfold need
  split
  · rename_i h
    have : 0 ≤ (S F j + w - 1) / w := Int.ediv_nonneg (by omega) (by omega)
    omega
  · omega
theorem told_b0 (Φ : Fns) (F : List Int) (w : Int) (c4 : Φ 4 [Fl F, .int w] = .ok .non [Fl F, .int w]) (c8 : Φ 8 [Fl F, .int w] = .ok (.int 0) [Fl F, .int w]) :
    exSs Φ [0, 1] b_down_told [some (Fl F), some (.int w), none, none, none] = .ret (.tup [.int 0, .non]) [some (Fl F), some (.int w), some (.int 0), none, none] := by
  have hP0 : PySem.SeqAt.shaped (PySem.PyData.int 0) = true := rfl
  simp -dsimp only [b_down_told, E_const, E_glob, E_var, E_mov, E_op, E_isn, E_neg, E_notE, E_chain, E_andE, E_orE, E_ite, E_tup, E_lst, E_idx, E_slc, E_cb, E_call, E_callK, E_rng2, rngK_t, rngK_f, E_frz, Es_nil, Es_peek, Es_peekF, Es_star, Es_const, Es_glob, Es_var, Es_mov, Es_op, Es_isn, Es_neg, Es_notE, Es_chain, Es_andE, Es_orE, Es_ite, Es_tup, Es_lst, Es_idx, Es_slc, Es_cb, Es_call, Es_callK, Es_rng, Es_frz, Es_lc, Eb_nil, Eb_one, Ei_nil, Ei_cons, It_seq, It_range, It_enum, It_zip, S_ex, S_asg, S_par, S_seti, S_app, S_ext, S_aug, S_augi, S_ret, S_ifs, S_for_, S_while_, S_never, Ss_nil, Ss_cons, getE_zero, getE_succ, ↓bind_rb, ↓ofR_rb, ↓rbk, ↓ork, rbk, ork, Bool.false_eq_true, if_false, oo_some, ob_some, om_some, getAll, OV.get, OV.refs, nodupN, putBack, set_zero, set_succ, List.set_cons_zero, List.set_cons_succ, bindT, bindTs, op2, List.contains_nil, List.contains_cons, Nat.reduceBEq, Bool.or_false, Bool.or_self, Bool.not_false, Bool.not_true, Bool.and_true, Bool.true_and, Bool.and_self, List.length_cons, List.length_nil, if_true, List.cons_append, List.nil_append, reduceIte, Nat.reduceLT, Nat.reduceAdd, prD, isD_tt, isD_ti, isD_lt, isD_li, isD_nt, isD_ni, isD_nb, isD_ii, isD_ib, isD_it, isD_bi, isD_bb, isD_bt, sz_0, sz_1, sz_2, sz_3, sz_4, sz_5, sz_6, sz_7, sz_8, sz_9, sz_10, sz_11, sz_12, sz_13, sz_14, sz_15, sz_16, sz_17, sz_18, sz_19, sz_20, c4, c8, eqD, D.isPd, D.pd, hP0, PySem.PyData.eqv, beq_self_eq_true]
theorem told_b (Φ : Fns) (F : List Int) (w m : Int) (hl : F.length ≤ SZ) (c4 : Φ 4 [Fl F, .int w] = .ok .non [Fl F, .int w]) (c7 : Φ 7 [Fl F, .int w] = .ok (.lst true (needL F w F.length)) [Fl F, .int w]) (c8 : Φ 8 [Fl F, .int w] = .ok (.int m) [Fl F, .int w]) (hm : IsL F w m) (hz : m ≠ 0) :
    ∃ j : Nat, j < F.length ∧ need F w j = m ∧ exSs Φ [0, 1] b_down_told [some (Fl F), some (.int w), none, none, none] = .ret (.tup [.int m, .int ((j : Int) + 1)]) [some (Fl F), some (.int w), some (.int m), none, none] := by
  have hP : PySem.SeqAt.shaped (PySem.PyData.int m) = true := rfl
  have hP0 : PySem.SeqAt.shaped (PySem.PyData.int 0) = true := rfl
  have e := ev_lc_if Φ [3, 4] (.tup [.slot 3, .slot 4]) (.seq [.call 7 [.peek 0, .peek 1]]) (.op .eq [.peek 3, .peek 2]) (.var 4) [some (Fl F), some (.int w), some (.int m), none, none] [some (Fl F), some (.int w), some (.int m), none, none]
    (List.range F.length) (fun j => .tup [.int (need F w j), .int ((j : Int) + 1)]) (fun j => need F w j == m) (fun j => .int ((j : Int) + 1)) (fun j => [some (Fl F), some (.int w), some (.int m), some (.int (need F w j)), some (.int ((j : Int) + 1))])
    (it_needs Φ F w _ c7) (by simpa using hl) rfl
    (fun j hj => ⟨rfl, by
      have hP2 : PySem.SeqAt.shaped (PySem.PyData.int (need F w j)) = true := rfl
      simp -dsimp only [E_const, E_glob, E_var, E_mov, E_op, E_isn, E_neg, E_notE, E_chain, E_andE, E_orE, E_ite, E_tup, E_lst, E_idx, E_slc, E_cb, E_call, E_callK, E_rng2, rngK_t, rngK_f, E_frz, Es_nil, Es_peek, Es_peekF, Es_star, Es_const, Es_glob, Es_var, Es_mov, Es_op, Es_isn, Es_neg, Es_notE, Es_chain, Es_andE, Es_orE, Es_ite, Es_tup, Es_lst, Es_idx, Es_slc, Es_cb, Es_call, Es_callK, Es_rng, Es_frz, Es_lc, Eb_nil, Eb_one, Ei_nil, Ei_cons, It_seq, It_range, It_enum, It_zip, S_ex, S_asg, S_par, S_seti, S_app, S_ext, S_aug, S_augi, S_ret, S_ifs, S_for_, S_while_, S_never, Ss_nil, Ss_cons, getE_zero, getE_succ, ↓bind_rb, ↓ofR_rb, ↓rbk, ↓ork, rbk, ork, Bool.false_eq_true, if_false, oo_some, ob_some, om_some, getAll, OV.get, OV.refs, nodupN, putBack, set_zero, set_succ, List.set_cons_zero, List.set_cons_succ, bindT, bindTs, op2, List.contains_nil, List.contains_cons, Nat.reduceBEq, Bool.or_false, Bool.or_self, Bool.not_false, Bool.not_true, Bool.and_true, Bool.true_and, Bool.and_self, List.length_cons, List.length_nil, if_true, List.cons_append, List.nil_append, reduceIte, Nat.reduceLT, Nat.reduceAdd, prD, isD_tt, isD_ti, isD_lt, isD_li, isD_nt, isD_ni, isD_nb, isD_ii, isD_ib, isD_it, isD_bi, isD_bb, isD_bt, sz_0, sz_1, sz_2, sz_3, sz_4, sz_5, sz_6, sz_7, sz_8, sz_9, sz_10, sz_11, sz_12, sz_13, sz_14, sz_15, sz_16, sz_17, sz_18, sz_19, sz_20, eqD, D.isPd, D.pd, PySem.PyData.eqv, hP, hP2], fun _ => by simp -dsimp only [E_const, E_glob, E_var, E_mov, E_op, E_isn, E_neg, E_notE, E_chain, E_andE, E_orE, E_ite, E_tup, E_lst, E_idx, E_slc, E_cb, E_call, E_callK, E_rng2, rngK_t, rngK_f, E_frz, Es_nil, Es_peek, Es_peekF, Es_star, Es_const, Es_glob, Es_var, Es_mov, Es_op, Es_isn, Es_neg, Es_notE, Es_chain, Es_andE, Es_orE, Es_ite, Es_tup, Es_lst, Es_idx, Es_slc, Es_cb, Es_call, Es_callK, Es_rng, Es_frz, Es_lc, Eb_nil, Eb_one, Ei_nil, Ei_cons, It_seq, It_range, It_enum, It_zip, S_ex, S_asg, S_par, S_seti, S_app, S_ext, S_aug, S_augi, S_ret, S_ifs, S_for_, S_while_, S_never, Ss_nil, Ss_cons, getE_zero, getE_succ, ↓bind_rb, ↓ofR_rb, ↓rbk, ↓ork, rbk, ork, Bool.false_eq_true, if_false, oo_some, ob_some, om_some, getAll, OV.get, OV.refs, nodupN, putBack, set_zero, set_succ, List.set_cons_zero, List.set_cons_succ, bindT, bindTs, op2, List.contains_nil, List.contains_cons, Nat.reduceBEq, Bool.or_false, Bool.or_self, Bool.not_false, Bool.not_true, Bool.and_true, Bool.true_and, Bool.and_self, List.length_cons, List.length_nil, if_true, List.cons_append, List.nil_append, reduceIte, Nat.reduceLT, Nat.reduceAdd, prD, isD_tt, isD_ti, isD_lt, isD_li, isD_nt, isD_ni, isD_nb, isD_ii, isD_ib, isD_it, isD_bi, isD_bb, isD_bt, sz_0, sz_1, sz_2, sz_3, sz_4, sz_5, sz_6, sz_7, sz_8, sz_9, sz_10, sz_11, sz_12, sz_13, sz_14, sz_15, sz_16, sz_17, sz_18, sz_19, sz_20, D.own]⟩) (fun d hd => rfl) (fun d hd => rfl) rfl
  obtain ⟨j0, hj0, hn0⟩ := hm.1
  cases hf : (List.range F.length).filter (fun j => need F w j == m) with
  | nil =>
    exfalso
    have : j0 ∈ (List.range F.length).filter (fun j => need F w j == m) := by simp [hj0, hn0]
    rw [hf] at this; simp at this
  | cons j r =>
    have hj : j ∈ (List.range F.length).filter (fun j => need F w j == m) := by rw [hf]; simp
    simp at hj
    refine ⟨j, hj.1, hj.2, ?_⟩
    rw [hf] at e
    have hz' : (m == 0) = false := by simpa using hz
    have h0 : L2.atI (D.int ((j : Int) + 1) :: r.map fun j : Nat => D.int ((j : Int) + 1)) 0 = some (D.int ((j : Int) + 1)) := atI_nat _ 0
    simp -dsimp only [b_down_told, ↓e, E_const, E_glob, E_var, E_mov, E_op, E_isn, E_neg, E_notE, E_chain, E_andE, E_orE, E_ite, E_tup, E_lst, E_idx, E_slc, E_cb, E_call, E_callK, E_rng2, rngK_t, rngK_f, E_frz, Es_nil, Es_peek, Es_peekF, Es_star, Es_const, Es_glob, Es_var, Es_mov, Es_op, Es_isn, Es_neg, Es_notE, Es_chain, Es_andE, Es_orE, Es_ite, Es_tup, Es_lst, Es_idx, Es_slc, Es_cb, Es_call, Es_callK, Es_rng, Es_frz, Es_lc, Eb_nil, Eb_one, Ei_nil, Ei_cons, It_seq, It_range, It_enum, It_zip, S_ex, S_asg, S_par, S_seti, S_app, S_ext, S_aug, S_augi, S_ret, S_ifs, S_for_, S_while_, S_never, Ss_nil, Ss_cons, getE_zero, getE_succ, ↓bind_rb, ↓ofR_rb, ↓rbk, ↓ork, rbk, ork, Bool.false_eq_true, if_false, oo_some, ob_some, om_some, getAll, OV.get, OV.refs, nodupN, putBack, set_zero, set_succ, List.set_cons_zero, List.set_cons_succ, bindT, bindTs, op2, List.contains_nil, List.contains_cons, Nat.reduceBEq, Bool.or_false, Bool.or_self, Bool.not_false, Bool.not_true, Bool.and_true, Bool.true_and, Bool.and_self, List.length_cons, List.length_nil, if_true, List.cons_append, List.nil_append, reduceIte, Nat.reduceLT, Nat.reduceAdd, prD, isD_tt, isD_ti, isD_lt, isD_li, isD_nt, isD_ni, isD_nb, isD_ii, isD_ib, isD_it, isD_bi, isD_bb, isD_bt, sz_0, sz_1, sz_2, sz_3, sz_4, sz_5, sz_6, sz_7, sz_8, sz_9, sz_10, sz_11, sz_12, sz_13, sz_14, sz_15, sz_16, sz_17, sz_18, sz_19, sz_20, c4, c8, eqD, D.isPd, D.pd, hP0, hP, PySem.PyData.eqv, hz', D.own, idxD, List.map_cons, h0, itemD]
/-- the first floor that needs as many ticks -/
theorem told_ok (k : Nat) (F : List Int) (w m : Int) (h : FOk F) (h1 : 1 ≤ w) (h2 : w ≤ 20) (hm : IsL F w m) :
    (m = 0 ∧ runN PQ (k + 6) 9 [Fl F, .int w] = .ok (.tup [.int 0, .non]) [Fl F, .int w]) ∨
    (0 < m ∧ ∃ j : Nat, j < F.length ∧ need F w j = m ∧ runN PQ (k + 6) 9 [Fl F, .int w] = .ok (.tup [.int m, .int ((j : Int) + 1)]) [Fl F, .int w]) := by
  have hl := h.sz
  have hw : 0 < w := by omega
  have hw2 : w < 1073741824 := by omega
  have hm0 : 0 ≤ m := by obtain ⟨j, _, q⟩ := hm.1; rw [← q]; exact need_nonneg F w j hw
  have hL := least_ok (k + 2) F w m hl hw hw2 hm
  by_cases hz : m = 0
  · subst hz
    exact .inl ⟨rfl, run_ret (lk := [0, 1]) (ρ0 := [some (Fl F), some (.int w), none, none, none]) (ρ1 := [some (Fl F), some (.int w), some (.int 0), none, none]) rfl rfl rfl rfl (told_b0 _ F w (check_stair_ok k F w h h1 h2) hL) rfl⟩
  · obtain ⟨j, a, b, c⟩ := told_b _ F w m hl (check_stair_ok k F w h h1 h2) (needs_ok (k + 3) F w hl hw hw2) hL hm hz
    exact .inr ⟨by omega, j, a, b, run_ret (lk := [0, 1]) (ρ0 := [some (Fl F), some (.int w), none, none, none]) (ρ1 := [some (Fl F), some (.int w), some (.int m), none, none]) rfl rfl rfl rfl c rfl⟩
end LW
end

section
set_option linter.all false
set_option maxRecDepth 100000
set_option maxHeartbeats 1000000
namespace LW
open Mi
theorem sh_int (i : Int) : PySem.SeqAt.shaped (PySem.PyData.int i) = true := rfl
/-- what is between two numbers -/
def isB (d : D) (a b : Int) : Bool := match d with
  | .int i => decide (a ≤ i) && decide (i ≤ b)
  | _ => false
def Pl (d : D) : Prop := (∃ i, d = .int i) ∨ (∃ b, d = .bl b) ∨ d = .non
theorem between_no (Φ : Fns) (d : D) (a b : Int) (h : Φ 0 [d] = .ok (.bl false) [d]) : exSs Φ [0, 1, 2] b_is_between [some d, some (.int a), some (.int b)] = .ret (.bl false) [some d, some (.int a), some (.int b)] := by
  simp -dsimp only [b_is_between, E_const, E_glob, E_var, E_mov, E_op, E_isn, E_neg, E_notE, E_chain, E_andE, E_orE, E_ite, E_tup, E_lst, E_idx, E_slc, E_cb, E_call, E_callK, E_rng2, rngK_t, rngK_f, E_frz, Es_nil, Es_peek, Es_peekF, Es_star, Es_const, Es_glob, Es_var, Es_mov, Es_op, Es_isn, Es_neg, Es_notE, Es_chain, Es_andE, Es_orE, Es_ite, Es_tup, Es_lst, Es_idx, Es_slc, Es_cb, Es_call, Es_callK, Es_rng, Es_frz, Es_lc, Eb_nil, Eb_one, Ei_nil, Ei_cons, It_seq, It_range, It_enum, It_zip, S_ex, S_asg, S_par, S_seti, S_app, S_ext, S_aug, S_augi, S_ret, S_ifs, S_for_, S_while_, S_never, Ss_nil, Ss_cons, getE_zero, getE_succ, ↓bind_rb, ↓ofR_rb, ↓rbk, ↓ork, rbk, ork, Bool.false_eq_true, if_false, oo_some, ob_some, om_some, getAll, OV.get, OV.refs, nodupN, putBack, set_zero, set_succ, List.set_cons_zero, List.set_cons_succ, bindT, bindTs, op2, List.contains_nil, List.contains_cons, Nat.reduceBEq, Bool.or_false, Bool.or_self, Bool.not_false, Bool.not_true, Bool.and_true, Bool.true_and, Bool.and_self, List.length_cons, List.length_nil, if_true, List.cons_append, List.nil_append, reduceIte, Nat.reduceLT, Nat.reduceAdd, prD, isD_tt, isD_ti, isD_lt, isD_li, isD_nt, isD_ni, isD_nb, isD_ii, isD_ib, isD_it, isD_bi, isD_bb, isD_bt, sz_0, sz_1, sz_2, sz_3, sz_4, sz_5, sz_6, sz_7, sz_8, sz_9, sz_10, sz_11, sz_12, sz_13, sz_14, sz_15, sz_16, sz_17, sz_18, sz_19, sz_20, h]
theorem is_between_any (k : Nat) (d : D) (a b : Int) (h : Pl d) : runN PQ (k + 2) 1 [d, .int a, .int b] = .ok (.bl (isB d a b)) [d, .int a, .int b] := by
  rcases h with ⟨i, rfl⟩ | ⟨x, rfl⟩ | rfl
  · exact is_between_int k i a b
  · exact run_ret (lk := [0, 1, 2]) (ρ0 := [some (.bl x), some (.int a), some (.int b)]) (ρ1 := [some (.bl x), some (.int a), some (.int b)]) rfl rfl rfl rfl (between_no _ _ a b (by cases x <;> rfl)) rfl
  · exact run_ret (lk := [0, 1, 2]) (ρ0 := [some .non, some (.int a), some (.int b)]) (ρ1 := [some .non, some (.int a), some (.int b)]) rfl rfl rfl rfl (between_no _ _ a b rfl) rfl
theorem shows_bl (Φ : Fns) (F : List Int) (w : Int) (o : Bool) (xs : List D) (c4 : Φ 4 [Fl F, .int w] = .ok .non [Fl F, .int w]) :
    exSs Φ [0, 1, 2] b_shows_down [some (Fl F), some (.int w), some (.lst o xs), none] = .ret (.bl false) [some (Fl F), some (.int w), some (.lst o xs), none] := by
  simp -dsimp only [b_shows_down, E_const, E_glob, E_var, E_mov, E_op, E_isn, E_neg, E_notE, E_chain, E_andE, E_orE, E_ite, E_tup, E_lst, E_idx, E_slc, E_cb, E_call, E_callK, E_rng2, rngK_t, rngK_f, E_frz, Es_nil, Es_peek, Es_peekF, Es_star, Es_const, Es_glob, Es_var, Es_mov, Es_op, Es_isn, Es_neg, Es_notE, Es_chain, Es_andE, Es_orE, Es_ite, Es_tup, Es_lst, Es_idx, Es_slc, Es_cb, Es_call, Es_callK, Es_rng, Es_frz, Es_lc, Eb_nil, Eb_one, Ei_nil, Ei_cons, It_seq, It_range, It_enum, It_zip, S_ex, S_asg, S_par, S_seti, S_app, S_ext, S_aug, S_augi, S_ret, S_ifs, S_for_, S_while_, S_never, Ss_nil, Ss_cons, getE_zero, getE_succ, ↓bind_rb, ↓ofR_rb, ↓rbk, ↓ork, rbk, ork, Bool.false_eq_true, if_false, oo_some, ob_some, om_some, getAll, OV.get, OV.refs, nodupN, putBack, set_zero, set_succ, List.set_cons_zero, List.set_cons_succ, bindT, bindTs, op2, List.contains_nil, List.contains_cons, Nat.reduceBEq, Bool.or_false, Bool.or_self, Bool.not_false, Bool.not_true, Bool.and_true, Bool.true_and, Bool.and_self, List.length_cons, List.length_nil, if_true, List.cons_append, List.nil_append, reduceIte, Nat.reduceLT, Nat.reduceAdd, prD, isD_tt, isD_ti, isD_lt, isD_li, isD_nt, isD_ni, isD_nb, isD_ii, isD_ib, isD_it, isD_bi, isD_bb, isD_bt, sz_0, sz_1, sz_2, sz_3, sz_4, sz_5, sz_6, sz_7, sz_8, sz_9, sz_10, sz_11, sz_12, sz_13, sz_14, sz_15, sz_16, sz_17, sz_18, sz_19, sz_20, c4]
theorem shows_bn (Φ : Fns) (F : List Int) (w : Int) (c4 : Φ 4 [Fl F, .int w] = .ok .non [Fl F, .int w]) :
    exSs Φ [0, 1, 2] b_shows_down [some (Fl F), some (.int w), some .non, none] = .ret (.bl false) [some (Fl F), some (.int w), some .non, none] := by
  simp -dsimp only [b_shows_down, E_const, E_glob, E_var, E_mov, E_op, E_isn, E_neg, E_notE, E_chain, E_andE, E_orE, E_ite, E_tup, E_lst, E_idx, E_slc, E_cb, E_call, E_callK, E_rng2, rngK_t, rngK_f, E_frz, Es_nil, Es_peek, Es_peekF, Es_star, Es_const, Es_glob, Es_var, Es_mov, Es_op, Es_isn, Es_neg, Es_notE, Es_chain, Es_andE, Es_orE, Es_ite, Es_tup, Es_lst, Es_idx, Es_slc, Es_cb, Es_call, Es_callK, Es_rng, Es_frz, Es_lc, Eb_nil, Eb_one, Ei_nil, Ei_cons, It_seq, It_range, It_enum, It_zip, S_ex, S_asg, S_par, S_seti, S_app, S_ext, S_aug, S_augi, S_ret, S_ifs, S_for_, S_while_, S_never, Ss_nil, Ss_cons, getE_zero, getE_succ, ↓bind_rb, ↓ofR_rb, ↓rbk, ↓ork, rbk, ork, Bool.false_eq_true, if_false, oo_some, ob_some, om_some, getAll, OV.get, OV.refs, nodupN, putBack, set_zero, set_succ, List.set_cons_zero, List.set_cons_succ, bindT, bindTs, op2, List.contains_nil, List.contains_cons, Nat.reduceBEq, Bool.or_false, Bool.or_self, Bool.not_false, Bool.not_true, Bool.and_true, Bool.true_and, Bool.and_self, List.length_cons, List.length_nil, if_true, List.cons_append, List.nil_append, reduceIte, Nat.reduceLT, Nat.reduceAdd, prD, isD_tt, isD_ti, isD_lt, isD_li, isD_nt, isD_ni, isD_nb, isD_ii, isD_ib, isD_it, isD_bi, isD_bb, isD_bt, sz_0, sz_1, sz_2, sz_3, sz_4, sz_5, sz_6, sz_7, sz_8, sz_9, sz_10, sz_11, sz_12, sz_13, sz_14, sz_15, sz_16, sz_17, sz_18, sz_19, sz_20, c4]
theorem shows_bt (Φ : Fns) (F : List Int) (w : Int) (xs : List D) (h : xs.length ≠ 2) (c4 : Φ 4 [Fl F, .int w] = .ok .non [Fl F, .int w]) :
    exSs Φ [0, 1, 2] b_shows_down [some (Fl F), some (.int w), some (.tup xs), none] = .ret (.bl false) [some (Fl F), some (.int w), some (.tup xs), none] := by
  have h2 : ((xs.length : Int) == 2) = false := by simp; omega
  simp -dsimp only [b_shows_down, E_const, E_glob, E_var, E_mov, E_op, E_isn, E_neg, E_notE, E_chain, E_andE, E_orE, E_ite, E_tup, E_lst, E_idx, E_slc, E_cb, E_call, E_callK, E_rng2, rngK_t, rngK_f, E_frz, Es_nil, Es_peek, Es_peekF, Es_star, Es_const, Es_glob, Es_var, Es_mov, Es_op, Es_isn, Es_neg, Es_notE, Es_chain, Es_andE, Es_orE, Es_ite, Es_tup, Es_lst, Es_idx, Es_slc, Es_cb, Es_call, Es_callK, Es_rng, Es_frz, Es_lc, Eb_nil, Eb_one, Ei_nil, Ei_cons, It_seq, It_range, It_enum, It_zip, S_ex, S_asg, S_par, S_seti, S_app, S_ext, S_aug, S_augi, S_ret, S_ifs, S_for_, S_while_, S_never, Ss_nil, Ss_cons, getE_zero, getE_succ, ↓bind_rb, ↓ofR_rb, ↓rbk, ↓ork, rbk, ork, Bool.false_eq_true, if_false, oo_some, ob_some, om_some, getAll, OV.get, OV.refs, nodupN, putBack, set_zero, set_succ, List.set_cons_zero, List.set_cons_succ, bindT, bindTs, op2, List.contains_nil, List.contains_cons, Nat.reduceBEq, Bool.or_false, Bool.or_self, Bool.not_false, Bool.not_true, Bool.and_true, Bool.true_and, Bool.and_self, List.length_cons, List.length_nil, if_true, List.cons_append, List.nil_append, reduceIte, Nat.reduceLT, Nat.reduceAdd, prD, isD_tt, isD_ti, isD_lt, isD_li, isD_nt, isD_ni, isD_nb, isD_ii, isD_ib, isD_it, isD_bi, isD_bb, isD_bt, sz_0, sz_1, sz_2, sz_3, sz_4, sz_5, sz_6, sz_7, sz_8, sz_9, sz_10, sz_11, sz_12, sz_13, sz_14, sz_15, sz_16, sz_17, sz_18, sz_19, sz_20, c4, lenD, eqD, D.isPd, D.pd, sh_int, PySem.PyData.eqv, h2]
theorem own_Pl {d : D} (h : Pl d) : d.own = false := by
  rcases h with ⟨i, rfl⟩ | ⟨x, rfl⟩ | rfl <;> rfl
theorem at0 (a b : D) : L2.atI [a, b] 0 = some a := rfl
theorem at1 (a b : D) : L2.atI [a, b] 1 = some b := rfl
/-- value (a, b) when a is no number between 0 and 400 -/
theorem shows_b2n (Φ : Fns) (F : List Int) (w : Int) (a b : D) (ha : Pl a) (h : isB a 0 400 = false) (c4 : Φ 4 [Fl F, .int w] = .ok .non [Fl F, .int w]) (c1 : Φ 1 [a, .int 0, .int 400] = .ok (.bl (isB a 0 400)) [a, .int 0, .int 400]) :
    exSs Φ [0, 1, 2] b_shows_down [some (Fl F), some (.int w), some (.tup [a, b]), none] = .ret (.bl false) [some (Fl F), some (.int w), some (.tup [a, b]), none] := by
  have h2 : (((([a, b] : List D).length : Nat) : Int) == 2) = true := rfl
  rw [h] at c1
  simp -dsimp only [b_shows_down, E_const, E_glob, E_var, E_mov, E_op, E_isn, E_neg, E_notE, E_chain, E_andE, E_orE, E_ite, E_tup, E_lst, E_idx, E_slc, E_cb, E_call, E_callK, E_rng2, rngK_t, rngK_f, E_frz, Es_nil, Es_peek, Es_peekF, Es_star, Es_const, Es_glob, Es_var, Es_mov, Es_op, Es_isn, Es_neg, Es_notE, Es_chain, Es_andE, Es_orE, Es_ite, Es_tup, Es_lst, Es_idx, Es_slc, Es_cb, Es_call, Es_callK, Es_rng, Es_frz, Es_lc, Eb_nil, Eb_one, Ei_nil, Ei_cons, It_seq, It_range, It_enum, It_zip, S_ex, S_asg, S_par, S_seti, S_app, S_ext, S_aug, S_augi, S_ret, S_ifs, S_for_, S_while_, S_never, Ss_nil, Ss_cons, getE_zero, getE_succ, ↓bind_rb, ↓ofR_rb, ↓rbk, ↓ork, rbk, ork, Bool.false_eq_true, if_false, oo_some, ob_some, om_some, getAll, OV.get, OV.refs, nodupN, putBack, set_zero, set_succ, List.set_cons_zero, List.set_cons_succ, bindT, bindTs, op2, List.contains_nil, List.contains_cons, Nat.reduceBEq, Bool.or_false, Bool.or_self, Bool.not_false, Bool.not_true, Bool.and_true, Bool.true_and, Bool.and_self, List.length_cons, List.length_nil, if_true, List.cons_append, List.nil_append, reduceIte, Nat.reduceLT, Nat.reduceAdd, prD, isD_tt, isD_ti, isD_lt, isD_li, isD_nt, isD_ni, isD_nb, isD_ii, isD_ib, isD_it, isD_bi, isD_bb, isD_bt, sz_0, sz_1, sz_2, sz_3, sz_4, sz_5, sz_6, sz_7, sz_8, sz_9, sz_10, sz_11, sz_12, sz_13, sz_14, sz_15, sz_16, sz_17, sz_18, sz_19, sz_20, c4, lenD, eqD, D.isPd, D.pd, sh_int, PySem.PyData.eqv, idxD, at0, itemD, own_Pl ha, c1]
  simp only [List.length_cons, List.length_nil] at h2
  simp -dsimp only [h2, E_const, E_glob, E_var, E_mov, E_op, E_isn, E_neg, E_notE, E_chain, E_andE, E_orE, E_ite, E_tup, E_lst, E_idx, E_slc, E_cb, E_call, E_callK, E_rng2, rngK_t, rngK_f, E_frz, Es_nil, Es_peek, Es_peekF, Es_star, Es_const, Es_glob, Es_var, Es_mov, Es_op, Es_isn, Es_neg, Es_notE, Es_chain, Es_andE, Es_orE, Es_ite, Es_tup, Es_lst, Es_idx, Es_slc, Es_cb, Es_call, Es_callK, Es_rng, Es_frz, Es_lc, Eb_nil, Eb_one, Ei_nil, Ei_cons, It_seq, It_range, It_enum, It_zip, S_ex, S_asg, S_par, S_seti, S_app, S_ext, S_aug, S_augi, S_ret, S_ifs, S_for_, S_while_, S_never, Ss_nil, Ss_cons, getE_zero, getE_succ, ↓bind_rb, ↓ofR_rb, ↓rbk, ↓ork, rbk, ork, Bool.false_eq_true, if_false, oo_some, ob_some, om_some, getAll, OV.get, OV.refs, nodupN, putBack, set_zero, set_succ, List.set_cons_zero, List.set_cons_succ, bindT, bindTs, op2, List.contains_nil, List.contains_cons, Nat.reduceBEq, Bool.or_false, Bool.or_self, Bool.not_false, Bool.not_true, Bool.and_true, Bool.true_and, Bool.and_self, List.length_cons, List.length_nil, if_true, List.cons_append, List.nil_append, reduceIte, Nat.reduceLT, Nat.reduceAdd, prD, isD_tt, isD_ti, isD_lt, isD_li, isD_nt, isD_ni, isD_nb, isD_ii, isD_ib, isD_it, isD_bi, isD_bb, isD_bt, sz_0, sz_1, sz_2, sz_3, sz_4, sz_5, sz_6, sz_7, sz_8, sz_9, sz_10, sz_11, sz_12, sz_13, sz_14, sz_15, sz_16, sz_17, sz_18, sz_19, sz_20, idxD, at0, itemD, own_Pl ha, c1]
theorem shows_b20 (Φ : Fns) (F : List Int) (w x : Int) (b : D) (hb : Pl b) (h : isB (.int x) 0 400 = true) (c4 : Φ 4 [Fl F, .int w] = .ok .non [Fl F, .int w]) (c1 : Φ 1 [.int x, .int 0, .int 400] = .ok (.bl (isB (.int x) 0 400)) [.int x, .int 0, .int 400])
    (c8 : Φ 8 [Fl F, .int w] = .ok (.int 0) [Fl F, .int w]) :
    exSs Φ [0, 1, 2] b_shows_down [some (Fl F), some (.int w), some (.tup [.int x, b]), none] = .ret (.bl (x == 0 && isNon b)) [some (Fl F), some (.int w), some (.tup [.int x, b]), some (.int 0)] := by
  have h2 : ((2 : Nat) : Int) == 2 := rfl
  have h2 : (((([.int x, b] : List D).length : Nat) : Int) == 2) = true := rfl
  rw [h] at c1
  simp only [List.length_cons, List.length_nil] at h2
  simp -dsimp only [b_shows_down, E_const, E_glob, E_var, E_mov, E_op, E_isn, E_neg, E_notE, E_chain, E_andE, E_orE, E_ite, E_tup, E_lst, E_idx, E_slc, E_cb, E_call, E_callK, E_rng2, rngK_t, rngK_f, E_frz, Es_nil, Es_peek, Es_peekF, Es_star, Es_const, Es_glob, Es_var, Es_mov, Es_op, Es_isn, Es_neg, Es_notE, Es_chain, Es_andE, Es_orE, Es_ite, Es_tup, Es_lst, Es_idx, Es_slc, Es_cb, Es_call, Es_callK, Es_rng, Es_frz, Es_lc, Eb_nil, Eb_one, Ei_nil, Ei_cons, It_seq, It_range, It_enum, It_zip, S_ex, S_asg, S_par, S_seti, S_app, S_ext, S_aug, S_augi, S_ret, S_ifs, S_for_, S_while_, S_never, Ss_nil, Ss_cons, getE_zero, getE_succ, ↓bind_rb, ↓ofR_rb, ↓rbk, ↓ork, rbk, ork, Bool.false_eq_true, if_false, oo_some, ob_some, om_some, getAll, OV.get, OV.refs, nodupN, putBack, set_zero, set_succ, List.set_cons_zero, List.set_cons_succ, bindT, bindTs, op2, List.contains_nil, List.contains_cons, Nat.reduceBEq, Bool.or_false, Bool.or_self, Bool.not_false, Bool.not_true, Bool.and_true, Bool.true_and, Bool.and_self, List.length_cons, List.length_nil, if_true, List.cons_append, List.nil_append, reduceIte, Nat.reduceLT, Nat.reduceAdd, prD, isD_tt, isD_ti, isD_lt, isD_li, isD_nt, isD_ni, isD_nb, isD_ii, isD_ib, isD_it, isD_bi, isD_bb, isD_bt, sz_0, sz_1, sz_2, sz_3, sz_4, sz_5, sz_6, sz_7, sz_8, sz_9, sz_10, sz_11, sz_12, sz_13, sz_14, sz_15, sz_16, sz_17, sz_18, sz_19, sz_20, c4, lenD, eqD, D.isPd, D.pd, sh_int, PySem.PyData.eqv, h2, idxD, at0, at1, itemD, own_Pl hb, D.own, c1, c8, beq_self_eq_true]
  cases hx : x == 0
  · simp -dsimp only [E_const, E_glob, E_var, E_mov, E_op, E_isn, E_neg, E_notE, E_chain, E_andE, E_orE, E_ite, E_tup, E_lst, E_idx, E_slc, E_cb, E_call, E_callK, E_rng2, rngK_t, rngK_f, E_frz, Es_nil, Es_peek, Es_peekF, Es_star, Es_const, Es_glob, Es_var, Es_mov, Es_op, Es_isn, Es_neg, Es_notE, Es_chain, Es_andE, Es_orE, Es_ite, Es_tup, Es_lst, Es_idx, Es_slc, Es_cb, Es_call, Es_callK, Es_rng, Es_frz, Es_lc, Eb_nil, Eb_one, Ei_nil, Ei_cons, It_seq, It_range, It_enum, It_zip, S_ex, S_asg, S_par, S_seti, S_app, S_ext, S_aug, S_augi, S_ret, S_ifs, S_for_, S_while_, S_never, Ss_nil, Ss_cons, getE_zero, getE_succ, ↓bind_rb, ↓ofR_rb, ↓rbk, ↓ork, rbk, ork, Bool.false_eq_true, if_false, oo_some, ob_some, om_some, getAll, OV.get, OV.refs, nodupN, putBack, set_zero, set_succ, List.set_cons_zero, List.set_cons_succ, bindT, bindTs, op2, List.contains_nil, List.contains_cons, Nat.reduceBEq, Bool.or_false, Bool.or_self, Bool.not_false, Bool.not_true, Bool.and_true, Bool.true_and, Bool.and_self, List.length_cons, List.length_nil, if_true, List.cons_append, List.nil_append, reduceIte, Nat.reduceLT, Nat.reduceAdd, prD, isD_tt, isD_ti, isD_lt, isD_li, isD_nt, isD_ni, isD_nb, isD_ii, isD_ib, isD_it, isD_bi, isD_bb, isD_bt, sz_0, sz_1, sz_2, sz_3, sz_4, sz_5, sz_6, sz_7, sz_8, sz_9, sz_10, sz_11, sz_12, sz_13, sz_14, sz_15, sz_16, sz_17, sz_18, sz_19, sz_20, Bool.false_and]
  · simp -dsimp only [E_const, E_glob, E_var, E_mov, E_op, E_isn, E_neg, E_notE, E_chain, E_andE, E_orE, E_ite, E_tup, E_lst, E_idx, E_slc, E_cb, E_call, E_callK, E_rng2, rngK_t, rngK_f, E_frz, Es_nil, Es_peek, Es_peekF, Es_star, Es_const, Es_glob, Es_var, Es_mov, Es_op, Es_isn, Es_neg, Es_notE, Es_chain, Es_andE, Es_orE, Es_ite, Es_tup, Es_lst, Es_idx, Es_slc, Es_cb, Es_call, Es_callK, Es_rng, Es_frz, Es_lc, Eb_nil, Eb_one, Ei_nil, Ei_cons, It_seq, It_range, It_enum, It_zip, S_ex, S_asg, S_par, S_seti, S_app, S_ext, S_aug, S_augi, S_ret, S_ifs, S_for_, S_while_, S_never, Ss_nil, Ss_cons, getE_zero, getE_succ, ↓bind_rb, ↓ofR_rb, ↓rbk, ↓ork, rbk, ork, Bool.false_eq_true, if_false, oo_some, ob_some, om_some, getAll, OV.get, OV.refs, nodupN, putBack, set_zero, set_succ, List.set_cons_zero, List.set_cons_succ, bindT, bindTs, op2, List.contains_nil, List.contains_cons, Nat.reduceBEq, Bool.or_false, Bool.or_self, Bool.not_false, Bool.not_true, Bool.and_true, Bool.true_and, Bool.and_self, List.length_cons, List.length_nil, if_true, List.cons_append, List.nil_append, reduceIte, Nat.reduceLT, Nat.reduceAdd, prD, isD_tt, isD_ti, isD_lt, isD_li, isD_nt, isD_ni, isD_nb, isD_ii, isD_ib, isD_it, isD_bi, isD_bb, isD_bt, sz_0, sz_1, sz_2, sz_3, sz_4, sz_5, sz_6, sz_7, sz_8, sz_9, sz_10, sz_11, sz_12, sz_13, sz_14, sz_15, sz_16, sz_17, sz_18, sz_19, sz_20, idxD, at1, itemD, own_Pl hb, Bool.bne_false]
theorem shaped_needs (F : List Int) (w : Int) (n : Nat) : PySem.SeqAt.shaped (.list (pdL (needL F w n))) = true := by
  unfold PySem.SeqAt.shaped needL
  rw [pdL_map]
  have h1 : PySem.PyData.canLayAll0 ((List.range n).map fun j : Nat => (D.tup [.int (need F w j), .int ((j : Int) + 1)]).pd) = true := canLayAll_map _ _ fun _ _ => rfl
  have h2 : PySem.PyData.depthAll ((List.range n).map fun j : Nat => (D.tup [.int (need F w j), .int ((j : Int) + 1)]).pd) ≤ 1 := depthAll_map _ _ 1 fun _ _ => Nat.le_refl _
  show (PySem.PyData.canLayAll0 _ && decide (PySem.PyData.depthAll _ + 1 ≤ 64)) = true
  rw [h1, Bool.true_and, decide_eq_true_eq]
  exact Nat.le_trans (Nat.succ_le_succ h2) (by decide)
def hasN (F : List Int) (w m y : Int) : Bool := (List.range F.length).any fun j => need F w j == m && ((j : Int) + 1) == y
theorem mem_needs (F : List Int) (w m y : Int) : inD false (.tup [.int m, .int y]) (.lst true (needL F w F.length)) = some (.bl (hasN F w m y)) := by
  have h3 : isPdL (needL F w F.length) = true := isPdL_map _ _ fun _ _ => rfl
  have h4 : PySem.SeqAt.shaped (D.tup [.int m, .int y]).pd = true := rfl
  simp only [inD, memD, h3, h4, shaped_needs, D.isPd, isPdL, Bool.and_self, if_true, Option.map_some, Bool.bne_false]
  congr 2
  rw [needL, pdL_map, List.any_map]
  unfold hasN
  congr 1
  funext j
  simp [D.pd, pdL, PySem.PyData.eqv, PySem.PyData.eqvAll]
def hasD (F : List Int) (w m : Int) : D → Bool
  | .int y => hasN F w m y
  | _ => false
theorem shows_b21 (Φ : Fns) (F : List Int) (w m x : Int) (b : D) (hb : Pl b) (h : isB (.int x) 0 400 = true) (hm : m ≠ 0) (c4 : Φ 4 [Fl F, .int w] = .ok .non [Fl F, .int w]) (c1 : Φ 1 [.int x, .int 0, .int 400] = .ok (.bl (isB (.int x) 0 400)) [.int x, .int 0, .int 400])
    (c1b : Φ 1 [b, .int 1, .int F.length] = .ok (.bl (isB b 1 F.length)) [b, .int 1, .int F.length])
    (c7 : Φ 7 [Fl F, .int w] = .ok (.lst true (needL F w F.length)) [Fl F, .int w])
    (c8 : Φ 8 [Fl F, .int w] = .ok (.int m) [Fl F, .int w]) :
    exSs Φ [0, 1, 2] b_shows_down [some (Fl F), some (.int w), some (.tup [.int x, b]), none] = .ret (.bl (x == m && (isB b 1 F.length && hasD F w m b))) [some (Fl F), some (.int w), some (.tup [.int x, b]), some (.int m)] := by
  have h2 : (((([.int x, b] : List D).length : Nat) : Int) == 2) = true := rfl
  have hm' : (m == 0) = false := by simpa using hm
  have hlen : lenD (Fl F) = some (.int F.length) := by simp [Fl, lenD]
  rw [h] at c1
  simp only [List.length_cons, List.length_nil] at h2
  simp -dsimp only [b_shows_down, ↓hlen, E_const, E_glob, E_var, E_mov, E_op, E_isn, E_neg, E_notE, E_chain, E_andE, E_orE, E_ite, E_tup, E_lst, E_idx, E_slc, E_cb, E_call, E_callK, E_rng2, rngK_t, rngK_f, E_frz, Es_nil, Es_peek, Es_peekF, Es_star, Es_const, Es_glob, Es_var, Es_mov, Es_op, Es_isn, Es_neg, Es_notE, Es_chain, Es_andE, Es_orE, Es_ite, Es_tup, Es_lst, Es_idx, Es_slc, Es_cb, Es_call, Es_callK, Es_rng, Es_frz, Es_lc, Eb_nil, Eb_one, Ei_nil, Ei_cons, It_seq, It_range, It_enum, It_zip, S_ex, S_asg, S_par, S_seti, S_app, S_ext, S_aug, S_augi, S_ret, S_ifs, S_for_, S_while_, S_never, Ss_nil, Ss_cons, getE_zero, getE_succ, ↓bind_rb, ↓ofR_rb, ↓rbk, ↓ork, rbk, ork, Bool.false_eq_true, if_false, oo_some, ob_some, om_some, getAll, OV.get, OV.refs, nodupN, putBack, set_zero, set_succ, List.set_cons_zero, List.set_cons_succ, bindT, bindTs, op2, List.contains_nil, List.contains_cons, Nat.reduceBEq, Bool.or_false, Bool.or_self, Bool.not_false, Bool.not_true, Bool.and_true, Bool.true_and, Bool.and_self, List.length_cons, List.length_nil, if_true, List.cons_append, List.nil_append, reduceIte, Nat.reduceLT, Nat.reduceAdd, prD, isD_tt, isD_ti, isD_lt, isD_li, isD_nt, isD_ni, isD_nb, isD_ii, isD_ib, isD_it, isD_bi, isD_bb, isD_bt, sz_0, sz_1, sz_2, sz_3, sz_4, sz_5, sz_6, sz_7, sz_8, sz_9, sz_10, sz_11, sz_12, sz_13, sz_14, sz_15, sz_16, sz_17, sz_18, sz_19, sz_20, c4, lenD_tup, eqD, D.isPd, D.pd, sh_int, PySem.PyData.eqv, h2, idxD, at0, at1, itemD, own_Pl hb, D.own, c1, c8, hm']
  cases hx : x == m
  · simp -dsimp only [E_const, E_glob, E_var, E_mov, E_op, E_isn, E_neg, E_notE, E_chain, E_andE, E_orE, E_ite, E_tup, E_lst, E_idx, E_slc, E_cb, E_call, E_callK, E_rng2, rngK_t, rngK_f, E_frz, Es_nil, Es_peek, Es_peekF, Es_star, Es_const, Es_glob, Es_var, Es_mov, Es_op, Es_isn, Es_neg, Es_notE, Es_chain, Es_andE, Es_orE, Es_ite, Es_tup, Es_lst, Es_idx, Es_slc, Es_cb, Es_call, Es_callK, Es_rng, Es_frz, Es_lc, Eb_nil, Eb_one, Ei_nil, Ei_cons, It_seq, It_range, It_enum, It_zip, S_ex, S_asg, S_par, S_seti, S_app, S_ext, S_aug, S_augi, S_ret, S_ifs, S_for_, S_while_, S_never, Ss_nil, Ss_cons, getE_zero, getE_succ, ↓bind_rb, ↓ofR_rb, ↓rbk, ↓ork, rbk, ork, Bool.false_eq_true, if_false, oo_some, ob_some, om_some, getAll, OV.get, OV.refs, nodupN, putBack, set_zero, set_succ, List.set_cons_zero, List.set_cons_succ, bindT, bindTs, op2, List.contains_nil, List.contains_cons, Nat.reduceBEq, Bool.or_false, Bool.or_self, Bool.not_false, Bool.not_true, Bool.and_true, Bool.true_and, Bool.and_self, List.length_cons, List.length_nil, if_true, List.cons_append, List.nil_append, reduceIte, Nat.reduceLT, Nat.reduceAdd, prD, isD_tt, isD_ti, isD_lt, isD_li, isD_nt, isD_ni, isD_nb, isD_ii, isD_ib, isD_it, isD_bi, isD_bb, isD_bt, sz_0, sz_1, sz_2, sz_3, sz_4, sz_5, sz_6, sz_7, sz_8, sz_9, sz_10, sz_11, sz_12, sz_13, sz_14, sz_15, sz_16, sz_17, sz_18, sz_19, sz_20, Bool.false_and]
  · simp -dsimp only [E_const, E_glob, E_var, E_mov, E_op, E_isn, E_neg, E_notE, E_chain, E_andE, E_orE, E_ite, E_tup, E_lst, E_idx, E_slc, E_cb, E_call, E_callK, E_rng2, rngK_t, rngK_f, E_frz, Es_nil, Es_peek, Es_peekF, Es_star, Es_const, Es_glob, Es_var, Es_mov, Es_op, Es_isn, Es_neg, Es_notE, Es_chain, Es_andE, Es_orE, Es_ite, Es_tup, Es_lst, Es_idx, Es_slc, Es_cb, Es_call, Es_callK, Es_rng, Es_frz, Es_lc, Eb_nil, Eb_one, Ei_nil, Ei_cons, It_seq, It_range, It_enum, It_zip, S_ex, S_asg, S_par, S_seti, S_app, S_ext, S_aug, S_augi, S_ret, S_ifs, S_for_, S_while_, S_never, Ss_nil, Ss_cons, getE_zero, getE_succ, ↓bind_rb, ↓ofR_rb, ↓rbk, ↓ork, rbk, ork, Bool.false_eq_true, if_false, oo_some, ob_some, om_some, getAll, OV.get, OV.refs, nodupN, putBack, set_zero, set_succ, List.set_cons_zero, List.set_cons_succ, bindT, bindTs, op2, List.contains_nil, List.contains_cons, Nat.reduceBEq, Bool.or_false, Bool.or_self, Bool.not_false, Bool.not_true, Bool.and_true, Bool.true_and, Bool.and_self, List.length_cons, List.length_nil, if_true, List.cons_append, List.nil_append, reduceIte, Nat.reduceLT, Nat.reduceAdd, prD, isD_tt, isD_ti, isD_lt, isD_li, isD_nt, isD_ni, isD_nb, isD_ii, isD_ib, isD_it, isD_bi, isD_bb, isD_bt, sz_0, sz_1, sz_2, sz_3, sz_4, sz_5, sz_6, sz_7, sz_8, sz_9, sz_10, sz_11, sz_12, sz_13, sz_14, sz_15, sz_16, sz_17, sz_18, sz_19, sz_20, idxD, at1, itemD, own_Pl hb, ↓hlen, c1b]
    rcases hb with ⟨y, rfl⟩ | ⟨y, rfl⟩ | rfl
    · cases hy : isB (.int y) 1 F.length
      · simp -dsimp only [E_const, E_glob, E_var, E_mov, E_op, E_isn, E_neg, E_notE, E_chain, E_andE, E_orE, E_ite, E_tup, E_lst, E_idx, E_slc, E_cb, E_call, E_callK, E_rng2, rngK_t, rngK_f, E_frz, Es_nil, Es_peek, Es_peekF, Es_star, Es_const, Es_glob, Es_var, Es_mov, Es_op, Es_isn, Es_neg, Es_notE, Es_chain, Es_andE, Es_orE, Es_ite, Es_tup, Es_lst, Es_idx, Es_slc, Es_cb, Es_call, Es_callK, Es_rng, Es_frz, Es_lc, Eb_nil, Eb_one, Ei_nil, Ei_cons, It_seq, It_range, It_enum, It_zip, S_ex, S_asg, S_par, S_seti, S_app, S_ext, S_aug, S_augi, S_ret, S_ifs, S_for_, S_while_, S_never, Ss_nil, Ss_cons, getE_zero, getE_succ, ↓bind_rb, ↓ofR_rb, ↓rbk, ↓ork, rbk, ork, Bool.false_eq_true, if_false, oo_some, ob_some, om_some, getAll, OV.get, OV.refs, nodupN, putBack, set_zero, set_succ, List.set_cons_zero, List.set_cons_succ, bindT, bindTs, op2, List.contains_nil, List.contains_cons, Nat.reduceBEq, Bool.or_false, Bool.or_self, Bool.not_false, Bool.not_true, Bool.and_true, Bool.true_and, Bool.and_self, List.length_cons, List.length_nil, if_true, List.cons_append, List.nil_append, reduceIte, Nat.reduceLT, Nat.reduceAdd, prD, isD_tt, isD_ti, isD_lt, isD_li, isD_nt, isD_ni, isD_nb, isD_ii, isD_ib, isD_it, isD_bi, isD_bb, isD_bt, sz_0, sz_1, sz_2, sz_3, sz_4, sz_5, sz_6, sz_7, sz_8, sz_9, sz_10, sz_11, sz_12, sz_13, sz_14, sz_15, sz_16, sz_17, sz_18, sz_19, sz_20, Bool.false_and]
      · simp -dsimp only [E_const, E_glob, E_var, E_mov, E_op, E_isn, E_neg, E_notE, E_chain, E_andE, E_orE, E_ite, E_tup, E_lst, E_idx, E_slc, E_cb, E_call, E_callK, E_rng2, rngK_t, rngK_f, E_frz, Es_nil, Es_peek, Es_peekF, Es_star, Es_const, Es_glob, Es_var, Es_mov, Es_op, Es_isn, Es_neg, Es_notE, Es_chain, Es_andE, Es_orE, Es_ite, Es_tup, Es_lst, Es_idx, Es_slc, Es_cb, Es_call, Es_callK, Es_rng, Es_frz, Es_lc, Eb_nil, Eb_one, Ei_nil, Ei_cons, It_seq, It_range, It_enum, It_zip, S_ex, S_asg, S_par, S_seti, S_app, S_ext, S_aug, S_augi, S_ret, S_ifs, S_for_, S_while_, S_never, Ss_nil, Ss_cons, getE_zero, getE_succ, ↓bind_rb, ↓ofR_rb, ↓rbk, ↓ork, rbk, ork, Bool.false_eq_true, if_false, oo_some, ob_some, om_some, getAll, OV.get, OV.refs, nodupN, putBack, set_zero, set_succ, List.set_cons_zero, List.set_cons_succ, bindT, bindTs, op2, List.contains_nil, List.contains_cons, Nat.reduceBEq, Bool.or_false, Bool.or_self, Bool.not_false, Bool.not_true, Bool.and_true, Bool.true_and, Bool.and_self, List.length_cons, List.length_nil, if_true, List.cons_append, List.nil_append, reduceIte, Nat.reduceLT, Nat.reduceAdd, prD, isD_tt, isD_ti, isD_lt, isD_li, isD_nt, isD_ni, isD_nb, isD_ii, isD_ib, isD_it, isD_bi, isD_bb, isD_bt, sz_0, sz_1, sz_2, sz_3, sz_4, sz_5, sz_6, sz_7, sz_8, sz_9, sz_10, sz_11, sz_12, sz_13, sz_14, sz_15, sz_16, sz_17, sz_18, sz_19, sz_20, D.own, idxD, at1, itemD, c7, mem_needs, hasD]
    · simp -dsimp only [isB, E_const, E_glob, E_var, E_mov, E_op, E_isn, E_neg, E_notE, E_chain, E_andE, E_orE, E_ite, E_tup, E_lst, E_idx, E_slc, E_cb, E_call, E_callK, E_rng2, rngK_t, rngK_f, E_frz, Es_nil, Es_peek, Es_peekF, Es_star, Es_const, Es_glob, Es_var, Es_mov, Es_op, Es_isn, Es_neg, Es_notE, Es_chain, Es_andE, Es_orE, Es_ite, Es_tup, Es_lst, Es_idx, Es_slc, Es_cb, Es_call, Es_callK, Es_rng, Es_frz, Es_lc, Eb_nil, Eb_one, Ei_nil, Ei_cons, It_seq, It_range, It_enum, It_zip, S_ex, S_asg, S_par, S_seti, S_app, S_ext, S_aug, S_augi, S_ret, S_ifs, S_for_, S_while_, S_never, Ss_nil, Ss_cons, getE_zero, getE_succ, ↓bind_rb, ↓ofR_rb, ↓rbk, ↓ork, rbk, ork, Bool.false_eq_true, if_false, oo_some, ob_some, om_some, getAll, OV.get, OV.refs, nodupN, putBack, set_zero, set_succ, List.set_cons_zero, List.set_cons_succ, bindT, bindTs, op2, List.contains_nil, List.contains_cons, Nat.reduceBEq, Bool.or_false, Bool.or_self, Bool.not_false, Bool.not_true, Bool.and_true, Bool.true_and, Bool.and_self, List.length_cons, List.length_nil, if_true, List.cons_append, List.nil_append, reduceIte, Nat.reduceLT, Nat.reduceAdd, prD, isD_tt, isD_ti, isD_lt, isD_li, isD_nt, isD_ni, isD_nb, isD_ii, isD_ib, isD_it, isD_bi, isD_bb, isD_bt, sz_0, sz_1, sz_2, sz_3, sz_4, sz_5, sz_6, sz_7, sz_8, sz_9, sz_10, sz_11, sz_12, sz_13, sz_14, sz_15, sz_16, sz_17, sz_18, sz_19, sz_20, Bool.false_and]
    · simp -dsimp only [isB, E_const, E_glob, E_var, E_mov, E_op, E_isn, E_neg, E_notE, E_chain, E_andE, E_orE, E_ite, E_tup, E_lst, E_idx, E_slc, E_cb, E_call, E_callK, E_rng2, rngK_t, rngK_f, E_frz, Es_nil, Es_peek, Es_peekF, Es_star, Es_const, Es_glob, Es_var, Es_mov, Es_op, Es_isn, Es_neg, Es_notE, Es_chain, Es_andE, Es_orE, Es_ite, Es_tup, Es_lst, Es_idx, Es_slc, Es_cb, Es_call, Es_callK, Es_rng, Es_frz, Es_lc, Eb_nil, Eb_one, Ei_nil, Ei_cons, It_seq, It_range, It_enum, It_zip, S_ex, S_asg, S_par, S_seti, S_app, S_ext, S_aug, S_augi, S_ret, S_ifs, S_for_, S_while_, S_never, Ss_nil, Ss_cons, getE_zero, getE_succ, ↓bind_rb, ↓ofR_rb, ↓rbk, ↓ork, rbk, ork, Bool.false_eq_true, if_false, oo_some, ob_some, om_some, getAll, OV.get, OV.refs, nodupN, putBack, set_zero, set_succ, List.set_cons_zero, List.set_cons_succ, bindT, bindTs, op2, List.contains_nil, List.contains_cons, Nat.reduceBEq, Bool.or_false, Bool.or_self, Bool.not_false, Bool.not_true, Bool.and_true, Bool.true_and, Bool.and_self, List.length_cons, List.length_nil, if_true, List.cons_append, List.nil_append, reduceIte, Nat.reduceLT, Nat.reduceAdd, prD, isD_tt, isD_ti, isD_lt, isD_li, isD_nt, isD_ni, isD_nb, isD_ii, isD_ib, isD_it, isD_bi, isD_bb, isD_bt, sz_0, sz_1, sz_2, sz_3, sz_4, sz_5, sz_6, sz_7, sz_8, sz_9, sz_10, sz_11, sz_12, sz_13, sz_14, sz_15, sz_16, sz_17, sz_18, sz_19, sz_20, Bool.false_and]
end LW
end

section
set_option linter.all false
set_option maxRecDepth 100000
set_option maxHeartbeats 1000000
namespace LW
open Mi
def showsV (F : List Int) (w m : Int) : D → Bool
  | .tup [.int x, b] => isB (.int x) 0 400 && (if m = 0 then x == 0 && isNon b else x == m && (isB b 1 F.length && hasD F w m b))
  | _ => false
inductive VOk : D → Prop
  | lst (o xs) : VOk (.lst o xs)
  | non : VOk .non
  | len (xs) : xs.length ≠ 2 → VOk (.tup xs)
  | two (a b) : Pl a → Pl b → VOk (.tup [a, b])
theorem shows_ok (k : Nat) (F : List Int) (w m : Int) (v : D) (h : FOk F) (h1 : 1 ≤ w) (h2 : w ≤ 20) (hm : IsL F w m) (hv : VOk v) :
    runN PQ (k + 6) 10 [Fl F, .int w, v] = .ok (.bl (showsV F w m v)) [Fl F, .int w, v] := by
  have hl := h.sz
  have hw : 0 < w := by omega
  have hw2 : w < 1073741824 := by omega
  have c4 := check_stair_ok k F w h h1 h2
  have c7 := needs_ok (k + 3) F w hl hw hw2
  have c8 := least_ok (k + 2) F w m hl hw hw2 hm
  cases hv with
  | lst o xs => exact run_ret (lk := [0, 1, 2]) (ρ0 := [some (Fl F), some (.int w), some (.lst o xs), none]) rfl rfl rfl rfl (shows_bl _ F w o xs c4) rfl
  | non => exact run_ret (lk := [0, 1, 2]) (ρ0 := [some (Fl F), some (.int w), some .non, none]) rfl rfl rfl rfl (shows_bn _ F w c4) rfl
  | len xs hx =>
    have e : showsV F w m (.tup xs) = false := by
      match xs, hx with
      | [], _ => rfl
      | [a], _ => cases a <;> rfl
      | a :: _ :: _ :: _, _ => cases a <;> rfl
    rw [e]
    exact run_ret (lk := [0, 1, 2]) (ρ0 := [some (Fl F), some (.int w), some (.tup xs), none]) rfl rfl rfl rfl (shows_bt _ F w xs hx c4) rfl
  | two a b ha hb =>
    have c1 := is_between_any (k + 3) a 0 400 ha
    have c1b := is_between_any (k + 3) b 1 F.length hb
    by_cases hi : isB a 0 400 = true
    · rcases ha with ⟨x, rfl⟩ | ⟨x, rfl⟩ | rfl
      · simp only [showsV, hi, Bool.true_and]
        by_cases hz : m = 0
        · subst hz
          rw [if_pos rfl]
          exact run_ret (lk := [0, 1, 2]) (ρ0 := [some (Fl F), some (.int w), some (.tup [.int x, b]), none]) rfl rfl rfl rfl (shows_b20 _ F w x b hb hi c4 c1 c8) rfl
        · rw [if_neg hz]
          exact run_ret (lk := [0, 1, 2]) (ρ0 := [some (Fl F), some (.int w), some (.tup [.int x, b]), none]) rfl rfl rfl rfl (shows_b21 _ F w m x b hb hi hz c4 c1 c1b c7 c8) rfl
      · exact absurd hi (by simp [isB])
      · exact absurd hi (by simp [isB])
    · have hi' : isB a 0 400 = false := by simpa using hi
      have e : showsV F w m (.tup [a, b]) = false := by
        cases a <;> simp [showsV]
        simp [hi']
      rw [e]
      exact run_ret (lk := [0, 1, 2]) (ρ0 := [some (Fl F), some (.int w), some (.tup [a, b]), none]) rfl rfl rfl rfl (shows_b2n _ F w a b ha hi' c4 c1) rfl

/-! how many by when -/
def bnd (F : List Int) (w t : Int) (j : Nat) : Int := (F.take j).sum + w * (if t - (j : Int) > 0 then t - (j : Int) else 0)
theorem number_b (Φ : Fns) (F : List Int) (w t m : Int) (hl' : F.length ≤ 5000) (hw : w.natAbs < 18446744073709551616)
    (hm : m ∈ F.sum :: (List.range (F.length + 1)).map (bnd F w t)) (hm2 : ∀ x ∈ F.sum :: (List.range (F.length + 1)).map (bnd F w t), m ≤ x) :
    ∃ ρ1, exSs Φ [0, 1, 2] b_number_after [some (Fl F), some (.int w), some (.int t), none, none] = .ret (.int m) (some (Fl F) :: some (.int w) :: some (.int t) :: ρ1) := by
  have hl : F.length + 1 ≤ SZ := by unfold SZ; omega
  have hmul : ∀ j, mulOk w j = true := fun j => by simp [mulOk, hw]
  have e := ev_lc_map Φ [4] (.slot 4) (.range [.op .add [.cb .len [.peek 0], .const (.int 1)]]) (.op .add [.cb .sum [.slc [.peek 0] [] [.var 4]], .op .mul [.peek 1, .cb .max [.const (.int 0), .op .sub [.peek 2, .peek 4]]]]) [some (Fl F), some (.int w), some (.int t), none, none] [some (Fl F), some (.int w), some (.int t), none, none]
    (List.range (F.length + 1)) (fun j : Nat => .int (j : Int)) (fun j => .int (bnd F w t j)) (fun j => [some (Fl F), some (.int w), some (.int t), none, some (.int (j : Int))])
    (by
      have hr := rangeOf_nat (F.length + 1) hl
      have hc : ((F.length + 1 : Nat) : Int) = (F.length : Int) + 1 := by omega
      rw [hc] at hr
      simp -dsimp only [E_const, E_glob, E_var, E_mov, E_op, E_isn, E_neg, E_notE, E_chain, E_andE, E_orE, E_ite, E_tup, E_lst, E_idx, E_slc, E_cb, E_call, E_callK, E_rng2, rngK_t, rngK_f, E_frz, Es_nil, Es_peek, Es_peekF, Es_star, Es_const, Es_glob, Es_var, Es_mov, Es_op, Es_isn, Es_neg, Es_notE, Es_chain, Es_andE, Es_orE, Es_ite, Es_tup, Es_lst, Es_idx, Es_slc, Es_cb, Es_call, Es_callK, Es_rng, Es_frz, Es_lc, Eb_nil, Eb_one, Ei_nil, Ei_cons, It_seq, It_range, It_enum, It_zip, S_ex, S_asg, S_par, S_seti, S_app, S_ext, S_aug, S_augi, S_ret, S_ifs, S_for_, S_while_, S_never, Ss_nil, Ss_cons, getE_zero, getE_succ, ↓bind_rb, ↓ofR_rb, ↓rbk, ↓ork, rbk, ork, Bool.false_eq_true, if_false, oo_some, ob_some, om_some, getAll, OV.get, OV.refs, nodupN, putBack, set_zero, set_succ, List.set_cons_zero, List.set_cons_succ, bindT, bindTs, op2, List.contains_nil, List.contains_cons, Nat.reduceBEq, Bool.or_false, Bool.or_self, Bool.not_false, Bool.not_true, Bool.and_true, Bool.true_and, Bool.and_self, List.length_cons, List.length_nil, if_true, List.cons_append, List.nil_append, reduceIte, Nat.reduceLT, Nat.reduceAdd, prD, isD_tt, isD_ti, isD_lt, isD_li, isD_nt, isD_ni, isD_nb, isD_ii, isD_ib, isD_it, isD_bi, isD_bb, isD_bt, sz_0, sz_1, sz_2, sz_3, sz_4, sz_5, sz_6, sz_7, sz_8, sz_9, sz_10, sz_11, sz_12, sz_13, sz_14, sz_15, sz_16, sz_17, sz_18, sz_19, sz_20, Fl, lenD, List.length_map, addD, hr]) (by simpa using hl) rfl
    (fun j hj => ⟨rfl, by simp -dsimp only [E_const, E_glob, E_var, E_mov, E_op, E_isn, E_neg, E_notE, E_chain, E_andE, E_orE, E_ite, E_tup, E_lst, E_idx, E_slc, E_cb, E_call, E_callK, E_rng2, rngK_t, rngK_f, E_frz, Es_nil, Es_peek, Es_peekF, Es_star, Es_const, Es_glob, Es_var, Es_mov, Es_op, Es_isn, Es_neg, Es_notE, Es_chain, Es_andE, Es_orE, Es_ite, Es_tup, Es_lst, Es_idx, Es_slc, Es_cb, Es_call, Es_callK, Es_rng, Es_frz, Es_lc, Eb_nil, Eb_one, Ei_nil, Ei_cons, It_seq, It_range, It_enum, It_zip, S_ex, S_asg, S_par, S_seti, S_app, S_ext, S_aug, S_augi, S_ret, S_ifs, S_for_, S_while_, S_never, Ss_nil, Ss_cons, getE_zero, getE_succ, ↓bind_rb, ↓ofR_rb, ↓rbk, ↓ork, rbk, ork, Bool.false_eq_true, if_false, oo_some, ob_some, om_some, getAll, OV.get, OV.refs, nodupN, putBack, set_zero, set_succ, List.set_cons_zero, List.set_cons_succ, bindT, bindTs, op2, List.contains_nil, List.contains_cons, Nat.reduceBEq, Bool.or_false, Bool.or_self, Bool.not_false, Bool.not_true, Bool.and_true, Bool.true_and, Bool.and_self, List.length_cons, List.length_nil, if_true, List.cons_append, List.nil_append, reduceIte, Nat.reduceLT, Nat.reduceAdd, prD, isD_tt, isD_ti, isD_lt, isD_li, isD_nt, isD_ni, isD_nb, isD_ii, isD_ib, isD_it, isD_bi, isD_bb, isD_bt, sz_0, sz_1, sz_2, sz_3, sz_4, sz_5, sz_6, sz_7, sz_8, sz_9, sz_10, sz_11, sz_12, sz_13, sz_14, sz_15, sz_16, sz_17, sz_18, sz_19, sz_20, D.own, Fl, slcD, ownL_int, cut_hi, ← List.map_take, sum_map, max2D, subD, mulD, hmul, addD, bnd]⟩) (fun d hd => rfl) (fun d hd => rfl) rfl
  have e2 := min1_is true _ m hm hm2
  have e3 : min1 (.lst true (D.int F.sum :: (List.range (F.length + 1)).map fun j => D.int (bnd F w t j))) = some (.int m) := by
    rw [List.map_cons, List.map_map] at e2; exact e2
  have hz2 : List.length (D.int F.sum :: (List.range (F.length + 1)).map fun j => D.int (bnd F w t j)) ≤ SZ := by
    simp only [List.length_cons, List.length_map, List.length_range]; unfold SZ; omega
  have g1 : getAll [] (OV.val (D.int F.sum) :: (List.map OV.val (List.map (fun j => D.int (bnd F w t j)) (List.range (F.length + 1))) ++ [])) = some (D.int F.sum :: (List.range (F.length + 1)).map fun j => D.int (bnd F w t j)) := getAll_star _ _ _ _ rfl
  simp only [List.append_nil] at g1
  have hsum : sumD (Fl F) = some (.int F.sum) := sum_map F
  refine ⟨[some (.lst false ((List.range (F.length + 1)).map fun j => D.int (bnd F w t j))), none], ?_⟩
  simp -dsimp only [b_number_after, ↓e, ↓hsum, E_const, E_glob, E_var, E_mov, E_op, E_isn, E_neg, E_notE, E_chain, E_andE, E_orE, E_ite, E_tup, E_lst, E_idx, E_slc, E_cb, E_call, E_callK, E_rng2, rngK_t, rngK_f, E_frz, Es_nil, Es_peek, Es_peekF, Es_star, Es_const, Es_glob, Es_var, Es_mov, Es_op, Es_isn, Es_neg, Es_notE, Es_chain, Es_andE, Es_orE, Es_ite, Es_tup, Es_lst, Es_idx, Es_slc, Es_cb, Es_call, Es_callK, Es_rng, Es_frz, Es_lc, Eb_nil, Eb_one, Ei_nil, Ei_cons, It_seq, It_range, It_enum, It_zip, S_ex, S_asg, S_par, S_seti, S_app, S_ext, S_aug, S_augi, S_ret, S_ifs, S_for_, S_while_, S_never, Ss_nil, Ss_cons, getE_zero, getE_succ, ↓bind_rb, ↓ofR_rb, ↓rbk, ↓ork, rbk, ork, Bool.false_eq_true, if_false, oo_some, ob_some, om_some, getAll, OV.get, OV.refs, nodupN, putBack, set_zero, set_succ, List.set_cons_zero, List.set_cons_succ, bindT, bindTs, op2, List.contains_nil, List.contains_cons, Nat.reduceBEq, Bool.or_false, Bool.or_self, Bool.not_false, Bool.not_true, Bool.and_true, Bool.true_and, Bool.and_self, List.length_cons, List.length_nil, if_true, List.cons_append, List.nil_append, reduceIte, Nat.reduceLT, Nat.reduceAdd, prD, isD_tt, isD_ti, isD_lt, isD_li, isD_nt, isD_ni, isD_nb, isD_ii, isD_ib, isD_it, isD_bi, isD_bb, isD_bt, sz_0, sz_1, sz_2, sz_3, sz_4, sz_5, sz_6, sz_7, sz_8, sz_9, sz_10, sz_11, sz_12, sz_13, sz_14, sz_15, sz_16, sz_17, sz_18, sz_19, sz_20, D.own, seqOf, ownL_mapi, frzL_mapi, D.frz, List.append_nil, getAll_vals, ↓hz2, e3]
theorem number_ok (k : Nat) (F : List Int) (w t m : Int) (hl : F.length ≤ 5000) (hw : w.natAbs < 18446744073709551616)
    (hm : m ∈ F.sum :: (List.range (F.length + 1)).map (bnd F w t)) (hm2 : ∀ x ∈ F.sum :: (List.range (F.length + 1)).map (bnd F w t), m ≤ x) :
    runN PQ (k + 1) 11 [Fl F, .int w, .int t] = .ok (.int m) [Fl F, .int w, .int t] := by
  obtain ⟨ρ1, e⟩ := number_b (runN PQ k) F w t m hl hw hm hm2
  exact run_ret (lk := [0, 1, 2]) (ρ0 := [some (Fl F), some (.int w), some (.int t), none, none]) rfl rfl rfl rfl e rfl
theorem out_b (Φ : Fns) (F : D) (w t m : Int) (c4 : Φ 4 [F, .int w] = .ok .non [F, .int w]) (c5 : Φ 5 [.int t] = .ok .non [.int t]) (c11 : Φ 11 [F, .int w, .int t] = .ok (.int m) [F, .int w, .int t]) :
    exSs Φ [0, 1, 2] b_out_after [some F, some (.int w), some (.int t)] = .ret (.int m) [some F, some (.int w), some (.int t)] := by
  simp -dsimp only [b_out_after, E_const, E_glob, E_var, E_mov, E_op, E_isn, E_neg, E_notE, E_chain, E_andE, E_orE, E_ite, E_tup, E_lst, E_idx, E_slc, E_cb, E_call, E_callK, E_rng2, rngK_t, rngK_f, E_frz, Es_nil, Es_peek, Es_peekF, Es_star, Es_const, Es_glob, Es_var, Es_mov, Es_op, Es_isn, Es_neg, Es_notE, Es_chain, Es_andE, Es_orE, Es_ite, Es_tup, Es_lst, Es_idx, Es_slc, Es_cb, Es_call, Es_callK, Es_rng, Es_frz, Es_lc, Eb_nil, Eb_one, Ei_nil, Ei_cons, It_seq, It_range, It_enum, It_zip, S_ex, S_asg, S_par, S_seti, S_app, S_ext, S_aug, S_augi, S_ret, S_ifs, S_for_, S_while_, S_never, Ss_nil, Ss_cons, getE_zero, getE_succ, ↓bind_rb, ↓ofR_rb, ↓rbk, ↓ork, rbk, ork, Bool.false_eq_true, if_false, oo_some, ob_some, om_some, getAll, OV.get, OV.refs, nodupN, putBack, set_zero, set_succ, List.set_cons_zero, List.set_cons_succ, bindT, bindTs, op2, List.contains_nil, List.contains_cons, Nat.reduceBEq, Bool.or_false, Bool.or_self, Bool.not_false, Bool.not_true, Bool.and_true, Bool.true_and, Bool.and_self, List.length_cons, List.length_nil, if_true, List.cons_append, List.nil_append, reduceIte, Nat.reduceLT, Nat.reduceAdd, prD, isD_tt, isD_ti, isD_lt, isD_li, isD_nt, isD_ni, isD_nb, isD_ii, isD_ib, isD_it, isD_bi, isD_bb, isD_bt, sz_0, sz_1, sz_2, sz_3, sz_4, sz_5, sz_6, sz_7, sz_8, sz_9, sz_10, sz_11, sz_12, sz_13, sz_14, sz_15, sz_16, sz_17, sz_18, sz_19, sz_20, c4, c5, c11]
theorem out_ok (k : Nat) (F : List Int) (w t m : Int) (h : FOk F) (h1 : 1 ≤ w) (h2 : w ≤ 20) (t1 : 0 ≤ t) (t2 : t ≤ 400)
    (hm : m ∈ F.sum :: (List.range (F.length + 1)).map (bnd F w t)) (hm2 : ∀ x ∈ F.sum :: (List.range (F.length + 1)).map (bnd F w t), m ≤ x) :
    runN PQ (k + 6) 12 [Fl F, .int w, .int t] = .ok (.int m) [Fl F, .int w, .int t] :=
  run_ret (lk := [0, 1, 2]) (ρ0 := [some (Fl F), some (.int w), some (.int t)]) rfl rfl rfl rfl
    (out_b _ (Fl F) w t m (check_stair_ok k F w h h1 h2) (check_after_ok (k + 2) t t1 t2) (number_ok (k + 4) F w t m (by have := h.2.1; omega) (by omega) hm hm2)) rfl
/-! alone -/
def aloneN (w : Int) (p : Int × Nat) : Int := if 0 < p.1 then (p.2 : Int) + (p.1 + w - 1) / w else 0
theorem alone_b (Φ : Fns) (F : List Int) (w : Int) (hl : F.length ≤ SZ) (c6 : ∀ n, Φ 6 [.int n, .int w] = .ok (.int ((n + w - 1) / w)) [.int n, .int w]) :
    exSs Φ [0, 1] b_alone_by [some (Fl F), some (.int w), none, none] = .ret (.lst true ((F.zipIdx 0).map fun p => .int (aloneN w p))) [some (Fl F), some (.int w), none, none] := by
  have e := ev_lc_map Φ [2, 3] (.tup [(.slot 2), (.slot 3)]) (.enum [.peekF 0]) (.frz (.ite (.op .gt [.peek 3, .const (.int 0)]) (.op .add [.peek 2, .call 6 [.peek 3, .peek 1]]) (.const (.int 0)))) [some (Fl F), some (.int w), none, none] [some (Fl F), some (.int w), none, none]
    (F.zipIdx 0) (fun p => .tup [.int (p.2 : Int), .int p.1]) (fun p => .int (aloneN w p)) (fun p => [some (Fl F), some (.int w), some (.int (p.2 : Int)), some (.int p.1)])
    (by simp -dsimp only [E_const, E_glob, E_var, E_mov, E_op, E_isn, E_neg, E_notE, E_chain, E_andE, E_orE, E_ite, E_tup, E_lst, E_idx, E_slc, E_cb, E_call, E_callK, E_rng2, rngK_t, rngK_f, E_frz, Es_nil, Es_peek, Es_peekF, Es_star, Es_const, Es_glob, Es_var, Es_mov, Es_op, Es_isn, Es_neg, Es_notE, Es_chain, Es_andE, Es_orE, Es_ite, Es_tup, Es_lst, Es_idx, Es_slc, Es_cb, Es_call, Es_callK, Es_rng, Es_frz, Es_lc, Eb_nil, Eb_one, Ei_nil, Ei_cons, It_seq, It_range, It_enum, It_zip, S_ex, S_asg, S_par, S_seti, S_app, S_ext, S_aug, S_augi, S_ret, S_ifs, S_for_, S_while_, S_never, Ss_nil, Ss_cons, getE_zero, getE_succ, ↓bind_rb, ↓ofR_rb, ↓rbk, ↓ork, rbk, ork, Bool.false_eq_true, if_false, oo_some, ob_some, om_some, getAll, OV.get, OV.refs, nodupN, putBack, set_zero, set_succ, List.set_cons_zero, List.set_cons_succ, bindT, bindTs, op2, List.contains_nil, List.contains_cons, Nat.reduceBEq, Bool.or_false, Bool.or_self, Bool.not_false, Bool.not_true, Bool.and_true, Bool.true_and, Bool.and_self, List.length_cons, List.length_nil, if_true, List.cons_append, List.nil_append, reduceIte, Nat.reduceLT, Nat.reduceAdd, prD, isD_tt, isD_ti, isD_lt, isD_li, isD_nt, isD_ni, isD_nb, isD_ii, isD_ib, isD_it, isD_bi, isD_bb, isD_bt, sz_0, sz_1, sz_2, sz_3, sz_4, sz_5, sz_6, sz_7, sz_8, sz_9, sz_10, sz_11, sz_12, sz_13, sz_14, sz_15, sz_16, sz_17, sz_18, sz_19, sz_20, Fl, D.frz, frzL_int, itemsAll, itemsOf, D.own, ownL_int, seqOf, enumG, enumD_map]) (by simpa using hl) rfl
    (fun p hp => ⟨rfl, by
      simp -dsimp only [E_const, E_glob, E_var, E_mov, E_op, E_isn, E_neg, E_notE, E_chain, E_andE, E_orE, E_ite, E_tup, E_lst, E_idx, E_slc, E_cb, E_call, E_callK, E_rng2, rngK_t, rngK_f, E_frz, Es_nil, Es_peek, Es_peekF, Es_star, Es_const, Es_glob, Es_var, Es_mov, Es_op, Es_isn, Es_neg, Es_notE, Es_chain, Es_andE, Es_orE, Es_ite, Es_tup, Es_lst, Es_idx, Es_slc, Es_cb, Es_call, Es_callK, Es_rng, Es_frz, Es_lc, Eb_nil, Eb_one, Ei_nil, Ei_cons, It_seq, It_range, It_enum, It_zip, S_ex, S_asg, S_par, S_seti, S_app, S_ext, S_aug, S_augi, S_ret, S_ifs, S_for_, S_while_, S_never, Ss_nil, Ss_cons, getE_zero, getE_succ, ↓bind_rb, ↓ofR_rb, ↓rbk, ↓ork, rbk, ork, Bool.false_eq_true, if_false, oo_some, ob_some, om_some, getAll, OV.get, OV.refs, nodupN, putBack, set_zero, set_succ, List.set_cons_zero, List.set_cons_succ, bindT, bindTs, op2, List.contains_nil, List.contains_cons, Nat.reduceBEq, Bool.or_false, Bool.or_self, Bool.not_false, Bool.not_true, Bool.and_true, Bool.true_and, Bool.and_self, List.length_cons, List.length_nil, if_true, List.cons_append, List.nil_append, reduceIte, Nat.reduceLT, Nat.reduceAdd, prD, isD_tt, isD_ti, isD_lt, isD_li, isD_nt, isD_ni, isD_nb, isD_ii, isD_ib, isD_it, isD_bi, isD_bb, isD_bt, sz_0, sz_1, sz_2, sz_3, sz_4, sz_5, sz_6, sz_7, sz_8, sz_9, sz_10, sz_11, sz_12, sz_13, sz_14, sz_15, sz_16, sz_17, sz_18, sz_19, sz_20, cmpD]
      by_cases h : 0 < p.1
      · simp -dsimp only [h, decide_true, E_const, E_glob, E_var, E_mov, E_op, E_isn, E_neg, E_notE, E_chain, E_andE, E_orE, E_ite, E_tup, E_lst, E_idx, E_slc, E_cb, E_call, E_callK, E_rng2, rngK_t, rngK_f, E_frz, Es_nil, Es_peek, Es_peekF, Es_star, Es_const, Es_glob, Es_var, Es_mov, Es_op, Es_isn, Es_neg, Es_notE, Es_chain, Es_andE, Es_orE, Es_ite, Es_tup, Es_lst, Es_idx, Es_slc, Es_cb, Es_call, Es_callK, Es_rng, Es_frz, Es_lc, Eb_nil, Eb_one, Ei_nil, Ei_cons, It_seq, It_range, It_enum, It_zip, S_ex, S_asg, S_par, S_seti, S_app, S_ext, S_aug, S_augi, S_ret, S_ifs, S_for_, S_while_, S_never, Ss_nil, Ss_cons, getE_zero, getE_succ, ↓bind_rb, ↓ofR_rb, ↓rbk, ↓ork, rbk, ork, Bool.false_eq_true, if_false, oo_some, ob_some, om_some, getAll, OV.get, OV.refs, nodupN, putBack, set_zero, set_succ, List.set_cons_zero, List.set_cons_succ, bindT, bindTs, op2, List.contains_nil, List.contains_cons, Nat.reduceBEq, Bool.or_false, Bool.or_self, Bool.not_false, Bool.not_true, Bool.and_true, Bool.true_and, Bool.and_self, List.length_cons, List.length_nil, if_true, List.cons_append, List.nil_append, reduceIte, Nat.reduceLT, Nat.reduceAdd, prD, isD_tt, isD_ti, isD_lt, isD_li, isD_nt, isD_ni, isD_nb, isD_ii, isD_ib, isD_it, isD_bi, isD_bb, isD_bt, sz_0, sz_1, sz_2, sz_3, sz_4, sz_5, sz_6, sz_7, sz_8, sz_9, sz_10, sz_11, sz_12, sz_13, sz_14, sz_15, sz_16, sz_17, sz_18, sz_19, sz_20, c6, addD, D.frz, aloneN]
      · simp -dsimp only [h, decide_false, E_const, E_glob, E_var, E_mov, E_op, E_isn, E_neg, E_notE, E_chain, E_andE, E_orE, E_ite, E_tup, E_lst, E_idx, E_slc, E_cb, E_call, E_callK, E_rng2, rngK_t, rngK_f, E_frz, Es_nil, Es_peek, Es_peekF, Es_star, Es_const, Es_glob, Es_var, Es_mov, Es_op, Es_isn, Es_neg, Es_notE, Es_chain, Es_andE, Es_orE, Es_ite, Es_tup, Es_lst, Es_idx, Es_slc, Es_cb, Es_call, Es_callK, Es_rng, Es_frz, Es_lc, Eb_nil, Eb_one, Ei_nil, Ei_cons, It_seq, It_range, It_enum, It_zip, S_ex, S_asg, S_par, S_seti, S_app, S_ext, S_aug, S_augi, S_ret, S_ifs, S_for_, S_while_, S_never, Ss_nil, Ss_cons, getE_zero, getE_succ, ↓bind_rb, ↓ofR_rb, ↓rbk, ↓ork, rbk, ork, Bool.false_eq_true, if_false, oo_some, ob_some, om_some, getAll, OV.get, OV.refs, nodupN, putBack, set_zero, set_succ, List.set_cons_zero, List.set_cons_succ, bindT, bindTs, op2, List.contains_nil, List.contains_cons, Nat.reduceBEq, Bool.or_false, Bool.or_self, Bool.not_false, Bool.not_true, Bool.and_true, Bool.true_and, Bool.and_self, List.length_cons, List.length_nil, if_true, List.cons_append, List.nil_append, reduceIte, Nat.reduceLT, Nat.reduceAdd, prD, isD_tt, isD_ti, isD_lt, isD_li, isD_nt, isD_ni, isD_nb, isD_ii, isD_ib, isD_it, isD_bi, isD_bb, isD_bt, sz_0, sz_1, sz_2, sz_3, sz_4, sz_5, sz_6, sz_7, sz_8, sz_9, sz_10, sz_11, sz_12, sz_13, sz_14, sz_15, sz_16, sz_17, sz_18, sz_19, sz_20, D.frz, aloneN]⟩) (fun d hd => rfl) (fun d hd => rfl) rfl
  simp -dsimp only [b_alone_by, ↓e, E_const, E_glob, E_var, E_mov, E_op, E_isn, E_neg, E_notE, E_chain, E_andE, E_orE, E_ite, E_tup, E_lst, E_idx, E_slc, E_cb, E_call, E_callK, E_rng2, rngK_t, rngK_f, E_frz, Es_nil, Es_peek, Es_peekF, Es_star, Es_const, Es_glob, Es_var, Es_mov, Es_op, Es_isn, Es_neg, Es_notE, Es_chain, Es_andE, Es_orE, Es_ite, Es_tup, Es_lst, Es_idx, Es_slc, Es_cb, Es_call, Es_callK, Es_rng, Es_frz, Es_lc, Eb_nil, Eb_one, Ei_nil, Ei_cons, It_seq, It_range, It_enum, It_zip, S_ex, S_asg, S_par, S_seti, S_app, S_ext, S_aug, S_augi, S_ret, S_ifs, S_for_, S_while_, S_never, Ss_nil, Ss_cons, getE_zero, getE_succ, ↓bind_rb, ↓ofR_rb, ↓rbk, ↓ork, rbk, ork, Bool.false_eq_true, if_false, oo_some, ob_some, om_some, getAll, OV.get, OV.refs, nodupN, putBack, set_zero, set_succ, List.set_cons_zero, List.set_cons_succ, bindT, bindTs, op2, List.contains_nil, List.contains_cons, Nat.reduceBEq, Bool.or_false, Bool.or_self, Bool.not_false, Bool.not_true, Bool.and_true, Bool.true_and, Bool.and_self, List.length_cons, List.length_nil, if_true, List.cons_append, List.nil_append, reduceIte, Nat.reduceLT, Nat.reduceAdd, prD, isD_tt, isD_ti, isD_lt, isD_li, isD_nt, isD_ni, isD_nb, isD_ii, isD_ib, isD_it, isD_bi, isD_bb, isD_bt, sz_0, sz_1, sz_2, sz_3, sz_4, sz_5, sz_6, sz_7, sz_8, sz_9, sz_10, sz_11, sz_12, sz_13, sz_14, sz_15, sz_16, sz_17, sz_18, sz_19, sz_20]
theorem alone_by_ok (k : Nat) (F : List Int) (w : Int) (hl : F.length ≤ SZ) (h1 : 0 < w) (h2 : w < 1073741824) :
    runN PQ (k + 2) 13 [Fl F, .int w] = .ok (.lst true ((F.zipIdx 0).map fun p => .int (aloneN w p))) [Fl F, .int w] :=
  run_ret (lk := [0, 1]) (ρ0 := [some (Fl F), some (.int w), none, none]) rfl rfl rfl rfl (alone_b _ F w hl fun n => rounded_up_ok k n w h1 h2) rfl
theorem alone_out_b (Φ : Fns) (F : D) (w : Int) (xs : List D) (ho : ownL xs = false) (c4 : Φ 4 [F, .int w] = .ok .non [F, .int w]) (c13 : Φ 13 [F, .int w] = .ok (.lst true xs) [F, .int w]) :
    exSs Φ [0, 1] b_alone_out [some F, some (.int w)] = .ret (.tup xs) [some F, some (.int w)] := by
  simp -dsimp only [b_alone_out, E_const, E_glob, E_var, E_mov, E_op, E_isn, E_neg, E_notE, E_chain, E_andE, E_orE, E_ite, E_tup, E_lst, E_idx, E_slc, E_cb, E_call, E_callK, E_rng2, rngK_t, rngK_f, E_frz, Es_nil, Es_peek, Es_peekF, Es_star, Es_const, Es_glob, Es_var, Es_mov, Es_op, Es_isn, Es_neg, Es_notE, Es_chain, Es_andE, Es_orE, Es_ite, Es_tup, Es_lst, Es_idx, Es_slc, Es_cb, Es_call, Es_callK, Es_rng, Es_frz, Es_lc, Eb_nil, Eb_one, Ei_nil, Ei_cons, It_seq, It_range, It_enum, It_zip, S_ex, S_asg, S_par, S_seti, S_app, S_ext, S_aug, S_augi, S_ret, S_ifs, S_for_, S_while_, S_never, Ss_nil, Ss_cons, getE_zero, getE_succ, ↓bind_rb, ↓ofR_rb, ↓rbk, ↓ork, rbk, ork, Bool.false_eq_true, if_false, oo_some, ob_some, om_some, getAll, OV.get, OV.refs, nodupN, putBack, set_zero, set_succ, List.set_cons_zero, List.set_cons_succ, bindT, bindTs, op2, List.contains_nil, List.contains_cons, Nat.reduceBEq, Bool.or_false, Bool.or_self, Bool.not_false, Bool.not_true, Bool.and_true, Bool.true_and, Bool.and_self, List.length_cons, List.length_nil, if_true, List.cons_append, List.nil_append, reduceIte, Nat.reduceLT, Nat.reduceAdd, prD, isD_tt, isD_ti, isD_lt, isD_li, isD_nt, isD_ni, isD_nb, isD_ii, isD_ib, isD_it, isD_bi, isD_bb, isD_bt, sz_0, sz_1, sz_2, sz_3, sz_4, sz_5, sz_6, sz_7, sz_8, sz_9, sz_10, sz_11, sz_12, sz_13, sz_14, sz_15, sz_16, sz_17, sz_18, sz_19, sz_20, c4, c13, tupleD, seqOf, ho]
theorem alone_ok (k : Nat) (F : List Int) (w : Int) (h : FOk F) (h1 : 1 ≤ w) (h2 : w ≤ 20) :
    runN PQ (k + 6) 14 [Fl F, .int w] = .ok (.tup ((F.zipIdx 0).map fun p => .int (aloneN w p))) [Fl F, .int w] :=
  run_ret (lk := [0, 1]) (ρ0 := [some (Fl F), some (.int w)]) rfl rfl rfl rfl (alone_out_b _ (Fl F) w _ (ownL_mapi _ _) (check_stair_ok k F w h h1 h2) (alone_by_ok (k + 3) F w h.sz (by omega) (by omega))) rfl
/-! the least wide -/
def Lf (F : List Int) (w : Int) : Int := maxI (need F w 0) ((List.range (F.length - 1)).map fun j => need F w (j + 1))
theorem isL_Lf (F : List Int) (w : Int) (h : 1 ≤ F.length) : IsL F w (Lf F w) := by
  obtain ⟨a, b, c⟩ := maxI_le ((List.range (F.length - 1)).map fun j => need F w (j + 1)) (need F w 0)
  constructor
  · rcases c with c | c
    · exact ⟨0, by omega, c.symm⟩
    · simp only [List.mem_map, List.mem_range] at c
      obtain ⟨j, h1, h2⟩ := c
      exact ⟨j + 1, by omega, h2⟩
  · intro j hj
    cases j with
    | zero => exact a
    | succ j => exact b _ (by simp only [List.mem_map, List.mem_range]; exact ⟨j, by omega, rfl⟩)
def fineW (F : List Int) (t : Int) : List Nat := (List.range 20).filter fun j => decide (Lf F (1 + (j : Int)) ≤ t)
theorem widest_b (Φ : Fns) (F : List Int) (t : Int) (c3 : Φ 3 [Fl F] = .ok .non [Fl F]) (c5 : Φ 5 [.int t] = .ok .non [.int t]) (c8 : ∀ j : Nat, j < 20 → Φ 8 [Fl F, .int (1 + (j : Int))] = .ok (.int (Lf F (1 + (j : Int)))) [Fl F, .int (1 + (j : Int))]) :
    ∃ r, exSs Φ [0, 1] b_widest_need [some (Fl F), some (.int t), none, none] = .ret (match fineW F t with | [] => .non | j :: _ => .int (1 + (j : Int))) (some (Fl F) :: some (.int t) :: r) := by
  have e := ev_lc_if Φ [3] (.slot 3) (.range [.const (.int 1), .op .add [.glob (.int 20), .const (.int 1)]]) (.op .le [.call 8 [.peek 0, .peek 3], .peek 1]) (.var 3) [some (Fl F), some (.int t), none, none] [some (Fl F), some (.int t), none, none]
    (List.range 20) (fun j : Nat => .int (1 + (j : Int))) (fun j => decide (Lf F (1 + (j : Int)) ≤ t)) (fun j : Nat => .int (1 + (j : Int))) (fun j => [some (Fl F), some (.int t), none, some (.int (1 + (j : Int)))])
    (by
      have hr := rangeOf_two 1 (20 + 1) rfl rfl (by decide)
      simp -dsimp only [E_const, E_glob, E_var, E_mov, E_op, E_isn, E_neg, E_notE, E_chain, E_andE, E_orE, E_ite, E_tup, E_lst, E_idx, E_slc, E_cb, E_call, E_callK, E_rng2, rngK_t, rngK_f, E_frz, Es_nil, Es_peek, Es_peekF, Es_star, Es_const, Es_glob, Es_var, Es_mov, Es_op, Es_isn, Es_neg, Es_notE, Es_chain, Es_andE, Es_orE, Es_ite, Es_tup, Es_lst, Es_idx, Es_slc, Es_cb, Es_call, Es_callK, Es_rng, Es_frz, Es_lc, Eb_nil, Eb_one, Ei_nil, Ei_cons, It_seq, It_range, It_enum, It_zip, S_ex, S_asg, S_par, S_seti, S_app, S_ext, S_aug, S_augi, S_ret, S_ifs, S_for_, S_while_, S_never, Ss_nil, Ss_cons, getE_zero, getE_succ, ↓bind_rb, ↓ofR_rb, ↓rbk, ↓ork, rbk, ork, Bool.false_eq_true, if_false, oo_some, ob_some, om_some, getAll, OV.get, OV.refs, nodupN, putBack, set_zero, set_succ, List.set_cons_zero, List.set_cons_succ, bindT, bindTs, op2, List.contains_nil, List.contains_cons, Nat.reduceBEq, Bool.or_false, Bool.or_self, Bool.not_false, Bool.not_true, Bool.and_true, Bool.true_and, Bool.and_self, List.length_cons, List.length_nil, if_true, List.cons_append, List.nil_append, reduceIte, Nat.reduceLT, Nat.reduceAdd, prD, isD_tt, isD_ti, isD_lt, isD_li, isD_nt, isD_ni, isD_nb, isD_ii, isD_ib, isD_it, isD_bi, isD_bb, isD_bt, sz_0, sz_1, sz_2, sz_3, sz_4, sz_5, sz_6, sz_7, sz_8, sz_9, sz_10, sz_11, sz_12, sz_13, sz_14, sz_15, sz_16, sz_17, sz_18, sz_19, sz_20, addD, hr]; rfl) (by decide) rfl
    (fun j hj => ⟨rfl, by simp -dsimp only [E_const, E_glob, E_var, E_mov, E_op, E_isn, E_neg, E_notE, E_chain, E_andE, E_orE, E_ite, E_tup, E_lst, E_idx, E_slc, E_cb, E_call, E_callK, E_rng2, rngK_t, rngK_f, E_frz, Es_nil, Es_peek, Es_peekF, Es_star, Es_const, Es_glob, Es_var, Es_mov, Es_op, Es_isn, Es_neg, Es_notE, Es_chain, Es_andE, Es_orE, Es_ite, Es_tup, Es_lst, Es_idx, Es_slc, Es_cb, Es_call, Es_callK, Es_rng, Es_frz, Es_lc, Eb_nil, Eb_one, Ei_nil, Ei_cons, It_seq, It_range, It_enum, It_zip, S_ex, S_asg, S_par, S_seti, S_app, S_ext, S_aug, S_augi, S_ret, S_ifs, S_for_, S_while_, S_never, Ss_nil, Ss_cons, getE_zero, getE_succ, ↓bind_rb, ↓ofR_rb, ↓rbk, ↓ork, rbk, ork, Bool.false_eq_true, if_false, oo_some, ob_some, om_some, getAll, OV.get, OV.refs, nodupN, putBack, set_zero, set_succ, List.set_cons_zero, List.set_cons_succ, bindT, bindTs, op2, List.contains_nil, List.contains_cons, Nat.reduceBEq, Bool.or_false, Bool.or_self, Bool.not_false, Bool.not_true, Bool.and_true, Bool.true_and, Bool.and_self, List.length_cons, List.length_nil, if_true, List.cons_append, List.nil_append, reduceIte, Nat.reduceLT, Nat.reduceAdd, prD, isD_tt, isD_ti, isD_lt, isD_li, isD_nt, isD_ni, isD_nb, isD_ii, isD_ib, isD_it, isD_bi, isD_bb, isD_bt, sz_0, sz_1, sz_2, sz_3, sz_4, sz_5, sz_6, sz_7, sz_8, sz_9, sz_10, sz_11, sz_12, sz_13, sz_14, sz_15, sz_16, sz_17, sz_18, sz_19, sz_20, c8 j (List.mem_range.1 hj), cmpD], fun _ => by simp -dsimp only [E_const, E_glob, E_var, E_mov, E_op, E_isn, E_neg, E_notE, E_chain, E_andE, E_orE, E_ite, E_tup, E_lst, E_idx, E_slc, E_cb, E_call, E_callK, E_rng2, rngK_t, rngK_f, E_frz, Es_nil, Es_peek, Es_peekF, Es_star, Es_const, Es_glob, Es_var, Es_mov, Es_op, Es_isn, Es_neg, Es_notE, Es_chain, Es_andE, Es_orE, Es_ite, Es_tup, Es_lst, Es_idx, Es_slc, Es_cb, Es_call, Es_callK, Es_rng, Es_frz, Es_lc, Eb_nil, Eb_one, Ei_nil, Ei_cons, It_seq, It_range, It_enum, It_zip, S_ex, S_asg, S_par, S_seti, S_app, S_ext, S_aug, S_augi, S_ret, S_ifs, S_for_, S_while_, S_never, Ss_nil, Ss_cons, getE_zero, getE_succ, ↓bind_rb, ↓ofR_rb, ↓rbk, ↓ork, rbk, ork, Bool.false_eq_true, if_false, oo_some, ob_some, om_some, getAll, OV.get, OV.refs, nodupN, putBack, set_zero, set_succ, List.set_cons_zero, List.set_cons_succ, bindT, bindTs, op2, List.contains_nil, List.contains_cons, Nat.reduceBEq, Bool.or_false, Bool.or_self, Bool.not_false, Bool.not_true, Bool.and_true, Bool.true_and, Bool.and_self, List.length_cons, List.length_nil, if_true, List.cons_append, List.nil_append, reduceIte, Nat.reduceLT, Nat.reduceAdd, prD, isD_tt, isD_ti, isD_lt, isD_li, isD_nt, isD_ni, isD_nb, isD_ii, isD_ib, isD_it, isD_bi, isD_bb, isD_bt, sz_0, sz_1, sz_2, sz_3, sz_4, sz_5, sz_6, sz_7, sz_8, sz_9, sz_10, sz_11, sz_12, sz_13, sz_14, sz_15, sz_16, sz_17, sz_18, sz_19, sz_20, D.own]⟩) (fun d hd => rfl) (fun d hd => rfl) rfl
  have hs : PySem.SeqAt.shaped (.list (pdL ((fineW F t).map fun j : Nat => D.int (1 + (j : Int))))) = true := by
    have h1 : PySem.PyData.canLayAll0 ((fineW F t).map fun j : Nat => (D.int (1 + (j : Int))).pd) = true := canLayAll_map _ _ fun _ _ => rfl
    have h2 : PySem.PyData.depthAll ((fineW F t).map fun j : Nat => (D.int (1 + (j : Int))).pd) ≤ 0 := depthAll_map _ _ 0 fun _ _ => Nat.le_refl _
    rw [pdL_map]
    show (PySem.PyData.canLayAll0 _ && decide (PySem.PyData.depthAll _ + 1 ≤ 64)) = true
    rw [h1, Bool.true_and, decide_eq_true_eq]
    omega
  have hs0 : PySem.SeqAt.shaped (.list []) = true := rfl
  have hp : isPdL ((fineW F t).map fun j : Nat => D.int (1 + (j : Int))) = true := isPdL_map _ _ fun _ _ => rfl
  refine ⟨[some (.lst true ((fineW F t).map fun j : Nat => D.int (1 + (j : Int)))), none], ?_⟩
  rw [← fineW] at e
  cases hf : fineW F t with
  | nil =>
    rw [hf] at e hs hp
    simp only [List.map_nil] at e hs hp
    simp -dsimp only [b_widest_need, ↓e, E_const, E_glob, E_var, E_mov, E_op, E_isn, E_neg, E_notE, E_chain, E_andE, E_orE, E_ite, E_tup, E_lst, E_idx, E_slc, E_cb, E_call, E_callK, E_rng2, rngK_t, rngK_f, E_frz, Es_nil, Es_peek, Es_peekF, Es_star, Es_const, Es_glob, Es_var, Es_mov, Es_op, Es_isn, Es_neg, Es_notE, Es_chain, Es_andE, Es_orE, Es_ite, Es_tup, Es_lst, Es_idx, Es_slc, Es_cb, Es_call, Es_callK, Es_rng, Es_frz, Es_lc, Eb_nil, Eb_one, Ei_nil, Ei_cons, It_seq, It_range, It_enum, It_zip, S_ex, S_asg, S_par, S_seti, S_app, S_ext, S_aug, S_augi, S_ret, S_ifs, S_for_, S_while_, S_never, Ss_nil, Ss_cons, getE_zero, getE_succ, ↓bind_rb, ↓ofR_rb, ↓rbk, ↓ork, rbk, ork, Bool.false_eq_true, if_false, oo_some, ob_some, om_some, getAll, OV.get, OV.refs, nodupN, putBack, set_zero, set_succ, List.set_cons_zero, List.set_cons_succ, bindT, bindTs, op2, List.contains_nil, List.contains_cons, Nat.reduceBEq, Bool.or_false, Bool.or_self, Bool.not_false, Bool.not_true, Bool.and_true, Bool.true_and, Bool.and_self, List.length_cons, List.length_nil, if_true, List.cons_append, List.nil_append, reduceIte, Nat.reduceLT, Nat.reduceAdd, prD, isD_tt, isD_ti, isD_lt, isD_li, isD_nt, isD_ni, isD_nb, isD_ii, isD_ib, isD_it, isD_bi, isD_bb, isD_bt, sz_0, sz_1, sz_2, sz_3, sz_4, sz_5, sz_6, sz_7, sz_8, sz_9, sz_10, sz_11, sz_12, sz_13, sz_14, sz_15, sz_16, sz_17, sz_18, sz_19, sz_20, c3, c5, eqD, D.isPd, D.pd, pdL, hs0, isPdL, PySem.PyData.eqv, PySem.PyData.eqvAll, List.map_nil]
  | cons j r =>
    rw [hf] at e hs hp
    have h0 : L2.atI (D.int (1 + (j : Int)) :: r.map fun j : Nat => D.int (1 + (j : Int))) 0 = some (D.int (1 + (j : Int))) := atI_nat _ 0
    simp only [List.map_cons] at e hs hp
    simp only [pdL, D.pd] at hs
    simp only [isPdL, D.isPd, Bool.true_and] at hp
    simp -dsimp only [b_widest_need, ↓e, E_const, E_glob, E_var, E_mov, E_op, E_isn, E_neg, E_notE, E_chain, E_andE, E_orE, E_ite, E_tup, E_lst, E_idx, E_slc, E_cb, E_call, E_callK, E_rng2, rngK_t, rngK_f, E_frz, Es_nil, Es_peek, Es_peekF, Es_star, Es_const, Es_glob, Es_var, Es_mov, Es_op, Es_isn, Es_neg, Es_notE, Es_chain, Es_andE, Es_orE, Es_ite, Es_tup, Es_lst, Es_idx, Es_slc, Es_cb, Es_call, Es_callK, Es_rng, Es_frz, Es_lc, Eb_nil, Eb_one, Ei_nil, Ei_cons, It_seq, It_range, It_enum, It_zip, S_ex, S_asg, S_par, S_seti, S_app, S_ext, S_aug, S_augi, S_ret, S_ifs, S_for_, S_while_, S_never, Ss_nil, Ss_cons, getE_zero, getE_succ, ↓bind_rb, ↓ofR_rb, ↓rbk, ↓ork, rbk, ork, Bool.false_eq_true, if_false, oo_some, ob_some, om_some, getAll, OV.get, OV.refs, nodupN, putBack, set_zero, set_succ, List.set_cons_zero, List.set_cons_succ, bindT, bindTs, op2, List.contains_nil, List.contains_cons, Nat.reduceBEq, Bool.or_false, Bool.or_self, Bool.not_false, Bool.not_true, Bool.and_true, Bool.true_and, Bool.and_self, List.length_cons, List.length_nil, if_true, List.cons_append, List.nil_append, reduceIte, Nat.reduceLT, Nat.reduceAdd, prD, isD_tt, isD_ti, isD_lt, isD_li, isD_nt, isD_ni, isD_nb, isD_ii, isD_ib, isD_it, isD_bi, isD_bb, isD_bt, sz_0, sz_1, sz_2, sz_3, sz_4, sz_5, sz_6, sz_7, sz_8, sz_9, sz_10, sz_11, sz_12, sz_13, sz_14, sz_15, sz_16, sz_17, sz_18, sz_19, sz_20, c3, c5, eqD, D.isPd, hp, D.pd, pdL, hs, hs0, isPdL, PySem.PyData.eqv, PySem.PyData.eqvAll, List.map_cons, idxD, h0, itemD, D.own]
theorem widest_ok (k : Nat) (F : List Int) (t : Int) (h : FOk F) (t1 : 0 ≤ t) (t2 : t ≤ 400) :
    runN PQ (k + 5) 15 [Fl F, .int t] = .ok (match fineW F t with | [] => .non | j :: _ => .int (1 + (j : Int))) [Fl F, .int t] := by
  obtain ⟨r, e⟩ := widest_b (runN PQ (k + 4)) F t (check_floors_ok k F h) (check_after_ok (k + 1) t t1 t2) fun j hj => least_ok (k + 1) F (1 + (j : Int)) _ h.sz (by omega) (by omega) (isL_Lf F _ h.1)
  exact run_ret (lk := [0, 1]) (ρ0 := [some (Fl F), some (.int t), none, none]) rfl rfl rfl rfl e rfl
end LW
end

section
set_option linter.all false
set_option maxRecDepth 100000
namespace LW
/-! people that go down one stair: plain mathematics -/
def mn (w x : Int) : Int := if x < w then x else w
def stepF (w : Int) (s : List Int) : List Int := (s.zip ((s.map (mn w)).zip ((s.map (mn w)).drop 1 ++ [0]))).map fun p => p.1 - p.2.1 + p.2.2
theorem stepF_two (w x y : Int) (r : List Int) : stepF w (x :: y :: r) = (x - mn w x + mn w y) :: stepF w (y :: r) := by
  simp [stepF]
theorem stepF_one (w x : Int) : stepF w [x] = [x - mn w x + 0] := by simp [stepF]
theorem stepF_nil (w : Int) : stepF w [] = [] := by simp [stepF]
theorem stepF_length (w : Int) (s : List Int) : (stepF w s).length = s.length := by
  cases s with
  | nil => rfl
  | cons x r => simp [stepF]
theorem stepF_sum (w : Int) : ∀ (r : List Int) (x : Int), (stepF w (x :: r)).sum = (x + r.sum) - mn w x
  | [], x => by simp [stepF_one]
  | y :: r, x => by
    rw [stepF_two, List.sum_cons, stepF_sum w r y, List.sum_cons]
    omega
theorem stepF_drop (w : Int) : ∀ (j : Nat) (s : List Int), (stepF w s).drop j = stepF w (s.drop j)
  | 0, s => rfl
  | j + 1, [] => by simp [stepF_nil]
  | j + 1, [x] => by simp [stepF_one, stepF_nil]
  | j + 1, x :: y :: r => by
    rw [stepF_two, List.drop_succ_cons, List.drop_succ_cons, stepF_drop w j (y :: r)]
theorem S_step (w : Int) (hw : 0 ≤ w) (s : List Int) (j : Nat) : S (stepF w s) j = max (S s j - w) (S s (j + 1)) := by
  unfold S
  rw [stepF_drop]
  have e : s.drop (j + 1) = (s.drop j).drop 1 := by rw [List.drop_drop]
  rw [e]
  generalize s.drop j = r
  cases r with
  | nil => simp [stepF_nil]; omega
  | cons x r =>
    rw [stepF_sum, List.sum_cons]
    simp only [List.drop_succ_cons, List.drop_zero]
    unfold mn
    split <;> omega
def it (w : Int) : Nat → List Int → List Int
  | 0, s => s
  | t + 1, s => stepF w (it w t s)
theorem it_length (w : Int) (t : Nat) (s : List Int) : (it w t s).length = s.length := by
  induction t with
  | zero => rfl
  | succ t ih => rw [it, stepF_length, ih]
theorem it_ge (w : Int) (hw : 0 ≤ w) (s : List Int) : ∀ (t i : Nat), i ≤ t → ∀ j, S s (j + i) - w * ((t : Int) - (i : Int)) ≤ S (it w t s) j
  | 0, i, h, j => by
    have : i = 0 := by omega
    subst this
    simp [it]
  | t + 1, i, h, j => by
    rw [it, S_step w hw]
    by_cases hi : i = t + 1
    · subst hi
      have := it_ge w hw s t t (Nat.le_refl t) (j + 1)
      have e : j + 1 + t = j + (t + 1) := by omega
      rw [e] at this
      simp only [Int.sub_self, Int.mul_zero] at this ⊢
      omega
    · have := it_ge w hw s t i (by omega) j
      have e : w * (((t + 1 : Nat) : Int) - (i : Int)) = w * ((t : Int) - (i : Int)) + w := by
        have : (((t + 1 : Nat) : Int) - (i : Int)) = ((t : Int) - (i : Int)) + 1 := by omega
        rw [this, Int.mul_add, Int.mul_one]
      rw [e]; omega
theorem it_ex (w : Int) (hw : 0 ≤ w) (s : List Int) : ∀ (t j : Nat), ∃ i, i ≤ t ∧ S (it w t s) j = S s (j + i) - w * ((t : Int) - (i : Int))
  | 0, j => ⟨0, Nat.le_refl _, by simp [it]⟩
  | t + 1, j => by
    rw [it, S_step w hw]
    by_cases h : S (it w t s) j - w ≤ S (it w t s) (j + 1)
    · obtain ⟨i, hi, e⟩ := it_ex w hw s t (j + 1)
      refine ⟨i + 1, by omega, ?_⟩
      have e2 : j + 1 + i = j + (i + 1) := by omega
      rw [e2] at e
      have e3 : (((t + 1 : Nat) : Int) - ((i + 1 : Nat) : Int)) = (t : Int) - (i : Int) := by omega
      rw [e3, ← e]; omega
    · obtain ⟨i, hi, e⟩ := it_ex w hw s t j
      refine ⟨i, by omega, ?_⟩
      have e4 : w * (((t + 1 : Nat) : Int) - (i : Int)) = w * ((t : Int) - (i : Int)) + w := by
        have : (((t + 1 : Nat) : Int) - (i : Int)) = ((t : Int) - (i : Int)) + 1 := by omega
        rw [this, Int.mul_add, Int.mul_one]
      rw [e4]; omega
def NN (s : List Int) : Prop := ∀ x ∈ s, (0 : Int) ≤ x
theorem sum_nn : ∀ (s : List Int), NN s → 0 ≤ s.sum
  | [], _ => by simp
  | x :: r, h => by
    have h1 := h x (by simp)
    have h2 := sum_nn r (fun y hy => h y (by simp [hy]))
    simp; omega
theorem S_nn (s : List Int) (h : NN s) (j : Nat) : 0 ≤ S s j := sum_nn _ fun x hx => h x (List.mem_of_mem_drop hx)
theorem S_mono (s : List Int) (h : NN s) (j k : Nat) (hjk : j ≤ k) : S s k ≤ S s j := by
  induction hjk with
  | refl => exact Int.le_refl _
  | @step k _ ih =>
    refine Int.le_trans ?_ ih
    unfold S
    have e : s.drop (k + 1) = (s.drop k).drop 1 := by rw [List.drop_drop]
    have h2 : NN (s.drop k) := fun x hx => h x (List.mem_of_mem_drop hx)
    rw [e]
    generalize s.drop k = r at h2
    cases r with
    | nil => simp
    | cons x r => have := h2 x (by simp); simp; omega
theorem S_zero (s : List Int) (j : Nat) (h : s.length ≤ j) : S s j = 0 := by
  unfold S; rw [List.drop_eq_nil_of_le h]; rfl
theorem it_nn (w : Int) (hw : 0 ≤ w) (s : List Int) (h : NN s) (t j : Nat) : 0 ≤ S (it w t s) j := by
  have := it_ge w hw s t t (Nat.le_refl t) j
  have := S_nn s h (j + t)
  simp only [Int.sub_self, Int.mul_zero] at *
  omega
/-- somebody is inside before the greatest need, and nobody behind it -/
theorem it_pos (w L : Int) (hw : 0 < w) (s : List Int) (h : NN s) (hL : IsL s w L) (t : Nat) : 0 < S (it w t s) 0 ↔ (t : Int) < L := by
  constructor
  · intro hp
    obtain ⟨i, hi, e⟩ := it_ex w (by omega) s t 0
    rw [Nat.zero_add] at e
    have h0 : 0 ≤ w * ((t : Int) - (i : Int)) := Int.mul_nonneg (by omega) (by omega)
    have hS : 0 < S s i := by omega
    have hin : i < s.length := by
      by_cases hc : i < s.length
      · exact hc
      · rw [S_zero s i (by omega)] at hS; omega
    have hn := hL.2 i hin
    have hq : (t : Int) - (i : Int) + 1 ≤ (S s i + w - 1) / w := by
      rw [Int.le_ediv_iff_mul_le hw, Int.add_mul, Int.one_mul, Int.mul_comm]
      omega
    unfold need at hn
    rw [if_pos hS] at hn
    omega
  · intro hp
    obtain ⟨j, hj, e⟩ := hL.1
    unfold need at e
    by_cases hS : 0 < S s j
    · rw [if_pos hS] at e
      by_cases hjt : j ≤ t
      · have hq : (t : Int) - (j : Int) + 1 ≤ (S s j + w - 1) / w := by omega
        rw [Int.le_ediv_iff_mul_le hw, Int.add_mul, Int.one_mul, Int.mul_comm] at hq
        have := it_ge w (by omega) s t j hjt 0
        rw [Nat.zero_add] at this
        omega
      · have h1 := it_ge w (by omega) s t t (Nat.le_refl t) 0
        have h2 := S_mono s h t j (by omega)
        simp only [Int.sub_self, Int.mul_zero, Nat.zero_add] at h1
        omega
    · rw [if_neg hS] at e
      omega
/-- the bounds of the program tell just as many -/
theorem bnd_min (w : Int) (hw : 0 < w) (s : List Int) (h : NN s) (t : Nat) :
    s.sum - S (it w t s) 0 ∈ s.sum :: (List.range (s.length + 1)).map (bnd s w (t : Int)) ∧ ∀ x ∈ s.sum :: (List.range (s.length + 1)).map (bnd s w (t : Int)), s.sum - S (it w t s) 0 ≤ x := by
  have hsplit : ∀ j, (s.take j).sum = s.sum - S s j := fun j => by
    have := congrArg List.sum (List.take_append_drop j s)
    rw [List.sum_append] at this
    unfold S; omega
  have hnn := it_nn w (by omega) s h t 0
  constructor
  · obtain ⟨i, hi, e⟩ := it_ex w (by omega) s t 0
    rw [Nat.zero_add] at e
    by_cases hin : i ≤ s.length
    · refine List.mem_cons_of_mem _ (List.mem_map.2 ⟨i, List.mem_range.2 (by omega), ?_⟩)
      unfold bnd
      rw [hsplit, e]
      by_cases hp : (t : Int) - (i : Int) > 0
      · rw [if_pos hp]; omega
      · have hz : (t : Int) - (i : Int) = 0 := by omega
        rw [if_neg hp, hz]; omega
    · have h0 : 0 ≤ w * ((t : Int) - (i : Int)) := Int.mul_nonneg (by omega) (by omega)
      rw [S_zero s i (by omega)] at e
      have : S (it w t s) 0 = 0 := by omega
      rw [this]; simp
  · intro x hx
    rcases List.mem_cons.1 hx with rfl | hx
    · omega
    · obtain ⟨j, hj, rfl⟩ := List.mem_map.1 hx
      unfold bnd
      rw [hsplit]
      by_cases hjt : j ≤ t
      · have h1 := it_ge w (by omega) s t j hjt 0
        rw [Nat.zero_add] at h1
        by_cases hp : (t : Int) - (j : Int) > 0
        · rw [if_pos hp]; omega
        · have hz : (t : Int) - (j : Int) = 0 := by omega
          rw [hz] at h1
          rw [if_neg hp]; omega
      · have h1 := it_ge w (by omega) s t t (Nat.le_refl t) 0
        have h2 := S_mono s h t j (by omega)
        simp only [Int.sub_self, Int.mul_zero, Nat.zero_add] at h1
        rw [if_neg (by omega)]; omega
end LW
end

section
set_option linter.all false
set_option maxRecDepth 100000
set_option maxHeartbeats 1000000
namespace LW
open Mi
theorem take_b1 (Φ : Fns) (a b c u : Int) (ha : 0 < a) (hu : 0 < u) (hu2 : u < 1073741824) :
    exSs Φ [0, 1] b__law_take [some (potD a b c), some (.int u), none, none, none] = .ret (.int (a % u)) [some (potD (a / u) b c), some (.int u), none, none, none] := by
  simp -dsimp only [b__law_take, E_const, E_glob, E_var, E_mov, E_op, E_isn, E_neg, E_notE, E_chain, E_andE, E_orE, E_ite, E_tup, E_lst, E_idx, E_slc, E_cb, E_call, E_callK, E_rng2, rngK_t, rngK_f, E_frz, Es_nil, Es_peek, Es_peekF, Es_star, Es_const, Es_glob, Es_var, Es_mov, Es_op, Es_isn, Es_neg, Es_notE, Es_chain, Es_andE, Es_orE, Es_ite, Es_tup, Es_lst, Es_idx, Es_slc, Es_cb, Es_call, Es_callK, Es_rng, Es_frz, Es_lc, Eb_nil, Eb_one, Ei_nil, Ei_cons, It_seq, It_range, It_enum, It_zip, S_ex, S_asg, S_par, S_seti, S_app, S_ext, S_aug, S_augi, S_ret, S_ifs, S_for_, S_while_, S_never, Ss_nil, Ss_cons, getE_zero, getE_succ, ↓bind_rb, ↓ofR_rb, ↓rbk, ↓ork, rbk, ork, Bool.false_eq_true, if_false, oo_some, ob_some, om_some, getAll, OV.get, OV.refs, nodupN, putBack, set_zero, set_succ, List.set_cons_zero, List.set_cons_succ, bindT, bindTs, op2, List.contains_nil, List.contains_cons, Nat.reduceBEq, Bool.or_false, Bool.or_self, Bool.not_false, Bool.not_true, Bool.and_true, Bool.true_and, Bool.and_self, List.length_cons, List.length_nil, if_true, List.cons_append, List.nil_append, reduceIte, Nat.reduceLT, Nat.reduceAdd, prD, isD_tt, isD_ti, isD_lt, isD_li, isD_nt, isD_ni, isD_nb, isD_ii, isD_ib, isD_it, isD_bi, isD_bb, isD_bt, sz_0, sz_1, sz_2, sz_3, sz_4, sz_5, sz_6, sz_7, sz_8, sz_9, sz_10, sz_11, sz_12, sz_13, sz_14, sz_15, sz_16, sz_17, sz_18, sz_19, sz_20, potD, idxD, at3_0, itemD, D.own, cmpD, ha, decide_true, intD, modD_pos a u hu, fdivD_pos a u hu hu2, isOwnL, ix3_0]
theorem take_b2 (Φ : Fns) (a b c u : Int) (ha : ¬ 0 < a) (hb : 0 ≤ b ∧ b < 2305843009213693951) (hc : 0 ≤ c ∧ c ≤ 1000000000) (hu : 0 < u) :
    ∃ v p q, exSs Φ [0, 1] b__law_take [some (potD a b c), some (.int u), none, none, none] = .ret (.int v) [some (potD a b (c + 1)), some (.int u), p, q, none] ∧ 0 ≤ v ∧ v < u := by
  obtain ⟨P, hP, hP1, hP2⟩ := primes (c + 1) 2147483647 2147483629 2147483587 2147483579 (by decide) (by decide) (by decide) (by decide)
  have h1 := pot_cube b (c + 1) 137689 3735 hb (by omega) (by decide) (by decide)
  generalize hx : (b + 137689 * (c + 1) * (c + 1) + 3735) ^ 3 % P = x
  have hx1 : 0 ≤ x := by rw [← hx]; exact Int.emod_nonneg _ (by omega)
  have hx2 : x < P := by rw [← hx]; exact Int.emod_lt_of_pos _ hP1
  refine ⟨(x * (x % 10007 + 2937 * (c + 1)) / 307) % u, some (.int P), some (.int x), ?_, Int.emod_nonneg _ (by omega), Int.emod_lt_of_pos _ hu⟩
  simp -dsimp only [b__law_take, E_const, E_glob, E_var, E_mov, E_op, E_isn, E_neg, E_notE, E_chain, E_andE, E_orE, E_ite, E_tup, E_lst, E_idx, E_slc, E_cb, E_call, E_callK, E_rng2, rngK_t, rngK_f, E_frz, Es_nil, Es_peek, Es_peekF, Es_star, Es_const, Es_glob, Es_var, Es_mov, Es_op, Es_isn, Es_neg, Es_notE, Es_chain, Es_andE, Es_orE, Es_ite, Es_tup, Es_lst, Es_idx, Es_slc, Es_cb, Es_call, Es_callK, Es_rng, Es_frz, Es_lc, Eb_nil, Eb_one, Ei_nil, Ei_cons, It_seq, It_range, It_enum, It_zip, S_ex, S_asg, S_par, S_seti, S_app, S_ext, S_aug, S_augi, S_ret, S_ifs, S_for_, S_while_, S_never, Ss_nil, Ss_cons, getE_zero, getE_succ, ↓bind_rb, ↓ofR_rb, ↓rbk, ↓ork, rbk, ork, Bool.false_eq_true, if_false, oo_some, ob_some, om_some, getAll, OV.get, OV.refs, nodupN, putBack, set_zero, set_succ, List.set_cons_zero, List.set_cons_succ, bindT, bindTs, op2, List.contains_nil, List.contains_cons, Nat.reduceBEq, Bool.or_false, Bool.or_self, Bool.not_false, Bool.not_true, Bool.and_true, Bool.true_and, Bool.and_self, List.length_cons, List.length_nil, if_true, List.cons_append, List.nil_append, reduceIte, Nat.reduceLT, Nat.reduceAdd, prD, isD_tt, isD_ti, isD_lt, isD_li, isD_nt, isD_ni, isD_nb, isD_ii, isD_ib, isD_it, isD_bi, isD_bb, isD_bt, sz_0, sz_1, sz_2, sz_3, sz_4, sz_5, sz_6, sz_7, sz_8, sz_9, sz_10, sz_11, sz_12, sz_13, sz_14, sz_15, sz_16, sz_17, sz_18, sz_19, sz_20, potD, idxD, at3_0, at3_1, at3_2, itemD, D.own, cmpD, ha, decide_false, intD, addD, isOwnL, ix3_2, modD_pos (c + 1) 4 (by decide), ownL, hP,
    mulD_l 137689 (c + 1) (by decide), mulD_r (137689 * (c + 1)) (c + 1) (by omega), pow3D _ h1, modD_pos _ P hP1, hx, modD_pos x 10007 (by decide), mulD_l 2937 (c + 1) (by decide), mulD_l x _ (show x.natAbs < 18446744073709551616 by omega), fdivD_pos _ 307 (by decide) (by decide), modD_pos _ u hu]
theorem take_ok (k n : Nat) (d : D) (u : Int) (hd : Pot n d) (hn : n ≤ 1000000000) (hu : 0 < u) (hu2 : u < 1073741824) :
    ∃ v d', runN PQ (k + 1) 17 [d, .int u] = .ok (.int v) [d', .int u] ∧ 0 ≤ v ∧ v < u ∧ Pot (n + 1) d' := by
  obtain ⟨a, b, c, rfl, h1, h2, h3, h4, h5⟩ := hd
  by_cases ha : 0 < a
  · refine ⟨a % u, potD (a / u) b c, run_ret (lk := [0, 1]) (ρ0 := [some (potD a b c), some (.int u), none, none, none]) rfl rfl rfl rfl (take_b1 _ a b c u ha hu hu2) rfl, Int.emod_nonneg _ (by omega), Int.emod_lt_of_pos _ hu, ?_⟩
    exact ⟨a / u, b, c, rfl, Int.ediv_nonneg h1 (by omega), h2, h3, h4, by omega⟩
  · obtain ⟨v, p, q, e, v1, v2⟩ := take_b2 (runN PQ k) a b c u ha ⟨h2, h3⟩ ⟨h4, by omega⟩ hu
    refine ⟨v, potD a b (c + 1), run_ret (lk := [0, 1]) (ρ0 := [some (potD a b c), some (.int u), none, none, none]) rfl rfl rfl rfl e rfl, v1, v2, ?_⟩
    exact ⟨a, b, c + 1, rfl, h1, h2, h3, by omega, by omega⟩
theorem of_b (Φ : Fns) (d d' x : D) (xs : List D) (v : Int) (c : Φ 17 [d, .int (xs.length : Int)] = .ok (.int v) [d', .int (xs.length : Int)]) (hx : L2.atI xs v = some x) (ho : x.own = false) :
    exSs Φ [0, 1] b__law_of [some d, some (.lst true xs)] = .ret x [some d', some (.lst true xs)] := by
  simp -dsimp only [b__law_of, E_const, E_glob, E_var, E_mov, E_op, E_isn, E_neg, E_notE, E_chain, E_andE, E_orE, E_ite, E_tup, E_lst, E_idx, E_slc, E_cb, E_call, E_callK, E_rng2, rngK_t, rngK_f, E_frz, Es_nil, Es_peek, Es_peekF, Es_star, Es_const, Es_glob, Es_var, Es_mov, Es_op, Es_isn, Es_neg, Es_notE, Es_chain, Es_andE, Es_orE, Es_ite, Es_tup, Es_lst, Es_idx, Es_slc, Es_cb, Es_call, Es_callK, Es_rng, Es_frz, Es_lc, Eb_nil, Eb_one, Ei_nil, Ei_cons, It_seq, It_range, It_enum, It_zip, S_ex, S_asg, S_par, S_seti, S_app, S_ext, S_aug, S_augi, S_ret, S_ifs, S_for_, S_while_, S_never, Ss_nil, Ss_cons, getE_zero, getE_succ, ↓bind_rb, ↓ofR_rb, ↓rbk, ↓ork, rbk, ork, Bool.false_eq_true, if_false, oo_some, ob_some, om_some, getAll, OV.get, OV.refs, nodupN, putBack, set_zero, set_succ, List.set_cons_zero, List.set_cons_succ, bindT, bindTs, op2, List.contains_nil, List.contains_cons, Nat.reduceBEq, Bool.or_false, Bool.or_self, Bool.not_false, Bool.not_true, Bool.and_true, Bool.true_and, Bool.and_self, List.length_cons, List.length_nil, if_true, List.cons_append, List.nil_append, reduceIte, Nat.reduceLT, Nat.reduceAdd, prD, isD_tt, isD_ti, isD_lt, isD_li, isD_nt, isD_ni, isD_nb, isD_ii, isD_ib, isD_it, isD_bi, isD_bb, isD_bt, sz_0, sz_1, sz_2, sz_3, sz_4, sz_5, sz_6, sz_7, sz_8, sz_9, sz_10, sz_11, sz_12, sz_13, sz_14, sz_15, sz_16, sz_17, sz_18, sz_19, sz_20, lenD, c, idxD, hx, itemD, ho]
theorem of_ok (k n : Nat) (d : D) (xs : List D) (hd : Pot n d) (hn : n ≤ 1000000000) (h0 : 0 < xs.length) (h1 : xs.length < 1000000000) (ho : ∀ x ∈ xs, x.own = false) :
    ∃ x d', runN PQ (k + 2) 18 [d, .lst true xs] = .ok x [d', .lst true xs] ∧ x ∈ xs ∧ Pot (n + 1) d' := by
  obtain ⟨v, d', c, v1, v2, p⟩ := take_ok k n d (xs.length : Int) hd hn (by omega) (by omega)
  obtain ⟨j, rfl⟩ := Int.eq_ofNat_of_zero_le v1
  have hj : j < xs.length := by omega
  have hx : L2.atI xs (j : Int) = some xs[j] := by rw [atI_nat]; simp [hj]
  have hm : xs[j] ∈ xs := List.getElem_mem hj
  exact ⟨xs[j], d', run_ret (lk := [0, 1]) (ρ0 := [some d, some (.lst true xs)]) rfl rfl rfl rfl (of_b _ d d' _ xs _ c hx (ho _ hm)) rfl, hm, p⟩
end LW
end

section
set_option linter.all false
set_option maxRecDepth 100000
set_option maxHeartbeats 1000000
namespace LW
open Mi
def wbody : List IS := [.asg (.slot 5) (.lc [6] (.slot 6) (.seq [.peekF 2]) [] (.cb .min [.peek 1, .peek 6])), .asg (.slot 3) (.op .add [.peek 3, .idx [.peek 5, .const (.int 0)]]), .asg (.slot 2) (.lc [6, 7, 8] (.tup [(.slot 6), (.slot 7), (.slot 8)]) (.zip [.peekF 2, .peekF 5, .op .add [.slc [.peek 5] [.const (.int 1)] [], .lst [.const (.int 0)]]]) [] (.op .add [.op .sub [.peek 6, .peek 7], .peek 8])), .app 4 (.var 3)]
/-- one tick -/
theorem tick (Φ : Fns) (F g : Option D) (w out : Int) (x : Int) (r : List Int) (fo : List Int) (hl : (x :: r).length ≤ 1000) (hfo : fo.length < SZ) :
    exSs Φ [0, 1] wbody [F, some (.int w), some (.lst true ((x :: r).map D.int)), some (.int out), some (.lst true (fo.map D.int)), g, none, none, none] =
      .nx [F, some (.int w), some (.lst true ((stepF w (x :: r)).map D.int)), some (.int (out + mn w x)), some (.lst true ((fo ++ [out + mn w x]).map D.int)), some (.lst false (((x :: r).map (mn w)).map D.int)), none, none, none] := by
  have hsz : (x :: r).length ≤ SZ := by unfold SZ; omega
  have e1 := ev_lc_map Φ [6] (.slot 6) (.seq [.peekF 2]) (.cb .min [.peek 1, .peek 6]) [F, some (.int w), some (.lst true ((x :: r).map D.int)), some (.int out), some (.lst true (fo.map D.int)), g, none, none, none] [F, some (.int w), some (.lst false ((x :: r).map D.int)), some (.int out), some (.lst true (fo.map D.int)), g, none, none, none]
    (x :: r) D.int (fun i => .int (mn w i)) (fun i => [F, some (.int w), some (.lst false ((x :: r).map D.int)), some (.int out), some (.lst true (fo.map D.int)), g, some (.int i), none, none])
    (by simp -dsimp only [E_const, E_glob, E_var, E_mov, E_op, E_isn, E_neg, E_notE, E_chain, E_andE, E_orE, E_ite, E_tup, E_lst, E_idx, E_slc, E_cb, E_call, E_callK, E_rng2, rngK_t, rngK_f, E_frz, Es_nil, Es_peek, Es_peekF, Es_star, Es_const, Es_glob, Es_var, Es_mov, Es_op, Es_isn, Es_neg, Es_notE, Es_chain, Es_andE, Es_orE, Es_ite, Es_tup, Es_lst, Es_idx, Es_slc, Es_cb, Es_call, Es_callK, Es_rng, Es_frz, Es_lc, Eb_nil, Eb_one, Ei_nil, Ei_cons, It_seq, It_range, It_enum, It_zip, S_ex, S_asg, S_par, S_seti, S_app, S_ext, S_aug, S_augi, S_ret, S_ifs, S_for_, S_while_, S_never, Ss_nil, Ss_cons, getE_zero, getE_succ, ↓bind_rb, ↓ofR_rb, ↓rbk, ↓ork, rbk, ork, Bool.false_eq_true, if_false, oo_some, ob_some, om_some, getAll, OV.get, OV.refs, nodupN, putBack, set_zero, set_succ, List.set_cons_zero, List.set_cons_succ, bindT, bindTs, op2, List.contains_nil, List.contains_cons, Nat.reduceBEq, Bool.or_false, Bool.or_self, Bool.not_false, Bool.not_true, Bool.and_true, Bool.true_and, Bool.and_self, List.length_cons, List.length_nil, if_true, List.cons_append, List.nil_append, reduceIte, Nat.reduceLT, Nat.reduceAdd, prD, isD_tt, isD_ti, isD_lt, isD_li, isD_nt, isD_ni, isD_nb, isD_ii, isD_ib, isD_it, isD_bi, isD_bb, isD_bt, sz_0, sz_1, sz_2, sz_3, sz_4, sz_5, sz_6, sz_7, sz_8, sz_9, sz_10, sz_11, sz_12, sz_13, sz_14, sz_15, sz_16, sz_17, sz_18, sz_19, sz_20, D.frz, frzL_int, itemsAll, itemsOf, D.own, ownL_int, seqOf, seqG]) hsz rfl
    (fun i hi => ⟨rfl, by simp -dsimp only [E_const, E_glob, E_var, E_mov, E_op, E_isn, E_neg, E_notE, E_chain, E_andE, E_orE, E_ite, E_tup, E_lst, E_idx, E_slc, E_cb, E_call, E_callK, E_rng2, rngK_t, rngK_f, E_frz, Es_nil, Es_peek, Es_peekF, Es_star, Es_const, Es_glob, Es_var, Es_mov, Es_op, Es_isn, Es_neg, Es_notE, Es_chain, Es_andE, Es_orE, Es_ite, Es_tup, Es_lst, Es_idx, Es_slc, Es_cb, Es_call, Es_callK, Es_rng, Es_frz, Es_lc, Eb_nil, Eb_one, Ei_nil, Ei_cons, It_seq, It_range, It_enum, It_zip, S_ex, S_asg, S_par, S_seti, S_app, S_ext, S_aug, S_augi, S_ret, S_ifs, S_for_, S_while_, S_never, Ss_nil, Ss_cons, getE_zero, getE_succ, ↓bind_rb, ↓ofR_rb, ↓rbk, ↓ork, rbk, ork, Bool.false_eq_true, if_false, oo_some, ob_some, om_some, getAll, OV.get, OV.refs, nodupN, putBack, set_zero, set_succ, List.set_cons_zero, List.set_cons_succ, bindT, bindTs, op2, List.contains_nil, List.contains_cons, Nat.reduceBEq, Bool.or_false, Bool.or_self, Bool.not_false, Bool.not_true, Bool.and_true, Bool.true_and, Bool.and_self, List.length_cons, List.length_nil, if_true, List.cons_append, List.nil_append, reduceIte, Nat.reduceLT, Nat.reduceAdd, prD, isD_tt, isD_ti, isD_lt, isD_li, isD_nt, isD_ni, isD_nb, isD_ii, isD_ib, isD_it, isD_bi, isD_bb, isD_bt, sz_0, sz_1, sz_2, sz_3, sz_4, sz_5, sz_6, sz_7, sz_8, sz_9, sz_10, sz_11, sz_12, sz_13, sz_14, sz_15, sz_16, sz_17, sz_18, sz_19, sz_20, min2D, mn]⟩) (fun d hd => rfl) (fun d hd => rfl) rfl
  have e0 : ((x :: r).map fun i => D.int (mn w i)) = ((x :: r).map (mn w)).map D.int := by rw [List.map_map]; rfl
  rw [e0] at e1
  generalize hg : (x :: r).map (mn w) = gs at e1
  have hgl : gs.length = (x :: r).length := by rw [← hg]; simp
  have hg0 : L2.atI (gs.map D.int) 0 = some (.int (mn w x)) := by
    have := atI_nat (gs.map D.int) 0
    rw [← hg] at this ⊢
    simpa using this
  have hz1 : (gs.map D.int).drop 1 = (gs.drop 1).map D.int := by rw [List.map_drop]
  have hcs : (gs.drop 1).map D.int ++ [D.int 0] = (gs.drop 1 ++ [0]).map D.int := by simp
  have hlen : ((gs.drop 1).map D.int).length + 1 ≤ SZ := by simp; unfold SZ; omega
  have e2 := ev_lc_map Φ [6, 7, 8] (.tup [(.slot 6), (.slot 7), (.slot 8)]) (.zip [.peekF 2, .peekF 5, .op .add [.slc [.peek 5] [.const (.int 1)] [], .lst [.const (.int 0)]]]) (.op .add [.op .sub [.peek 6, .peek 7], .peek 8])
    [F, some (.int w), some (.lst false ((x :: r).map D.int)), some (.int (out + mn w x)), some (.lst true (fo.map D.int)), some (.lst true (gs.map D.int)), none, none, none]
    [F, some (.int w), some (.lst false ((x :: r).map D.int)), some (.int (out + mn w x)), some (.lst true (fo.map D.int)), some (.lst false (gs.map D.int)), none, none, none]
    ((x :: r).zip (gs.zip (gs.drop 1 ++ [0]))) (fun p => .tup [.int p.1, .int p.2.1, .int p.2.2]) (fun p => .int (p.1 - p.2.1 + p.2.2))
    (fun p => [F, some (.int w), some (.lst false ((x :: r).map D.int)), some (.int (out + mn w x)), some (.lst true (fo.map D.int)), some (.lst false (gs.map D.int)), some (.int p.1), some (.int p.2.1), some (.int p.2.2)])
    (by
      have ho0 : ownL [D.int 0] = false := rfl
      simp -dsimp only [E_const, E_glob, E_var, E_mov, E_op, E_isn, E_neg, E_notE, E_chain, E_andE, E_orE, E_ite, E_tup, E_lst, E_idx, E_slc, E_cb, E_call, E_callK, E_rng2, rngK_t, rngK_f, E_frz, Es_nil, Es_peek, Es_peekF, Es_star, Es_const, Es_glob, Es_var, Es_mov, Es_op, Es_isn, Es_neg, Es_notE, Es_chain, Es_andE, Es_orE, Es_ite, Es_tup, Es_lst, Es_idx, Es_slc, Es_cb, Es_call, Es_callK, Es_rng, Es_frz, Es_lc, Eb_nil, Eb_one, Ei_nil, Ei_cons, It_seq, It_range, It_enum, It_zip, S_ex, S_asg, S_par, S_seti, S_app, S_ext, S_aug, S_augi, S_ret, S_ifs, S_for_, S_while_, S_never, Ss_nil, Ss_cons, getE_zero, getE_succ, ↓bind_rb, ↓ofR_rb, ↓rbk, ↓ork, rbk, ork, Bool.false_eq_true, if_false, oo_some, ob_some, om_some, getAll, OV.get, OV.refs, nodupN, putBack, set_zero, set_succ, List.set_cons_zero, List.set_cons_succ, bindT, bindTs, op2, List.contains_nil, List.contains_cons, Nat.reduceBEq, Bool.or_false, Bool.or_self, Bool.not_false, Bool.not_true, Bool.and_true, Bool.true_and, Bool.and_self, List.length_cons, List.length_nil, if_true, List.cons_append, List.nil_append, reduceIte, Nat.reduceLT, Nat.reduceAdd, prD, isD_tt, isD_ti, isD_lt, isD_li, isD_nt, isD_ni, isD_nb, isD_ii, isD_ib, isD_it, isD_bi, isD_bb, isD_bt, sz_0, sz_1, sz_2, sz_3, sz_4, sz_5, sz_6, sz_7, sz_8, sz_9, sz_10, sz_11, sz_12, sz_13, sz_14, sz_15, sz_16, sz_17, sz_18, sz_19, sz_20, D.frz, frzL_int, slcD, ownL_int, cut_1, hz1, addD, ho0, hlen, hcs, itemsAll, itemsOf, D.own, seqOf, zipG, zip3_map]) (by simp -dsimp only [List.length_zip]; omega) rfl
    (fun p hp => ⟨rfl, by simp -dsimp only [E_const, E_glob, E_var, E_mov, E_op, E_isn, E_neg, E_notE, E_chain, E_andE, E_orE, E_ite, E_tup, E_lst, E_idx, E_slc, E_cb, E_call, E_callK, E_rng2, rngK_t, rngK_f, E_frz, Es_nil, Es_peek, Es_peekF, Es_star, Es_const, Es_glob, Es_var, Es_mov, Es_op, Es_isn, Es_neg, Es_notE, Es_chain, Es_andE, Es_orE, Es_ite, Es_tup, Es_lst, Es_idx, Es_slc, Es_cb, Es_call, Es_callK, Es_rng, Es_frz, Es_lc, Eb_nil, Eb_one, Ei_nil, Ei_cons, It_seq, It_range, It_enum, It_zip, S_ex, S_asg, S_par, S_seti, S_app, S_ext, S_aug, S_augi, S_ret, S_ifs, S_for_, S_while_, S_never, Ss_nil, Ss_cons, getE_zero, getE_succ, ↓bind_rb, ↓ofR_rb, ↓rbk, ↓ork, rbk, ork, Bool.false_eq_true, if_false, oo_some, ob_some, om_some, getAll, OV.get, OV.refs, nodupN, putBack, set_zero, set_succ, List.set_cons_zero, List.set_cons_succ, bindT, bindTs, op2, List.contains_nil, List.contains_cons, Nat.reduceBEq, Bool.or_false, Bool.or_self, Bool.not_false, Bool.not_true, Bool.and_true, Bool.true_and, Bool.and_self, List.length_cons, List.length_nil, if_true, List.cons_append, List.nil_append, reduceIte, Nat.reduceLT, Nat.reduceAdd, prD, isD_tt, isD_ti, isD_lt, isD_li, isD_nt, isD_ni, isD_nb, isD_ii, isD_ib, isD_it, isD_bi, isD_bb, isD_bt, sz_0, sz_1, sz_2, sz_3, sz_4, sz_5, sz_6, sz_7, sz_8, sz_9, sz_10, sz_11, sz_12, sz_13, sz_14, sz_15, sz_16, sz_17, sz_18, sz_19, sz_20, subD, addD]⟩) (fun d hd => rfl) (fun d hd => rfl) rfl
  have e4 : (((x :: r).zip (gs.zip (gs.drop 1 ++ [0]))).map fun p => D.int (p.1 - p.2.1 + p.2.2)) = (stepF w (x :: r)).map D.int := by
    rw [stepF, hg, List.map_map]; rfl
  rw [e4] at e2
  have hfo' : (fo.map D.int).length < SZ := by simpa using hfo
  have hm : ∀ v, (fo ++ [v]).map D.int = fo.map D.int ++ [D.int v] := fun v => by simp
  simp -dsimp only [wbody, ↓e1, ↓e2, E_const, E_glob, E_var, E_mov, E_op, E_isn, E_neg, E_notE, E_chain, E_andE, E_orE, E_ite, E_tup, E_lst, E_idx, E_slc, E_cb, E_call, E_callK, E_rng2, rngK_t, rngK_f, E_frz, Es_nil, Es_peek, Es_peekF, Es_star, Es_const, Es_glob, Es_var, Es_mov, Es_op, Es_isn, Es_neg, Es_notE, Es_chain, Es_andE, Es_orE, Es_ite, Es_tup, Es_lst, Es_idx, Es_slc, Es_cb, Es_call, Es_callK, Es_rng, Es_frz, Es_lc, Eb_nil, Eb_one, Ei_nil, Ei_cons, It_seq, It_range, It_enum, It_zip, S_ex, S_asg, S_par, S_seti, S_app, S_ext, S_aug, S_augi, S_ret, S_ifs, S_for_, S_while_, S_never, Ss_nil, Ss_cons, getE_zero, getE_succ, ↓bind_rb, ↓ofR_rb, ↓rbk, ↓ork, rbk, ork, Bool.false_eq_true, if_false, oo_some, ob_some, om_some, getAll, OV.get, OV.refs, nodupN, putBack, set_zero, set_succ, List.set_cons_zero, List.set_cons_succ, bindT, bindTs, op2, List.contains_nil, List.contains_cons, Nat.reduceBEq, Bool.or_false, Bool.or_self, Bool.not_false, Bool.not_true, Bool.and_true, Bool.true_and, Bool.and_self, List.length_cons, List.length_nil, if_true, List.cons_append, List.nil_append, reduceIte, Nat.reduceLT, Nat.reduceAdd, prD, isD_tt, isD_ti, isD_lt, isD_li, isD_nt, isD_ni, isD_nb, isD_ii, isD_ib, isD_it, isD_bi, isD_bb, isD_bt, sz_0, sz_1, sz_2, sz_3, sz_4, sz_5, sz_6, sz_7, sz_8, sz_9, sz_10, sz_11, sz_12, sz_13, sz_14, sz_15, sz_16, sz_17, sz_18, sz_19, sz_20, idxD, hg0, itemD, D.own, addD, isOwnL, hfo', hm]
def outs (w : Int) (F : List Int) (t : Nat) : List Int := (List.range t).map fun τ => F.sum - S (it w τ F) 0
theorem S0_sum (s : List Int) : S s 0 = s.sum := by simp [S]
theorem run_b (Φ : Fns) (F : List Int) (w L : Int) (hw : 0 < w) (hF : 1 ≤ F.length) (hF2 : F.length ≤ 1000) (hn : NN F) (hL : IsL F w L) (hL2 : L < 900000) :
    ∃ ρ, exSs Φ [0, 1] b__law_run [some (Fl F), some (.int w), none, none, none, none, none, none, none] = .ret (.lst true ((outs w F (L.toNat + 1)).map D.int)) (some (Fl F) :: some (.int w) :: ρ) := by
  have hL0 : 0 ≤ L := by obtain ⟨j, _, q⟩ := hL.1; rw [← q]; exact need_nonneg F w j hw
  obtain ⟨ρ', e, g, rfl⟩ := whL_run (ev Φ (.op .gt [.cb .sum [.peek 2], .const (.int 0)])) (exSs Φ [0, 1] wbody)
    (fun t ρ => ∃ g, ρ = [some (Fl F), some (.int w), some (.lst true ((it w t F).map D.int)), some (.int (F.sum - S (it w t F) 0)), some (.lst true ((outs w F (t + 1)).map D.int)), g, none, none, none]) L.toNat
    [some (Fl F), some (.int w), some (.lst true (F.map D.int)), some (.int 0), some (.lst true [.int 0]), none, none, none, none] (by unfold FUEL; omega)
    ⟨none, by simp [it, outs, S0_sum, List.range_succ]⟩
    (by
      rintro t ρ ht ⟨g, rfl⟩
      have hp := (it_pos w L hw F hn hL t).2 (by omega)
      rw [S0_sum] at hp
      have hlen := it_length w t F
      refine ⟨[some (Fl F), some (.int w), some (.lst true ((it w t F).map D.int)), some (.int (F.sum - S (it w t F) 0)), some (.lst true ((outs w F (t + 1)).map D.int)), g, none, none, none],
        [some (Fl F), some (.int w), some (.lst true ((it w (t + 1) F).map D.int)), some (.int (F.sum - S (it w (t + 1) F) 0)), some (.lst true ((outs w F (t + 2)).map D.int)), some (.lst false (((it w t F).map (mn w)).map D.int)), none, none, none], ?_, ?_, ⟨_, rfl⟩⟩
      · simp -dsimp only [E_const, E_glob, E_var, E_mov, E_op, E_isn, E_neg, E_notE, E_chain, E_andE, E_orE, E_ite, E_tup, E_lst, E_idx, E_slc, E_cb, E_call, E_callK, E_rng2, rngK_t, rngK_f, E_frz, Es_nil, Es_peek, Es_peekF, Es_star, Es_const, Es_glob, Es_var, Es_mov, Es_op, Es_isn, Es_neg, Es_notE, Es_chain, Es_andE, Es_orE, Es_ite, Es_tup, Es_lst, Es_idx, Es_slc, Es_cb, Es_call, Es_callK, Es_rng, Es_frz, Es_lc, Eb_nil, Eb_one, Ei_nil, Ei_cons, It_seq, It_range, It_enum, It_zip, S_ex, S_asg, S_par, S_seti, S_app, S_ext, S_aug, S_augi, S_ret, S_ifs, S_for_, S_while_, S_never, Ss_nil, Ss_cons, getE_zero, getE_succ, ↓bind_rb, ↓ofR_rb, ↓rbk, ↓ork, rbk, ork, Bool.false_eq_true, if_false, oo_some, ob_some, om_some, getAll, OV.get, OV.refs, nodupN, putBack, set_zero, set_succ, List.set_cons_zero, List.set_cons_succ, bindT, bindTs, op2, List.contains_nil, List.contains_cons, Nat.reduceBEq, Bool.or_false, Bool.or_self, Bool.not_false, Bool.not_true, Bool.and_true, Bool.true_and, Bool.and_self, List.length_cons, List.length_nil, if_true, List.cons_append, List.nil_append, reduceIte, Nat.reduceLT, Nat.reduceAdd, prD, isD_tt, isD_ti, isD_lt, isD_li, isD_nt, isD_ni, isD_nb, isD_ii, isD_ib, isD_it, isD_bi, isD_bb, isD_bt, sz_0, sz_1, sz_2, sz_3, sz_4, sz_5, sz_6, sz_7, sz_8, sz_9, sz_10, sz_11, sz_12, sz_13, sz_14, sz_15, sz_16, sz_17, sz_18, sz_19, sz_20, suml_map, cmpD, hp, decide_true]
      cases hc : it w t F with
      | nil => rw [hc] at hlen; simp at hlen; omega
      | cons x r =>
        rw [tick Φ _ _ w _ x r (outs w F (t + 1)) (by rw [hc] at hlen; omega) (by simp [outs]; unfold SZ; omega)]
        have h3 : F.sum - S (x :: r) 0 + mn w x = F.sum - S (it w (t + 1) F) 0 := by
          rw [it, hc, S0_sum, S0_sum, stepF_sum, List.sum_cons]; omega
        rw [h3]
        have h4 : outs w F (t + 2) = outs w F (t + 1) ++ [F.sum - S (it w (t + 1) F) 0] := by
          simp only [outs]; rw [List.range_succ (n := t + 1), List.map_append]; rfl
        rw [h4, it, hc])
    (by
      rintro ρ ⟨g, rfl⟩
      have hp : ¬ 0 < S (it w L.toNat F) 0 := fun hc => by have := (it_pos w L hw F hn hL L.toNat).1 hc; omega
      rw [S0_sum] at hp
      exact ⟨_, by simp -dsimp only [E_const, E_glob, E_var, E_mov, E_op, E_isn, E_neg, E_notE, E_chain, E_andE, E_orE, E_ite, E_tup, E_lst, E_idx, E_slc, E_cb, E_call, E_callK, E_rng2, rngK_t, rngK_f, E_frz, Es_nil, Es_peek, Es_peekF, Es_star, Es_const, Es_glob, Es_var, Es_mov, Es_op, Es_isn, Es_neg, Es_notE, Es_chain, Es_andE, Es_orE, Es_ite, Es_tup, Es_lst, Es_idx, Es_slc, Es_cb, Es_call, Es_callK, Es_rng, Es_frz, Es_lc, Eb_nil, Eb_one, Ei_nil, Ei_cons, It_seq, It_range, It_enum, It_zip, S_ex, S_asg, S_par, S_seti, S_app, S_ext, S_aug, S_augi, S_ret, S_ifs, S_for_, S_while_, S_never, Ss_nil, Ss_cons, getE_zero, getE_succ, ↓bind_rb, ↓ofR_rb, ↓rbk, ↓ork, rbk, ork, Bool.false_eq_true, if_false, oo_some, ob_some, om_some, getAll, OV.get, OV.refs, nodupN, putBack, set_zero, set_succ, List.set_cons_zero, List.set_cons_succ, bindT, bindTs, op2, List.contains_nil, List.contains_cons, Nat.reduceBEq, Bool.or_false, Bool.or_self, Bool.not_false, Bool.not_true, Bool.and_true, Bool.true_and, Bool.and_self, List.length_cons, List.length_nil, if_true, List.cons_append, List.nil_append, reduceIte, Nat.reduceLT, Nat.reduceAdd, prD, isD_tt, isD_ti, isD_lt, isD_li, isD_nt, isD_ni, isD_nb, isD_ii, isD_ib, isD_it, isD_bi, isD_bb, isD_bt, sz_0, sz_1, sz_2, sz_3, sz_4, sz_5, sz_6, sz_7, sz_8, sz_9, sz_10, sz_11, sz_12, sz_13, sz_14, sz_15, sz_16, sz_17, sz_18, sz_19, sz_20, suml_map, cmpD, hp, decide_false], g, rfl⟩)
  refine ⟨[some (.lst true ((it w L.toNat F).map D.int)), some (.int (F.sum - S (it w L.toNat F) 0)), none, g, none, none, none], ?_⟩
  have e' := e
  rw [wbody] at e'
  simp -dsimp only [b__law_run, E_const, E_glob, E_var, E_mov, E_op, E_isn, E_neg, E_notE, E_chain, E_andE, E_orE, E_ite, E_tup, E_lst, E_idx, E_slc, E_cb, E_call, E_callK, E_rng2, rngK_t, rngK_f, E_frz, Es_nil, Es_peek, Es_peekF, Es_star, Es_const, Es_glob, Es_var, Es_mov, Es_op, Es_isn, Es_neg, Es_notE, Es_chain, Es_andE, Es_orE, Es_ite, Es_tup, Es_lst, Es_idx, Es_slc, Es_cb, Es_call, Es_callK, Es_rng, Es_frz, Es_lc, Eb_nil, Eb_one, Ei_nil, Ei_cons, It_seq, It_range, It_enum, It_zip, S_ex, S_asg, S_par, S_seti, S_app, S_ext, S_aug, S_augi, S_ret, S_ifs, S_for_, S_while_, S_never, Ss_nil, Ss_cons, getE_zero, getE_succ, ↓bind_rb, ↓ofR_rb, ↓rbk, ↓ork, rbk, ork, Bool.false_eq_true, if_false, oo_some, ob_some, om_some, getAll, OV.get, OV.refs, nodupN, putBack, set_zero, set_succ, List.set_cons_zero, List.set_cons_succ, bindT, bindTs, op2, List.contains_nil, List.contains_cons, Nat.reduceBEq, Bool.or_false, Bool.or_self, Bool.not_false, Bool.not_true, Bool.and_true, Bool.true_and, Bool.and_self, List.length_cons, List.length_nil, if_true, List.cons_append, List.nil_append, reduceIte, Nat.reduceLT, Nat.reduceAdd, prD, isD_tt, isD_ti, isD_lt, isD_li, isD_nt, isD_ni, isD_nb, isD_ii, isD_ib, isD_it, isD_bi, isD_bb, isD_bt, sz_0, sz_1, sz_2, sz_3, sz_4, sz_5, sz_6, sz_7, sz_8, sz_9, sz_10, sz_11, sz_12, sz_13, sz_14, sz_15, sz_16, sz_17, sz_18, sz_19, sz_20, Fl, listD, seqOf, ownL_int, List.reverse_cons, List.reverse_nil, parE]
  simp only [Fl] at e'
  simp -dsimp only [e', E_const, E_glob, E_var, E_mov, E_op, E_isn, E_neg, E_notE, E_chain, E_andE, E_orE, E_ite, E_tup, E_lst, E_idx, E_slc, E_cb, E_call, E_callK, E_rng2, rngK_t, rngK_f, E_frz, Es_nil, Es_peek, Es_peekF, Es_star, Es_const, Es_glob, Es_var, Es_mov, Es_op, Es_isn, Es_neg, Es_notE, Es_chain, Es_andE, Es_orE, Es_ite, Es_tup, Es_lst, Es_idx, Es_slc, Es_cb, Es_call, Es_callK, Es_rng, Es_frz, Es_lc, Eb_nil, Eb_one, Ei_nil, Ei_cons, It_seq, It_range, It_enum, It_zip, S_ex, S_asg, S_par, S_seti, S_app, S_ext, S_aug, S_augi, S_ret, S_ifs, S_for_, S_while_, S_never, Ss_nil, Ss_cons, getE_zero, getE_succ, ↓bind_rb, ↓ofR_rb, ↓rbk, ↓ork, rbk, ork, Bool.false_eq_true, if_false, oo_some, ob_some, om_some, getAll, OV.get, OV.refs, nodupN, putBack, set_zero, set_succ, List.set_cons_zero, List.set_cons_succ, bindT, bindTs, op2, List.contains_nil, List.contains_cons, Nat.reduceBEq, Bool.or_false, Bool.or_self, Bool.not_false, Bool.not_true, Bool.and_true, Bool.true_and, Bool.and_self, List.length_cons, List.length_nil, if_true, List.cons_append, List.nil_append, reduceIte, Nat.reduceLT, Nat.reduceAdd, prD, isD_tt, isD_ti, isD_lt, isD_li, isD_nt, isD_ni, isD_nb, isD_ii, isD_ib, isD_it, isD_bi, isD_bb, isD_bt, sz_0, sz_1, sz_2, sz_3, sz_4, sz_5, sz_6, sz_7, sz_8, sz_9, sz_10, sz_11, sz_12, sz_13, sz_14, sz_15, sz_16, sz_17, sz_18, sz_19, sz_20]
theorem run_ok (k : Nat) (F : List Int) (w L : Int) (hw : 0 < w) (hF : 1 ≤ F.length) (hF2 : F.length ≤ 1000) (hn : NN F) (hL : IsL F w L) (hL2 : L < 900000) :
    runN PQ (k + 1) 20 [Fl F, .int w] = .ok (.lst true ((outs w F (L.toNat + 1)).map D.int)) [Fl F, .int w] := by
  obtain ⟨ρ, e⟩ := run_b (runN PQ k) F w L hw hF hF2 hn hL hL2
  exact run_ret (lk := [0, 1]) (ρ0 := [some (Fl F), some (.int w), none, none, none, none, none, none, none]) rfl rfl rfl rfl e rfl
end LW
end

section
set_option linter.all false
set_option maxRecDepth 100000
set_option maxHeartbeats 1000000
namespace LW
open Mi
def bbody : List IS := [.asg (.slot 4) (.cb .sum [.slc [.peek 0] [.var 3] []]), .app 2 (.ite (.op .gt [.peek 4, .const (.int 0)]) (.cb .int [.op .add [.peek 3, .op .fdiv [.op .sub [.op .add [.peek 4, .peek 1], .const (.int 1)], .peek 1]]]) (.const (.int 0)))]
def needI (F : List Int) (w : Int) (n : Nat) : List Int := (List.range n).map (need F w)
theorem needI_succ (F : List Int) (w : Int) (n : Nat) : needI F w (n + 1) = needI F w n ++ [need F w n] := by
  simp [needI, List.range_succ]
theorem bounds_step (Φ : Fns) (F : List Int) (w : Int) (h1 : 0 < w) (h2 : w < 1073741824) (j : Nat) (hj : j < SZ) (o4 : Option D) :
    exSs Φ [0, 1] bbody [some (Fl F), some (.int w), some (.lst true ((needI F w j).map D.int)), some (.int (j : Int)), o4] = .nx [some (Fl F), some (.int w), some (.lst true ((needI F w (j + 1)).map D.int)), some (.int (j : Int)), some (.int (S F j))] := by
  have hz : ((needI F w j).map D.int).length < SZ := by simpa [needI] using hj
  have hm : (needI F w (j + 1)).map D.int = (needI F w j).map D.int ++ [D.int (need F w j)] := by rw [needI_succ]; simp
  rw [hm]
  simp -dsimp only [bbody, E_const, E_glob, E_var, E_mov, E_op, E_isn, E_neg, E_notE, E_chain, E_andE, E_orE, E_ite, E_tup, E_lst, E_idx, E_slc, E_cb, E_call, E_callK, E_rng2, rngK_t, rngK_f, E_frz, Es_nil, Es_peek, Es_peekF, Es_star, Es_const, Es_glob, Es_var, Es_mov, Es_op, Es_isn, Es_neg, Es_notE, Es_chain, Es_andE, Es_orE, Es_ite, Es_tup, Es_lst, Es_idx, Es_slc, Es_cb, Es_call, Es_callK, Es_rng, Es_frz, Es_lc, Eb_nil, Eb_one, Ei_nil, Ei_cons, It_seq, It_range, It_enum, It_zip, S_ex, S_asg, S_par, S_seti, S_app, S_ext, S_aug, S_augi, S_ret, S_ifs, S_for_, S_while_, S_never, Ss_nil, Ss_cons, getE_zero, getE_succ, ↓bind_rb, ↓ofR_rb, ↓rbk, ↓ork, rbk, ork, Bool.false_eq_true, if_false, oo_some, ob_some, om_some, getAll, OV.get, OV.refs, nodupN, putBack, set_zero, set_succ, List.set_cons_zero, List.set_cons_succ, bindT, bindTs, op2, List.contains_nil, List.contains_cons, Nat.reduceBEq, Bool.or_false, Bool.or_self, Bool.not_false, Bool.not_true, Bool.and_true, Bool.true_and, Bool.and_self, List.length_cons, List.length_nil, if_true, List.cons_append, List.nil_append, reduceIte, Nat.reduceLT, Nat.reduceAdd, prD, isD_tt, isD_ti, isD_lt, isD_li, isD_nt, isD_ni, isD_nb, isD_ii, isD_ib, isD_it, isD_bi, isD_bb, isD_bt, sz_0, sz_1, sz_2, sz_3, sz_4, sz_5, sz_6, sz_7, sz_8, sz_9, sz_10, sz_11, sz_12, sz_13, sz_14, sz_15, sz_16, sz_17, sz_18, sz_19, sz_20, D.own, Fl, slcD, ownL_int, cut_lo, ← List.map_drop, sum_map, isOwnL, cmpD]
  by_cases hp : 0 < (F.drop j).sum
  · simp -dsimp only [hp, decide_true, E_const, E_glob, E_var, E_mov, E_op, E_isn, E_neg, E_notE, E_chain, E_andE, E_orE, E_ite, E_tup, E_lst, E_idx, E_slc, E_cb, E_call, E_callK, E_rng2, rngK_t, rngK_f, E_frz, Es_nil, Es_peek, Es_peekF, Es_star, Es_const, Es_glob, Es_var, Es_mov, Es_op, Es_isn, Es_neg, Es_notE, Es_chain, Es_andE, Es_orE, Es_ite, Es_tup, Es_lst, Es_idx, Es_slc, Es_cb, Es_call, Es_callK, Es_rng, Es_frz, Es_lc, Eb_nil, Eb_one, Ei_nil, Ei_cons, It_seq, It_range, It_enum, It_zip, S_ex, S_asg, S_par, S_seti, S_app, S_ext, S_aug, S_augi, S_ret, S_ifs, S_for_, S_while_, S_never, Ss_nil, Ss_cons, getE_zero, getE_succ, ↓bind_rb, ↓ofR_rb, ↓rbk, ↓ork, rbk, ork, Bool.false_eq_true, if_false, oo_some, ob_some, om_some, getAll, OV.get, OV.refs, nodupN, putBack, set_zero, set_succ, List.set_cons_zero, List.set_cons_succ, bindT, bindTs, op2, List.contains_nil, List.contains_cons, Nat.reduceBEq, Bool.or_false, Bool.or_self, Bool.not_false, Bool.not_true, Bool.and_true, Bool.true_and, Bool.and_self, List.length_cons, List.length_nil, if_true, List.cons_append, List.nil_append, reduceIte, Nat.reduceLT, Nat.reduceAdd, prD, isD_tt, isD_ti, isD_lt, isD_li, isD_nt, isD_ni, isD_nb, isD_ii, isD_ib, isD_it, isD_bi, isD_bb, isD_bt, sz_0, sz_1, sz_2, sz_3, sz_4, sz_5, sz_6, sz_7, sz_8, sz_9, sz_10, sz_11, sz_12, sz_13, sz_14, sz_15, sz_16, sz_17, sz_18, sz_19, sz_20, addD, subD, fdivD_pos _ w h1 h2, intD, hz, need, S]
  · simp -dsimp only [hp, decide_false, E_const, E_glob, E_var, E_mov, E_op, E_isn, E_neg, E_notE, E_chain, E_andE, E_orE, E_ite, E_tup, E_lst, E_idx, E_slc, E_cb, E_call, E_callK, E_rng2, rngK_t, rngK_f, E_frz, Es_nil, Es_peek, Es_peekF, Es_star, Es_const, Es_glob, Es_var, Es_mov, Es_op, Es_isn, Es_neg, Es_notE, Es_chain, Es_andE, Es_orE, Es_ite, Es_tup, Es_lst, Es_idx, Es_slc, Es_cb, Es_call, Es_callK, Es_rng, Es_frz, Es_lc, Eb_nil, Eb_one, Ei_nil, Ei_cons, It_seq, It_range, It_enum, It_zip, S_ex, S_asg, S_par, S_seti, S_app, S_ext, S_aug, S_augi, S_ret, S_ifs, S_for_, S_while_, S_never, Ss_nil, Ss_cons, getE_zero, getE_succ, ↓bind_rb, ↓ofR_rb, ↓rbk, ↓ork, rbk, ork, Bool.false_eq_true, if_false, oo_some, ob_some, om_some, getAll, OV.get, OV.refs, nodupN, putBack, set_zero, set_succ, List.set_cons_zero, List.set_cons_succ, bindT, bindTs, op2, List.contains_nil, List.contains_cons, Nat.reduceBEq, Bool.or_false, Bool.or_self, Bool.not_false, Bool.not_true, Bool.and_true, Bool.true_and, Bool.and_self, List.length_cons, List.length_nil, if_true, List.cons_append, List.nil_append, reduceIte, Nat.reduceLT, Nat.reduceAdd, prD, isD_tt, isD_ti, isD_lt, isD_li, isD_nt, isD_ni, isD_nb, isD_ii, isD_ib, isD_it, isD_bi, isD_bb, isD_bt, sz_0, sz_1, sz_2, sz_3, sz_4, sz_5, sz_6, sz_7, sz_8, sz_9, sz_10, sz_11, sz_12, sz_13, sz_14, sz_15, sz_16, sz_17, sz_18, sz_19, sz_20, hz, need, S]
theorem bounds_b (Φ : Fns) (F : List Int) (w : Int) (hl : F.length < SZ) (h1 : 0 < w) (h2 : w < 1073741824) :
    ∃ r, exSs Φ [0, 1] b__law_bounds [some (Fl F), some (.int w), none, none, none] = .ret (.lst true ((needI F w F.length).map D.int)) (some (Fl F) :: some (.int w) :: r) := by
  obtain ⟨ρ', e, o3, o4, rfl⟩ := forL_inv0 [0, 1] (.slot 3) (exSs Φ [0, 1] bbody)
    (fun j ρ => ∃ o3 o4, ρ = [some (Fl F), some (.int w), some (.lst true ((needI F w j).map D.int)), o3, o4]) ((List.range F.length).map fun j : Nat => D.int (j : Int)) F.length (by simp) [some (Fl F), some (.int w), some (.lst true []), none, none] ⟨none, none, rfl⟩
    (by
      rintro j hj ρ ⟨o3, o4, rfl⟩
      have hj' : j < F.length := by simpa using hj
      refine ⟨[some (Fl F), some (.int w), some (.lst true ((needI F w j).map D.int)), some (.int (j : Int)), o4], _, ?_, bounds_step Φ F w h1 h2 j (by omega) o4, ⟨_, _, rfl⟩⟩
      simp [E_const, E_glob, E_var, E_mov, E_op, E_isn, E_neg, E_notE, E_chain, E_andE, E_orE, E_ite, E_tup, E_lst, E_idx, E_slc, E_cb, E_call, E_callK, E_rng2, rngK_t, rngK_f, E_frz, Es_nil, Es_peek, Es_peekF, Es_star, Es_const, Es_glob, Es_var, Es_mov, Es_op, Es_isn, Es_neg, Es_notE, Es_chain, Es_andE, Es_orE, Es_ite, Es_tup, Es_lst, Es_idx, Es_slc, Es_cb, Es_call, Es_callK, Es_rng, Es_frz, Es_lc, Eb_nil, Eb_one, Ei_nil, Ei_cons, It_seq, It_range, It_enum, It_zip, S_ex, S_asg, S_par, S_seti, S_app, S_ext, S_aug, S_augi, S_ret, S_ifs, S_for_, S_while_, S_never, Ss_nil, Ss_cons, getE_zero, getE_succ, ↓bind_rb, ↓ofR_rb, ↓rbk, ↓ork, rbk, ork, Bool.false_eq_true, if_false, oo_some, ob_some, om_some, getAll, OV.get, OV.refs, nodupN, putBack, set_zero, set_succ, List.set_cons_zero, List.set_cons_succ, bindT, bindTs, op2, List.contains_nil, List.contains_cons, Nat.reduceBEq, Bool.or_false, Bool.or_self, Bool.not_false, Bool.not_true, Bool.and_true, Bool.true_and, Bool.and_self, List.length_cons, List.length_nil, if_true, List.cons_append, List.nil_append, reduceIte, Nat.reduceLT, Nat.reduceAdd, prD, isD_tt, isD_ti, isD_lt, isD_li, isD_nt, isD_ni, isD_nb, isD_ii, isD_ib, isD_it, isD_bi, isD_bb, isD_bt, sz_0, sz_1, sz_2, sz_3, sz_4, sz_5, sz_6, sz_7, sz_8, sz_9, sz_10, sz_11, sz_12, sz_13, sz_14, sz_15, sz_16, sz_17, sz_18, sz_19, sz_20])
  refine ⟨[none, o3, o4], ?_⟩
  have hr := rangeOf_nat F.length (by omega)
  rw [bbody] at e
  simp -dsimp only [b__law_bounds, E_const, E_glob, E_var, E_mov, E_op, E_isn, E_neg, E_notE, E_chain, E_andE, E_orE, E_ite, E_tup, E_lst, E_idx, E_slc, E_cb, E_call, E_callK, E_rng2, rngK_t, rngK_f, E_frz, Es_nil, Es_peek, Es_peekF, Es_star, Es_const, Es_glob, Es_var, Es_mov, Es_op, Es_isn, Es_neg, Es_notE, Es_chain, Es_andE, Es_orE, Es_ite, Es_tup, Es_lst, Es_idx, Es_slc, Es_cb, Es_call, Es_callK, Es_rng, Es_frz, Es_lc, Eb_nil, Eb_one, Ei_nil, Ei_cons, It_seq, It_range, It_enum, It_zip, S_ex, S_asg, S_par, S_seti, S_app, S_ext, S_aug, S_augi, S_ret, S_ifs, S_for_, S_while_, S_never, Ss_nil, Ss_cons, getE_zero, getE_succ, ↓bind_rb, ↓ofR_rb, ↓rbk, ↓ork, rbk, ork, Bool.false_eq_true, if_false, oo_some, ob_some, om_some, getAll, OV.get, OV.refs, nodupN, putBack, set_zero, set_succ, List.set_cons_zero, List.set_cons_succ, bindT, bindTs, op2, List.contains_nil, List.contains_cons, Nat.reduceBEq, Bool.or_false, Bool.or_self, Bool.not_false, Bool.not_true, Bool.and_true, Bool.true_and, Bool.and_self, List.length_cons, List.length_nil, if_true, List.cons_append, List.nil_append, reduceIte, Nat.reduceLT, Nat.reduceAdd, prD, isD_tt, isD_ti, isD_lt, isD_li, isD_nt, isD_ni, isD_nb, isD_ii, isD_ib, isD_it, isD_bi, isD_bb, isD_bt, sz_0, sz_1, sz_2, sz_3, sz_4, sz_5, sz_6, sz_7, sz_8, sz_9, sz_10, sz_11, sz_12, sz_13, sz_14, sz_15, sz_16, sz_17, sz_18, sz_19, sz_20, Fl, lenD, List.length_map, hr]
  simp only [Fl] at e
  simp -dsimp only [e, E_const, E_glob, E_var, E_mov, E_op, E_isn, E_neg, E_notE, E_chain, E_andE, E_orE, E_ite, E_tup, E_lst, E_idx, E_slc, E_cb, E_call, E_callK, E_rng2, rngK_t, rngK_f, E_frz, Es_nil, Es_peek, Es_peekF, Es_star, Es_const, Es_glob, Es_var, Es_mov, Es_op, Es_isn, Es_neg, Es_notE, Es_chain, Es_andE, Es_orE, Es_ite, Es_tup, Es_lst, Es_idx, Es_slc, Es_cb, Es_call, Es_callK, Es_rng, Es_frz, Es_lc, Eb_nil, Eb_one, Ei_nil, Ei_cons, It_seq, It_range, It_enum, It_zip, S_ex, S_asg, S_par, S_seti, S_app, S_ext, S_aug, S_augi, S_ret, S_ifs, S_for_, S_while_, S_never, Ss_nil, Ss_cons, getE_zero, getE_succ, ↓bind_rb, ↓ofR_rb, ↓rbk, ↓ork, rbk, ork, Bool.false_eq_true, if_false, oo_some, ob_some, om_some, getAll, OV.get, OV.refs, nodupN, putBack, set_zero, set_succ, List.set_cons_zero, List.set_cons_succ, bindT, bindTs, op2, List.contains_nil, List.contains_cons, Nat.reduceBEq, Bool.or_false, Bool.or_self, Bool.not_false, Bool.not_true, Bool.and_true, Bool.true_and, Bool.and_self, List.length_cons, List.length_nil, if_true, List.cons_append, List.nil_append, reduceIte, Nat.reduceLT, Nat.reduceAdd, prD, isD_tt, isD_ti, isD_lt, isD_li, isD_nt, isD_ni, isD_nb, isD_ii, isD_ib, isD_it, isD_bi, isD_bb, isD_bt, sz_0, sz_1, sz_2, sz_3, sz_4, sz_5, sz_6, sz_7, sz_8, sz_9, sz_10, sz_11, sz_12, sz_13, sz_14, sz_15, sz_16, sz_17, sz_18, sz_19, sz_20]
theorem bounds_ok (k : Nat) (F : List Int) (w : Int) (hl : F.length < SZ) (h1 : 0 < w) (h2 : w < 1073741824) :
    runN PQ (k + 1) 21 [Fl F, .int w] = .ok (.lst true ((needI F w F.length).map D.int)) [Fl F, .int w] := by
  obtain ⟨r, e⟩ := bounds_b (runN PQ k) F w hl h1 h2
  exact run_ret (lk := [0, 1]) (ρ0 := [some (Fl F), some (.int w), none, none, none]) rfl rfl rfl rfl e rfl
/-! the pot -/
theorem pow_a : powD (.int 10) (.int 60) = some (.int (10 ^ 60)) := by
  have h : (0 : Int) ≤ 60 ∧ (60 : Int) ≤ 1000000 ∧ ((10 : Int).natAbs.log2 + 1) * (60 : Int).toNat ≤ 1000000 := by decide
  rw [powD, if_pos h]; rfl
theorem pow_b : powD (.int 10) (.int 18) = some (.int (10 ^ 18)) := by
  have h : (0 : Int) ≤ 18 ∧ (18 : Int) ≤ 1000000 ∧ ((10 : Int).natAbs.log2 + 1) * (18 : Int).toNat ≤ 1000000 := by decide
  rw [powD, if_pos h]; rfl
theorem pow_c : powD (.int (10 ^ 60)) (.int 5) = some (.int ((10 ^ 60) ^ 5)) := by
  have h : (0 : Int) ≤ 5 ∧ (5 : Int) ≤ 1000000 ∧ ((10 ^ 60 : Int).natAbs.log2 + 1) * (5 : Int).toNat ≤ 1000000 := by decide
  rw [powD, if_pos h]; rfl
theorem pot_s2 (Φ : Fns) (ns : List Int) (j : Nat) (hj : (j : Int) < 1000000) : ∃ x : Int, exS Φ [0, 1] (.asg (.slot 2) (.ite (.op .lt [.peek 1, .cb .len [.peek 0]]) (.idx [.peek 0, .peek 1]) (.op .add [.op .add [.op .mod [.cb .int [.cb .sum [.slc [.peek 0] [] [.const (.int 1)]]], .const (.int 1000003)], .op .mul [.const (.int 3635), .peek 1]], .const (.int 8711)])))
    [some (.scr (ns.map D.int)), some (.int (j : Int)), none, none, none] = .nx [some (.scr (ns.map D.int)), some (.int (j : Int)), some (.int x), none, none] := by
  by_cases h : (j : Int) < (ns.length : Int)
  · have hj : j < ns.length := by omega
    have h1 : L2.atI (ns.map D.int) (j : Int) = some (.int ns[j]) := by rw [atI_nat]; simp [hj]
    exact ⟨ns[j], by simp -dsimp only [E_const, E_glob, E_var, E_mov, E_op, E_isn, E_neg, E_notE, E_chain, E_andE, E_orE, E_ite, E_tup, E_lst, E_idx, E_slc, E_cb, E_call, E_callK, E_rng2, rngK_t, rngK_f, E_frz, Es_nil, Es_peek, Es_peekF, Es_star, Es_const, Es_glob, Es_var, Es_mov, Es_op, Es_isn, Es_neg, Es_notE, Es_chain, Es_andE, Es_orE, Es_ite, Es_tup, Es_lst, Es_idx, Es_slc, Es_cb, Es_call, Es_callK, Es_rng, Es_frz, Es_lc, Eb_nil, Eb_one, Ei_nil, Ei_cons, It_seq, It_range, It_enum, It_zip, S_ex, S_asg, S_par, S_seti, S_app, S_ext, S_aug, S_augi, S_ret, S_ifs, S_for_, S_while_, S_never, Ss_nil, Ss_cons, getE_zero, getE_succ, ↓bind_rb, ↓ofR_rb, ↓rbk, ↓ork, rbk, ork, Bool.false_eq_true, if_false, oo_some, ob_some, om_some, getAll, OV.get, OV.refs, nodupN, putBack, set_zero, set_succ, List.set_cons_zero, List.set_cons_succ, bindT, bindTs, op2, List.contains_nil, List.contains_cons, Nat.reduceBEq, Bool.or_false, Bool.or_self, Bool.not_false, Bool.not_true, Bool.and_true, Bool.true_and, Bool.and_self, List.length_cons, List.length_nil, if_true, List.cons_append, List.nil_append, reduceIte, Nat.reduceLT, Nat.reduceAdd, prD, isD_tt, isD_ti, isD_lt, isD_li, isD_nt, isD_ni, isD_nb, isD_ii, isD_ib, isD_it, isD_bi, isD_bb, isD_bt, sz_0, sz_1, sz_2, sz_3, sz_4, sz_5, sz_6, sz_7, sz_8, sz_9, sz_10, sz_11, sz_12, sz_13, sz_14, sz_15, sz_16, sz_17, sz_18, sz_19, sz_20, lenD, List.length_map, cmpD, h, decide_true, idxD, h1, itemD, D.own]⟩
  · exact ⟨(ns.take 1).sum % 1000003 + 3635 * (j : Int) + 8711, by simp -dsimp only [E_const, E_glob, E_var, E_mov, E_op, E_isn, E_neg, E_notE, E_chain, E_andE, E_orE, E_ite, E_tup, E_lst, E_idx, E_slc, E_cb, E_call, E_callK, E_rng2, rngK_t, rngK_f, E_frz, Es_nil, Es_peek, Es_peekF, Es_star, Es_const, Es_glob, Es_var, Es_mov, Es_op, Es_isn, Es_neg, Es_notE, Es_chain, Es_andE, Es_orE, Es_ite, Es_tup, Es_lst, Es_idx, Es_slc, Es_cb, Es_call, Es_callK, Es_rng, Es_frz, Es_lc, Eb_nil, Eb_one, Ei_nil, Ei_cons, It_seq, It_range, It_enum, It_zip, S_ex, S_asg, S_par, S_seti, S_app, S_ext, S_aug, S_augi, S_ret, S_ifs, S_for_, S_while_, S_never, Ss_nil, Ss_cons, getE_zero, getE_succ, ↓bind_rb, ↓ofR_rb, ↓rbk, ↓ork, rbk, ork, Bool.false_eq_true, if_false, oo_some, ob_some, om_some, getAll, OV.get, OV.refs, nodupN, putBack, set_zero, set_succ, List.set_cons_zero, List.set_cons_succ, bindT, bindTs, op2, List.contains_nil, List.contains_cons, Nat.reduceBEq, Bool.or_false, Bool.or_self, Bool.not_false, Bool.not_true, Bool.and_true, Bool.true_and, Bool.and_self, List.length_cons, List.length_nil, if_true, List.cons_append, List.nil_append, reduceIte, Nat.reduceLT, Nat.reduceAdd, prD, isD_tt, isD_ti, isD_lt, isD_li, isD_nt, isD_ni, isD_nb, isD_ii, isD_ib, isD_it, isD_bi, isD_bb, isD_bt, sz_0, sz_1, sz_2, sz_3, sz_4, sz_5, sz_6, sz_7, sz_8, sz_9, sz_10, sz_11, sz_12, sz_13, sz_14, sz_15, sz_16, sz_17, sz_18, sz_19, sz_20, lenD, List.length_map, cmpD, h, decide_false, slcD, ownL_int, cut_h1, ← List.map_take, suml_map, intD, modD_pos _ 1000003 (by decide), mulD_l 3635 _ (by decide), addD]⟩
theorem pot_b (Φ : Fns) (ns : List Int) (j : Nat) (hj : (j : Int) < 1000000) : ∃ a b : Int, ∃ r, 0 ≤ a ∧ 0 ≤ b ∧ b < 2305843009213693951 ∧
    exSs Φ [0, 1] b__law_pot [some (.scr (ns.map D.int)), some (.int (j : Int)), none, none, none] = .ret (potD a b 0) (some (.scr (ns.map D.int)) :: some (.int (j : Int)) :: r) := by
  obtain ⟨x, e⟩ := pot_s2 Φ ns j hj
  have hp : (0 : Int) < (10 ^ 60) ^ 5 := by decide
  generalize hc : (if x < 0 then -x else x) = y
  have hy : absD (.int x) = some (.int y) := by rw [← hc]; rfl
  have hb : ∃ c : Int, intD (.bl (decide ((10 ^ 18 : Int) ≤ y))) = some (.int c) ∧ 0 ≤ c ∧ c ≤ 1 := by
    cases decide ((10 ^ 18 : Int) ≤ y)
    · exact ⟨0, rfl, by decide, by decide⟩
    · exact ⟨1, rfl, by decide, by decide⟩
  obtain ⟨c, hc1, hc2, hc3⟩ := hb
  have hd : D.own (.int (y % (10 ^ 60) ^ 5 * c)) = false := rfl
  refine ⟨y % (10 ^ 60) ^ 5 * c, (x % 2305843009213693951 * 94629 + 13879 * (j : Int) * (j : Int) + 3035) % 2305843009213693921, [some (.int x), some (.int (y % (10 ^ 60) ^ 5 * c)), some (.int (x % 2305843009213693951))], Int.mul_nonneg (Int.emod_nonneg _ (by omega)) hc2, Int.emod_nonneg _ (by decide), ?_, ?_⟩
  · have := Int.emod_lt_of_pos (x % 2305843009213693951 * 94629 + 13879 * (j : Int) * (j : Int) + 3035) (show (0 : Int) < 2305843009213693921 by decide)
    omega
  · simp -dsimp only [b__law_pot, ↓e, E_const, E_glob, E_var, E_mov, E_op, E_isn, E_neg, E_notE, E_chain, E_andE, E_orE, E_ite, E_tup, E_lst, E_idx, E_slc, E_cb, E_call, E_callK, E_rng2, rngK_t, rngK_f, E_frz, Es_nil, Es_peek, Es_peekF, Es_star, Es_const, Es_glob, Es_var, Es_mov, Es_op, Es_isn, Es_neg, Es_notE, Es_chain, Es_andE, Es_orE, Es_ite, Es_tup, Es_lst, Es_idx, Es_slc, Es_cb, Es_call, Es_callK, Es_rng, Es_frz, Es_lc, Eb_nil, Eb_one, Ei_nil, Ei_cons, It_seq, It_range, It_enum, It_zip, S_ex, S_asg, S_par, S_seti, S_app, S_ext, S_aug, S_augi, S_ret, S_ifs, S_for_, S_while_, S_never, Ss_nil, Ss_cons, getE_zero, getE_succ, ↓bind_rb, ↓ofR_rb, ↓rbk, ↓ork, rbk, ork, Bool.false_eq_true, if_false, oo_some, ob_some, om_some, getAll, OV.get, OV.refs, nodupN, putBack, set_zero, set_succ, List.set_cons_zero, List.set_cons_succ, bindT, bindTs, op2, List.contains_nil, List.contains_cons, Nat.reduceBEq, Bool.or_false, Bool.or_self, Bool.not_false, Bool.not_true, Bool.and_true, Bool.true_and, Bool.and_self, List.length_cons, List.length_nil, if_true, List.cons_append, List.nil_append, reduceIte, Nat.reduceLT, Nat.reduceAdd, prD, isD_tt, isD_ti, isD_lt, isD_li, isD_nt, isD_ni, isD_nb, isD_ii, isD_ib, isD_it, isD_bi, isD_bb, isD_bt, sz_0, sz_1, sz_2, sz_3, sz_4, sz_5, sz_6, sz_7, sz_8, sz_9, sz_10, sz_11, sz_12, sz_13, sz_14, sz_15, sz_16, sz_17, sz_18, sz_19, sz_20, hy, intD_i, pow_a, pow_c, modD_pos y _ hp, pow_b, cmpD, hc1, mulD_r _ c (show c.natAbs < 18446744073709551616 by omega), modD_pos x 2305843009213693951 (by decide), mulD_r _ 94629 (by decide), mulD_l 13879 _ (by decide), mulD_r _ (j : Int) (show (j : Int).natAbs < 18446744073709551616 by omega), addD, modD_pos _ 2305843009213693921 (by decide), D.own, potD]
theorem pot_ok (k : Nat) (ns : List Int) (j : Nat) (hj : (j : Int) < 1000000) : ∃ d, runN PQ (k + 1) 16 [.scr (ns.map D.int), .int (j : Int)] = .ok d [.scr (ns.map D.int), .int (j : Int)] ∧ Pot 0 d := by
  obtain ⟨a, b, r, h1, h2, h3, e⟩ := pot_b (runN PQ k) ns j hj
  exact ⟨potD a b 0, run_ret (lk := [0, 1]) (ρ0 := [some (.scr (ns.map D.int)), some (.int (j : Int)), none, none, none]) rfl rfl rfl rfl e rfl, a, b, 0, rfl, h1, h2, h3, by decide, by decide⟩
/-! the places -/
theorem cells_b (Φ : Fns) (ns : List Int) : ∃ n, n ≤ 3 ∧ exSs Φ [0, 1] b__law_cells [some (.scr (ns.map D.int)), some (.int 3)] = .ret (.lst true ((List.range n).map fun j : Nat => D.int (j : Int))) [some (.scr (ns.map D.int)), some (.int 3)] := by
  generalize hL : (if (ns.length : Int) < 3 then (ns.length : Int) else 3) = y
  have h3 : min2D (.int 3) (.int (ns.length : Int)) = some (.int y) := by rw [← hL]; rfl
  generalize hM : (if y > 1 then y else 1) = z
  have h4 : max2D (.int 1) (.int y) = some (.int z) := by rw [← hM]; rfl
  have hz : 0 ≤ z ∧ z ≤ 3 := by
    constructor
    · split at hM <;> omega
    · split at hM <;> split at hL <;> omega
  obtain ⟨n, rfl⟩ := Int.eq_ofNat_of_zero_le hz.1
  have hr := rangeOf_nat n (by unfold SZ; omega)
  exact ⟨n, by omega, by simp -dsimp only [b__law_cells, E_const, E_glob, E_var, E_mov, E_op, E_isn, E_neg, E_notE, E_chain, E_andE, E_orE, E_ite, E_tup, E_lst, E_idx, E_slc, E_cb, E_call, E_callK, E_rng2, rngK_t, rngK_f, E_frz, Es_nil, Es_peek, Es_peekF, Es_star, Es_const, Es_glob, Es_var, Es_mov, Es_op, Es_isn, Es_neg, Es_notE, Es_chain, Es_andE, Es_orE, Es_ite, Es_tup, Es_lst, Es_idx, Es_slc, Es_cb, Es_call, Es_callK, Es_rng, Es_frz, Es_lc, Eb_nil, Eb_one, Ei_nil, Ei_cons, It_seq, It_range, It_enum, It_zip, S_ex, S_asg, S_par, S_seti, S_app, S_ext, S_aug, S_augi, S_ret, S_ifs, S_for_, S_while_, S_never, Ss_nil, Ss_cons, getE_zero, getE_succ, ↓bind_rb, ↓ofR_rb, ↓rbk, ↓ork, rbk, ork, Bool.false_eq_true, if_false, oo_some, ob_some, om_some, getAll, OV.get, OV.refs, nodupN, putBack, set_zero, set_succ, List.set_cons_zero, List.set_cons_succ, bindT, bindTs, op2, List.contains_nil, List.contains_cons, Nat.reduceBEq, Bool.or_false, Bool.or_self, Bool.not_false, Bool.not_true, Bool.and_true, Bool.true_and, Bool.and_self, List.length_cons, List.length_nil, if_true, List.cons_append, List.nil_append, reduceIte, Nat.reduceLT, Nat.reduceAdd, prD, isD_tt, isD_ti, isD_lt, isD_li, isD_nt, isD_ni, isD_nb, isD_ii, isD_ib, isD_it, isD_bi, isD_bb, isD_bt, sz_0, sz_1, sz_2, sz_3, sz_4, sz_5, sz_6, sz_7, sz_8, sz_9, sz_10, sz_11, sz_12, sz_13, sz_14, sz_15, sz_16, sz_17, sz_18, sz_19, sz_20, lenD, List.length_map, h3, h4, hr]⟩
theorem cells_ok (k : Nat) (ns : List Int) : ∃ n, n ≤ 3 ∧ runN PQ (k + 1) 19 [.scr (ns.map D.int), .int 3] = .ok (.lst true ((List.range n).map fun j : Nat => D.int (j : Int))) [.scr (ns.map D.int), .int 3] := by
  obtain ⟨n, h, e⟩ := cells_b (runN PQ k) ns
  exact ⟨n, h, run_ret (lk := [0, 1]) (ρ0 := [some (.scr (ns.map D.int)), some (.int 3)]) rfl rfl rfl rfl e rfl⟩
end LW
end

section
set_option linter.all false
set_option maxRecDepth 100000
set_option maxHeartbeats 1000000
namespace LW
open Mi
def H17 (Φ : Fns) : Prop := ∀ (n : Nat) (d : D) (u : Int), Pot n d → n ≤ 1000000000 → 0 < u → u < 1073741824 → ∃ v d', Φ 17 [d, .int u] = .ok (.int v) [d', .int u] ∧ 0 ≤ v ∧ v < u ∧ Pot (n + 1) d'
def H18 (Φ : Fns) : Prop := ∀ (n : Nat) (d : D) (xs : List D), Pot n d → n ≤ 1000000000 → 0 < xs.length → xs.length < 1000000000 → (∀ x ∈ xs, x.own = false) → ∃ x d', Φ 18 [d, .lst true xs] = .ok x [d', .lst true xs] ∧ x ∈ xs ∧ Pot (n + 1) d'
def st1 : IS := .asg (.tup [(.slot 9), (.slot 10)]) (.tup [.cb .tuple [.lc [15] (.slot 15) (.range [.op .add [.const (.int 1), .call 17 [.peek 0, .const (.int 5)]]]) [] (.cb .int [.call 18 [.peek 0, .lst [.const (.int 0), .const (.int 1), .const (.int 4), .const (.int 9), .frz (.call 17 [.peek 0, .const (.int 10)])]]])], .cb .int [.op .add [.const (.int 1), .call 17 [.peek 0, .const (.int 4)]]]])
theorem draw_lc (Φ : Fns) (h17 : H17 Φ) (h18 : H18 Φ) (n : Nat) (p : D) (hp : Pot n p) (hn : n ≤ 1000000) :
    ∃ F p', FOk F ∧ Pot (n + 20) p' ∧ ev Φ (.lc [15] (.slot 15) (.range [.op .add [.const (.int 1), .call 17 [.peek 0, .const (.int 5)]]]) [] (.cb .int [.call 18 [.peek 0, .lst [.const (.int 0), .const (.int 1), .const (.int 4), .const (.int 9), .frz (.call 17 [.peek 0, .const (.int 10)])]]])) [some p, none, none, none, none, none, none, none, none, none, none, none, none, none, none, none, none, none] = .ok (.lst true (F.map D.int)) [some p', none, none, none, none, none, none, none, none, none, none, none, none, none, none, none, none, none] := by
  obtain ⟨v, p1, c1, v1, v2, hp1⟩ := h17 n p 5 hp (by omega) (by decide) (by decide)
  obtain ⟨j, rfl⟩ := Int.eq_ofNat_of_zero_le v1
  have hr := rangeOf_nat (1 + j) (by unfold SZ; omega)
  have hc : ((1 + j : Nat) : Int) = 1 + (j : Int) := by omega
  rw [hc] at hr
  obtain ⟨es, ρ6, e, ⟨p', ⟨o, rfl⟩, hp'⟩, hl, hq⟩ := ev_lc_st Φ [15] (.slot 15) (.range [.op .add [.const (.int 1), .call 17 [.peek 0, .const (.int 5)]]]) (.cb .int [.call 18 [.peek 0, .lst [.const (.int 0), .const (.int 1), .const (.int 4), .const (.int 9), .frz (.call 17 [.peek 0, .const (.int 10)])]]])
    [some p, none, none, none, none, none, none, none, none, none, none, none, none, none, none, none, none, none] [some p1, none, none, none, none, none, none, none, none, none, none, none, none, none, none, none, none, none] ((List.range (1 + j)).map fun j : Nat => D.int (j : Int)) (fun i ρ => ∃ p', (∃ o, ρ = [some p', none, none, none, none, none, none, none, none, none, none, none, none, none, none, o, none, none]) ∧ Pot (n + 1 + 2 * i) p') (fun e => ∃ i, e = .int i ∧ 0 ≤ i ∧ i ≤ 9)
    (by simp -dsimp only [E_const, E_glob, E_var, E_mov, E_op, E_isn, E_neg, E_notE, E_chain, E_andE, E_orE, E_ite, E_tup, E_lst, E_idx, E_slc, E_cb, E_call, E_callK, E_rng2, rngK_t, rngK_f, E_frz, Es_nil, Es_peek, Es_peekF, Es_star, Es_const, Es_glob, Es_var, Es_mov, Es_op, Es_isn, Es_neg, Es_notE, Es_chain, Es_andE, Es_orE, Es_ite, Es_tup, Es_lst, Es_idx, Es_slc, Es_cb, Es_call, Es_callK, Es_rng, Es_frz, Es_lc, Eb_nil, Eb_one, Ei_nil, Ei_cons, It_seq, It_range, It_enum, It_zip, S_ex, S_asg, S_par, S_seti, S_app, S_ext, S_aug, S_augi, S_ret, S_ifs, S_for_, S_while_, S_never, Ss_nil, Ss_cons, getE_zero, getE_succ, ↓bind_rb, ↓ofR_rb, ↓rbk, ↓ork, rbk, ork, Bool.false_eq_true, if_false, oo_some, ob_some, om_some, getAll, OV.get, OV.refs, nodupN, putBack, set_zero, set_succ, List.set_cons_zero, List.set_cons_succ, bindT, bindTs, op2, List.contains_nil, List.contains_cons, Nat.reduceBEq, Bool.or_false, Bool.or_self, Bool.not_false, Bool.not_true, Bool.and_true, Bool.true_and, Bool.and_self, List.length_cons, List.length_nil, if_true, List.cons_append, List.nil_append, reduceIte, Nat.reduceLT, Nat.reduceAdd, prD, isD_tt, isD_ti, isD_lt, isD_li, isD_nt, isD_ni, isD_nb, isD_ii, isD_ib, isD_it, isD_bi, isD_bb, isD_bt, sz_0, sz_1, sz_2, sz_3, sz_4, sz_5, sz_6, sz_7, sz_8, sz_9, sz_10, sz_11, sz_12, sz_13, sz_14, sz_15, sz_16, sz_17, sz_18, sz_19, sz_20, c1, addD, hr]) (by simp; unfold SZ; omega) rfl ⟨p1, ⟨none, rfl⟩, hp1⟩
    (by
      rintro d hd i ρ2 hi ⟨p2, ⟨o, rfl⟩, hp2⟩
      have hi' : i < 10 := by simp at hi; omega
      obtain ⟨x, p3, c2, x1, x2, hp3⟩ := h17 _ p2 10 hp2 (by omega) (by decide) (by decide)
      obtain ⟨y, p4, c3, hm, hp4⟩ := h18 _ p3 [.int 0, .int 1, .int 4, .int 9, .int x] hp3 (by omega) (by simp) (by simp) (by simp [D.own])
      have hy : ∃ z, y = .int z ∧ 0 ≤ z ∧ z ≤ 9 := by
        simp at hm
        rcases hm with rfl | rfl | rfl | rfl | rfl
        · exact ⟨0, rfl, by decide, by decide⟩
        · exact ⟨1, rfl, by decide, by decide⟩
        · exact ⟨4, rfl, by decide, by decide⟩
        · exact ⟨9, rfl, by decide, by decide⟩
        · exact ⟨x, rfl, by omega, by omega⟩
      obtain ⟨z, rfl, z1, z2⟩ := hy
      refine ⟨[some p2, none, none, none, none, none, none, none, none, none, none, none, none, none, none, some d, none, none], .int z, [some p4, none, none, none, none, none, none, none, none, none, none, none, none, none, none, some d, none, none], rfl, ?_, ⟨p4, ⟨some d, rfl⟩, hp4.mono (by omega)⟩, ⟨z, rfl, z1, z2⟩⟩
      simp -dsimp only [E_const, E_glob, E_var, E_mov, E_op, E_isn, E_neg, E_notE, E_chain, E_andE, E_orE, E_ite, E_tup, E_lst, E_idx, E_slc, E_cb, E_call, E_callK, E_rng2, rngK_t, rngK_f, E_frz, Es_nil, Es_peek, Es_peekF, Es_star, Es_const, Es_glob, Es_var, Es_mov, Es_op, Es_isn, Es_neg, Es_notE, Es_chain, Es_andE, Es_orE, Es_ite, Es_tup, Es_lst, Es_idx, Es_slc, Es_cb, Es_call, Es_callK, Es_rng, Es_frz, Es_lc, Eb_nil, Eb_one, Ei_nil, Ei_cons, It_seq, It_range, It_enum, It_zip, S_ex, S_asg, S_par, S_seti, S_app, S_ext, S_aug, S_augi, S_ret, S_ifs, S_for_, S_while_, S_never, Ss_nil, Ss_cons, getE_zero, getE_succ, ↓bind_rb, ↓ofR_rb, ↓rbk, ↓ork, rbk, ork, Bool.false_eq_true, if_false, oo_some, ob_some, om_some, getAll, OV.get, OV.refs, nodupN, putBack, set_zero, set_succ, List.set_cons_zero, List.set_cons_succ, bindT, bindTs, op2, List.contains_nil, List.contains_cons, Nat.reduceBEq, Bool.or_false, Bool.or_self, Bool.not_false, Bool.not_true, Bool.and_true, Bool.true_and, Bool.and_self, List.length_cons, List.length_nil, if_true, List.cons_append, List.nil_append, reduceIte, Nat.reduceLT, Nat.reduceAdd, prD, isD_tt, isD_ti, isD_lt, isD_li, isD_nt, isD_ni, isD_nb, isD_ii, isD_ib, isD_it, isD_bi, isD_bb, isD_bt, sz_0, sz_1, sz_2, sz_3, sz_4, sz_5, sz_6, sz_7, sz_8, sz_9, sz_10, sz_11, sz_12, sz_13, sz_14, sz_15, sz_16, sz_17, sz_18, sz_19, sz_20, c2, D.frz, c3, intD_i])
  obtain ⟨F, rfl, hF⟩ := ints_of (fun i => 0 ≤ i ∧ i ≤ 9) es hq
  refine ⟨F, p', ⟨?_, ?_, hF⟩, hp'.mono (by simp; omega), e⟩
  · simp at hl; omega
  · simp at hl; omega
theorem draw (Φ : Fns) (h17 : H17 Φ) (h18 : H18 Φ) (n : Nat) (p : D) (hp : Pot n p) (hn : n ≤ 1000000) :
    ∃ F w p', FOk F ∧ 1 ≤ w ∧ w ≤ 4 ∧ Pot (n + 30) p' ∧ exS Φ [0] st1 [some p, none, none, none, none, none, none, none, none, none, none, none, none, none, none, none, none, none] = .nx [some p', none, none, none, none, none, none, none, none, some (Fl F), some (.int w), none, none, none, none, none, none, none] := by
  obtain ⟨F, p1, hF, hp1, e⟩ := draw_lc Φ h17 h18 n p hp hn
  obtain ⟨v, p2, c, v1, v2, hp2⟩ := h17 _ p1 4 hp1 (by omega) (by decide) (by decide)
  refine ⟨F, 1 + v, p2, hF, by omega, by omega, hp2.mono (by omega), ?_⟩
  simp -dsimp only [st1, ↓e, E_const, E_glob, E_var, E_mov, E_op, E_isn, E_neg, E_notE, E_chain, E_andE, E_orE, E_ite, E_tup, E_lst, E_idx, E_slc, E_cb, E_call, E_callK, E_rng2, rngK_t, rngK_f, E_frz, Es_nil, Es_peek, Es_peekF, Es_star, Es_const, Es_glob, Es_var, Es_mov, Es_op, Es_isn, Es_neg, Es_notE, Es_chain, Es_andE, Es_orE, Es_ite, Es_tup, Es_lst, Es_idx, Es_slc, Es_cb, Es_call, Es_callK, Es_rng, Es_frz, Es_lc, Eb_nil, Eb_one, Ei_nil, Ei_cons, It_seq, It_range, It_enum, It_zip, S_ex, S_asg, S_par, S_seti, S_app, S_ext, S_aug, S_augi, S_ret, S_ifs, S_for_, S_while_, S_never, Ss_nil, Ss_cons, getE_zero, getE_succ, ↓bind_rb, ↓ofR_rb, ↓rbk, ↓ork, rbk, ork, Bool.false_eq_true, if_false, oo_some, ob_some, om_some, getAll, OV.get, OV.refs, nodupN, putBack, set_zero, set_succ, List.set_cons_zero, List.set_cons_succ, bindT, bindTs, op2, List.contains_nil, List.contains_cons, Nat.reduceBEq, Bool.or_false, Bool.or_self, Bool.not_false, Bool.not_true, Bool.and_true, Bool.true_and, Bool.and_self, List.length_cons, List.length_nil, if_true, List.cons_append, List.nil_append, reduceIte, Nat.reduceLT, Nat.reduceAdd, prD, isD_tt, isD_ti, isD_lt, isD_li, isD_nt, isD_ni, isD_nb, isD_ii, isD_ib, isD_it, isD_bi, isD_bb, isD_bt, sz_0, sz_1, sz_2, sz_3, sz_4, sz_5, sz_6, sz_7, sz_8, sz_9, sz_10, sz_11, sz_12, sz_13, sz_14, sz_15, sz_16, sz_17, sz_18, sz_19, sz_20, tupleD, seqOf, ownL_int, c, addD, intD_i, Fl]
end LW
end

section
set_option linter.all false
set_option maxRecDepth 100000
namespace LW
open Mi PySem
/-! which texts are alike -/
def tx (s : Str) : List Nat := s.cps.toList
theorem tx_app (a b : Str) : tx (a ++ b) = tx a ++ tx b := by
  show (a.cps ++ b.cps).toList = _
  simp [tx]
theorem tx_inj {a b : Str} (h : tx a = tx b) : a = b := by
  cases a; cases b
  simp [tx] at h
  rw [h]
theorem tup2 (a b : Str) : tx (tupleText [a, b]) = 40 :: (tx a ++ 44 :: 32 :: (tx b ++ [41])) := by
  have e1 : tx (("(" : String) : Str) = [40] := by decide +kernel
  have e2 : tx ((", " : String) : Str) = [44, 32] := by decide +kernel
  have e3 : tx ((")" : String) : Str) = [41] := by decide +kernel
  simp only [tupleText, Str.join, tx_app, e1, e2]
  simp [e3]
theorem tup1 (a : Str) : tx (tupleText [a]) = 40 :: (tx a ++ [44, 41]) := by
  have e1 : tx (("(" : String) : Str) = [40] := by decide +kernel
  have e3 : tx ((",)" : String) : Str) = [44, 41] := by decide +kernel
  simp only [tupleText, Str.join, tx_app, e1]
  simp [e3]
theorem tup3 (a b c : Str) : tx (tupleText [a, b, c]) = 40 :: (tx a ++ 44 :: 32 :: (tx b ++ 44 :: 32 :: (tx c ++ [41]))) := by
  have e1 : tx (("(" : String) : Str) = [40] := by decide +kernel
  have e2 : tx ((", " : String) : Str) = [44, 32] := by decide +kernel
  have e3 : tx ((")" : String) : Str) = [41] := by decide +kernel
  simp only [tupleText, Str.join, tx_app, e1, e2]
  simp [e3]
theorem tup0 : tx (tupleText []) = [40, 41] := by decide +kernel
theorem lst2 (a b : Str) : ∃ r, tx (listText [a, b]) = 91 :: r := by
  have e1 : tx (("[" : String) : Str) = [91] := by decide +kernel
  simp only [listText, textFrom, tx_app, e1]
  exact ⟨_, by simp; rfl⟩
/-- no comma within -/
def nc (l : List Nat) : Prop := ∀ x ∈ l, x ≠ 44
theorem split44 : ∀ (a b r s : List Nat), nc a → nc b → a ++ 44 :: r = b ++ 44 :: s → a = b ∧ r = s
  | [], [], r, s, _, _, h => ⟨rfl, by simpa using h⟩
  | [], y :: b, r, s, _, hb, h => by
    simp at h; exact absurd h.1.symm (hb y (by simp))
  | x :: a, [], r, s, ha, _, h => by
    simp at h; exact absurd h.1 (ha x (by simp))
  | x :: a, y :: b, r, s, ha, hb, h => by
    simp at h
    obtain ⟨h1, h2⟩ := split44 a b r s (fun z hz => ha z (by simp [hz])) (fun z hz => hb z (by simp [hz])) h.2
    exact ⟨by rw [h.1, h1], h2⟩
theorem nc_int (i : Int) : nc (tx ((PyData.int i).shown)) := by
  intro x hx
  simp only [PyData.shown, tx, Str.ofString_eq_toList] at hx
  simp at hx
  obtain ⟨c, hc, rfl⟩ := hx
  have : c.isDigit = true ∨ c = '-' := by
    cases i with
    | ofNat n =>
      have : c ∈ (Nat.repr n).toList := hc
      rw [Nat.repr_eq_ofList_toDigits] at this
      simp at this
      exact .inl (Nat.isDigit_of_mem_toDigits (by decide) (by decide) this)
    | negSucc n =>
      have : c ∈ ("-" ++ Nat.repr (n + 1)).toList := hc
      rw [String.toList_append] at this
      rcases List.mem_append.1 this with h | h
      · right; simpa using h
      · left
        rw [Nat.repr_eq_ofList_toDigits] at h
        simp at h
        exact Nat.isDigit_of_mem_toDigits (by decide) (by decide) h
  rcases this with h | rfl
  · intro h2
    have h3 : c.val = 44 := by
      have : c.val.toNat = 44 := h2
      exact UInt32.toNat_inj.mp this
    have : c = ',' := Char.ext h3
    rw [this] at h
    exact absurd h (by decide)
  · decide
theorem chars_inj : ∀ a b : List Char, a.map Char.toNat = b.map Char.toNat → a = b
  | [], [], _ => rfl
  | [], _ :: _, h => by simp at h
  | _ :: _, [], h => by simp at h
  | x :: a, y :: b, h => by
    simp only [List.map_cons, List.cons.injEq] at h
    have h1 : x = y := Char.ext (UInt32.toNat_inj.mp h.1)
    rw [h1, chars_inj a b h.2]
theorem int_inj {i j : Int} (h : tx ((PyData.int i).shown) = tx ((PyData.int j).shown)) : i = j := by
  have h1 := tx_inj h
  simp only [PyData.shown, Str.ofString_eq_toList] at h1
  have h2 : (toString i).toList.map Char.toNat = (toString j).toList.map Char.toNat := by simpa using h1
  have h3 : (toString i).toList = (toString j).toList := by
    exact chars_inj _ _ h2
  have h4 : toString i = toString j := String.toList_inj.mp h3
  exact Int.repr_inj.mp h4
end LW
end

section
set_option linter.all false
set_option maxRecDepth 100000
namespace LW
open Mi PySem
theorem int_chars (i : Int) : ∀ x ∈ tx ((PyData.int i).shown), x = 45 ∨ (48 ≤ x ∧ x ≤ 57) := by
  intro x hx
  simp only [PyData.shown, tx, Str.ofString_eq_toList] at hx
  simp at hx
  obtain ⟨c, hc, rfl⟩ := hx
  have hd : c.isDigit = true → 48 ≤ c.toNat ∧ c.toNat ≤ 57 := by
    intro h
    simp [Char.isDigit, UInt32.le_iff_toNat_le] at h
    exact h
  cases i with
  | ofNat n =>
    have : c ∈ (Nat.repr n).toList := hc
    rw [Nat.repr_eq_ofList_toDigits] at this
    simp at this
    exact .inr (hd (Nat.isDigit_of_mem_toDigits (by decide) (by decide) this))
  | negSucc n =>
    have : c ∈ ("-" ++ Nat.repr (n + 1)).toList := hc
    rw [String.toList_append] at this
    rcases List.mem_append.1 this with h | h
    · left
      have : c = '-' := by simpa using h
      rw [this]; rfl
    · right
      rw [Nat.repr_eq_ofList_toDigits] at h
      simp at h
      exact hd (Nat.isDigit_of_mem_toDigits (by decide) (by decide) h)
theorem t_non : tx (PyData.none.shown) = [78, 111, 110, 101] := by simp only [PyData.shown]; decide +kernel
theorem t_true : tx ((PyData.bool true).shown) = [84, 114, 117, 101] := by simp only [PyData.shown]; decide +kernel
theorem t_false : tx ((PyData.bool false).shown) = [70, 97, 108, 115, 101] := by simp only [PyData.shown]; decide +kernel
theorem nc_Pl {a : D} (h : Pl a) : nc (tx a.pd.shown) := by
  rcases h with ⟨i, rfl⟩ | ⟨b, rfl⟩ | rfl
  · exact nc_int i
  · simp only [D.pd]
    cases b
    · rw [t_false]; intro x hx; simp at hx; omega
    · rw [t_true]; intro x hx; simp at hx; omega
  · simp only [D.pd]; rw [t_non]; intro x hx; simp at hx; omega
theorem Pl_inj {a b : D} (ha : Pl a) (hb : Pl b) (h : tx a.pd.shown = tx b.pd.shown) : a = b := by
  have k1 : ∀ (i : Int) (l : List Nat), tx ((PyData.int i).shown) = l → ∀ x ∈ l, x = 45 ∨ (48 ≤ x ∧ x ≤ 57) := fun i l e => e ▸ int_chars i
  rcases ha with ⟨i, rfl⟩ | ⟨x, rfl⟩ | rfl <;> rcases hb with ⟨j, rfl⟩ | ⟨y, rfl⟩ | rfl <;> simp only [D.pd] at h
  · rw [int_inj h]
  · exfalso; cases y
    · rw [t_false] at h; have := k1 _ _ h 70 (by simp); omega
    · rw [t_true] at h; have := k1 _ _ h 84 (by simp); omega
  · exfalso; rw [t_non] at h; have := k1 _ _ h 78 (by simp); omega
  · exfalso; cases x
    · rw [t_false] at h; have := k1 _ _ h.symm 70 (by simp); omega
    · rw [t_true] at h; have := k1 _ _ h.symm 84 (by simp); omega
  · cases x <;> cases y
    · rfl
    · rw [t_false, t_true] at h; simp at h
    · rw [t_false, t_true] at h; simp at h
    · rfl
  · exfalso; cases x
    · rw [t_false, t_non] at h; simp at h
    · rw [t_true, t_non] at h; simp at h
  · exfalso; rw [t_non] at h; have := k1 _ _ h.symm 78 (by simp); omega
  · exfalso; cases y
    · rw [t_false, t_non] at h; simp at h
    · rw [t_true, t_non] at h; simp at h
  · rfl
theorem sh_two (a b : D) : tx (sh (.tup [a, b])) = 40 :: (tx a.pd.shown ++ 44 :: 32 :: (tx b.pd.shown ++ [41])) := by
  simp only [sh, D.pd, pdL, PyData.shown, PyData.shownAll, tup2]
theorem two_inj {a b c d : D} (ha : Pl a) (hb : Pl b) (hc : Pl c) (hd : Pl d) : (sh (.tup [a, b]) == sh (.tup [c, d])) = true ↔ a = c ∧ b = d := by
  constructor
  · intro h
    have h : sh (.tup [a, b]) = sh (.tup [c, d]) := by simpa using h
    have h := congrArg tx h
    rw [sh_two, sh_two] at h
    simp only [List.cons.injEq, true_and] at h
    obtain ⟨h1, h2⟩ := split44 _ _ _ _ (nc_Pl ha) (nc_Pl hc) h
    simp only [List.cons.injEq, true_and] at h2
    have h3 := List.append_cancel_right h2
    exact ⟨Pl_inj ha hc h1, Pl_inj hb hd h3⟩
  · rintro ⟨rfl, rfl⟩; simp
/-- no other shape has the text of a pair -/
theorem other_ne (v : D) (c d : D) (hc : Pl c) (hd : Pl d) (h : (∃ o a b, v = .lst o [a, b]) ∨ v = .non ∨ v = .tup [] ∨ (∃ a, Pl a ∧ v = .tup [a]) ∨ ∃ a b e, Pl a ∧ Pl b ∧ Pl e ∧ v = .tup [a, b, e]) : (sh (.tup [c, d]) == sh v) = false := by
  rw [← Bool.not_eq_true]
  intro h2
  have h2 : sh (.tup [c, d]) = sh v := by simpa using h2
  have h2 := congrArg tx h2
  rw [sh_two] at h2
  rcases h with ⟨o, a, b, rfl⟩ | rfl | rfl | ⟨a, ha, rfl⟩ | ⟨a, b, e, ha, hb, he, rfl⟩
  · simp only [sh, D.pd, pdL, PyData.shown, PyData.shownAll] at h2
    obtain ⟨r, hr⟩ := lst2 a.pd.shown b.pd.shown
    rw [hr] at h2
    simp at h2
  · have e : tx (sh .non) = [78, 111, 110, 101] := t_non
    rw [e] at h2; simp at h2
  · simp only [sh, D.pd, pdL, PyData.shown, PyData.shownAll, tup0] at h2
    have := congrArg List.length h2
    simp at this
    omega
  · simp only [sh, D.pd, pdL, PyData.shown, PyData.shownAll, tup1] at h2
    simp only [List.cons.injEq, true_and] at h2
    obtain ⟨_, h3⟩ := split44 _ _ _ _ (nc_Pl hc) (nc_Pl ha) h2
    simp at h3
  · simp only [sh, D.pd, pdL, PyData.shown, PyData.shownAll, tup3] at h2
    simp only [List.cons.injEq, true_and] at h2
    obtain ⟨_, h3⟩ := split44 _ _ _ _ (nc_Pl hc) (nc_Pl ha) h2
    simp only [List.cons.injEq, true_and] at h3
    have h4 : (44 : Nat) ∈ tx d.pd.shown ++ [41] := by rw [h3]; simp
    rcases List.mem_append.1 h4 with h4 | h4
    · exact nc_Pl hd 44 h4 rfl
    · simp at h4
/-- the texts that are told as right -/
def FS (F : List Int) (w m : Int) : List Str := if 0 < m then ((List.range F.length).filter fun j => need F w j == m).map fun j : Nat => sh (.tup [.int m, .int ((j : Int) + 1)]) else [sh (.tup [.int 0, .non])]
theorem pl_i (i : Int) : Pl (.int i) := .inl ⟨i, rfl⟩
theorem pl_n : Pl .non := .inr (.inr rfl)
theorem pl_b (b : Bool) : Pl (.bl b) := .inr (.inl ⟨b, rfl⟩)
theorem fine_two (F : List Int) (w m : Int) (a b : D) (ha : Pl a) (hb : Pl b) (h0 : 0 ≤ m) (h1 : m ≤ 400) : showsV F w m (.tup [a, b]) = (FS F w m).any (· == sh (.tup [a, b])) := by
  unfold FS
  by_cases hm : 0 < m
  · rw [if_pos hm, List.any_map, Bool.eq_iff_iff]
    simp only [List.any_eq_true, List.mem_filter, List.mem_range, Function.comp_apply, two_inj (pl_i _) (pl_i _) ha hb, beq_iff_eq]
    constructor
    · intro h
      rcases ha with ⟨x, rfl⟩ | ⟨x, rfl⟩ | rfl
      · simp only [showsV, if_neg (show ¬ m = 0 by omega), Bool.and_eq_true, beq_iff_eq] at h
        obtain ⟨_, rfl, _, h3⟩ := h
        rcases hb with ⟨y, rfl⟩ | ⟨y, rfl⟩ | rfl
        · simp only [hasD, hasN, List.any_eq_true, List.mem_range, Bool.and_eq_true, beq_iff_eq] at h3
          obtain ⟨j, hj, e1, rfl⟩ := h3
          exact ⟨j, ⟨hj, e1⟩, rfl, rfl⟩
        · simp [hasD] at h3
        · simp [hasD] at h3
      · simp [showsV] at h
      · simp [showsV] at h
    · rintro ⟨j, ⟨hj, e1⟩, rfl, rfl⟩
      simp only [showsV, if_neg (show ¬ m = 0 by omega), Bool.and_eq_true, beq_iff_eq, isB, decide_eq_true_eq, hasD, hasN, List.any_eq_true, List.mem_range, true_and]
      exact ⟨⟨h0, h1⟩, ⟨by omega, by omega⟩, j, hj, e1, rfl⟩
  · have hz : m = 0 := by omega
    subst hz
    rw [if_neg hm, List.any_cons, List.any_nil, Bool.or_false, Bool.eq_iff_iff, two_inj (pl_i _) pl_n ha hb]
    constructor
    · intro h
      rcases ha with ⟨x, rfl⟩ | ⟨x, rfl⟩ | rfl
      · simp only [showsV, if_pos, Bool.and_eq_true, beq_iff_eq] at h
        obtain ⟨_, rfl, h3⟩ := h
        rcases hb with ⟨y, rfl⟩ | ⟨y, rfl⟩ | rfl
        · simp [isNon] at h3
        · simp [isNon] at h3
        · exact ⟨rfl, rfl⟩
      · simp [showsV] at h
      · simp [showsV] at h
    · rintro ⟨rfl, rfl⟩
      simp [showsV, isB, isNon]
theorem fine_other (F : List Int) (w m : Int) (v : D) (hs : showsV F w m v = false) (h : (∃ o a b, v = .lst o [a, b]) ∨ v = .non ∨ v = .tup [] ∨ (∃ a, Pl a ∧ v = .tup [a]) ∨ ∃ a b e, Pl a ∧ Pl b ∧ Pl e ∧ v = .tup [a, b, e]) : showsV F w m v = (FS F w m).any (· == sh v) := by
  rw [hs]
  unfold FS
  split
  · rw [List.any_map]
    symm
    rw [List.any_eq_false]
    intro j hj
    simp only [Function.comp_apply, other_ne v _ _ (pl_i _) (pl_i _) h]
    decide
  · rw [List.any_cons, List.any_nil, Bool.or_false, other_ne v _ _ (pl_i _) pl_n h]
end LW
end

section
set_option linter.all false
set_option maxRecDepth 100000
set_option maxHeartbeats 1000000
namespace LW
open Mi
theorem sum_le9 : ∀ (s : List Int), (∀ x ∈ s, 0 ≤ x ∧ x ≤ 9) → 0 ≤ s.sum ∧ s.sum ≤ 9 * (s.length : Int)
  | [], _ => by simp
  | x :: r, h => by
    have h1 := h x (by simp)
    have h2 := sum_le9 r (fun y hy => h y (by simp [hy]))
    simp; omega
theorem need_le (F : List Int) (w : Int) (h : FOk F) (hw : 1 ≤ w) (j : Nat) (hj : j < F.length) : need F w j ≤ 49 := by
  have h1 := sum_le9 (F.drop j) (fun x hx => h.2.2 x (List.mem_of_mem_drop hx))
  have h2 := h.2.1
  simp at h1
  unfold need S
  split
  · rename_i hp
    have h3 : ((F.drop j).sum + w - 1) / w ≤ (F.drop j).sum := by
      apply Int.ediv_le_of_le_mul (by omega)
      have : (F.drop j).sum + w - 1 ≤ (F.drop j).sum * w := by
        have h5 : 0 ≤ ((F.drop j).sum - 1) * (w - 1) := Int.mul_nonneg (by omega) (by omega)
        rw [Int.sub_mul, Int.mul_sub, Int.mul_sub] at h5
        omega
      exact this
    omega
  · omega
theorem m_le (F : List Int) (w m : Int) (h : FOk F) (hw : 1 ≤ w) (hm : IsL F w m) : 0 ≤ m ∧ m ≤ 49 := by
  obtain ⟨j, hj, rfl⟩ := hm.1
  exact ⟨need_nonneg F w j (by omega), need_le F w h hw j hj⟩
theorem FOk.nn {F : List Int} (h : FOk F) : NN F := fun x hx => (h.2.2 x hx).1
def H20 (Φ : Fns) : Prop := ∀ (G : List Int) (w L : Int), 0 < w → 1 ≤ G.length → G.length ≤ 1000 → NN G → IsL G w L → L < 900000 → Φ 20 [Fl G, .int w] = .ok (.lst true ((outs w G (L.toNat + 1)).map D.int)) [Fl G, .int w]
def H21 (Φ : Fns) : Prop := ∀ (G : List Int) (w : Int), G.length < SZ → 0 < w → w < 1073741824 → Φ 21 [Fl G, .int w] = .ok (.lst true ((needI G w G.length).map D.int)) [Fl G, .int w]
/-- what told_ok tells -/
inductive Told (F : List Int) (w m : Int) : D → Prop
  | zero : m = 0 → Told F w m (.tup [.int 0, .non])
  | pos (j : Nat) : 0 < m → j < F.length → need F w j = m → Told F w m (.tup [.int m, .int ((j : Int) + 1)])
def H9 (Φ : Fns) : Prop := ∀ (F : List Int) (w m : Int), FOk F → 1 ≤ w → w ≤ 20 → IsL F w m → ∃ T, Told F w m T ∧ Φ 9 [Fl F, .int w] = .ok T [Fl F, .int w]
def H10 (Φ : Fns) : Prop := ∀ (F : List Int) (w m : Int) (v : D), FOk F → 1 ≤ w → w ≤ 20 → IsL F w m → VOk v → Φ 10 [Fl F, .int w, v] = .ok (.bl (showsV F w m v)) [Fl F, .int w, v]
def H12 (Φ : Fns) : Prop := ∀ (F : List Int) (w : Int) (t : Nat), FOk F → 1 ≤ w → w ≤ 20 → t ≤ 400 → Φ 12 [Fl F, .int w, .int (t : Int)] = .ok (.int (F.sum - S (it w t F) 0)) [Fl F, .int w, .int (t : Int)]
def H14 (Φ : Fns) : Prop := ∀ (F : List Int) (w : Int), FOk F → 1 ≤ w → w ≤ 20 → Φ 14 [Fl F, .int w] = .ok (.tup ((F.zipIdx 0).map fun p => .int (aloneN w p))) [Fl F, .int w]
def H15 (Φ : Fns) : Prop := ∀ (F : List Int) (t : Int), FOk F → 0 ≤ t → t ≤ 400 → Φ 15 [Fl F, .int t] = .ok (match fineW F t with | [] => .non | j :: _ => .int (1 + (j : Int))) [Fl F, .int t]
def st2 : IS := .par [11, 12] [.call 20 [.peek 9, .peek 10], .call 21 [.peek 9, .peek 10]]
def st3 : IS := .asg (.slot 1) (.op .sub [.cb .len [.peek 11], .const (.int 1)])
theorem s2 (Φ : Fns) (h20 : H20 Φ) (h21 : H21 Φ) (p : D) (F : List Int) (w m : Int) (h : FOk F) (w1 : 1 ≤ w) (w2 : w ≤ 20) (hm : IsL F w m) :
    exS Φ [0] st2 [some p, none, none, none, none, none, none, none, none, some (Fl F), some (.int w), none, none, none, none, none, none, none] = .nx [some p, none, none, none, none, none, none, none, none, some (Fl F), some (.int w), some (.lst true ((outs w F (m.toNat + 1)).map D.int)), some (.lst true ((needI F w F.length).map D.int)), none, none, none, none, none] := by
  have c20 := h20 F w m (by omega) h.1 (by have := h.2.1; omega) h.nn hm (by have := m_le F w m h w1 hm; omega)
  have c21 := h21 F w (by have := h.2.1; unfold SZ; omega) (by omega) (by omega)
  simp -dsimp only [st2, E_const, E_glob, E_var, E_mov, E_op, E_isn, E_neg, E_notE, E_chain, E_andE, E_orE, E_ite, E_tup, E_lst, E_idx, E_slc, E_cb, E_call, E_callK, E_rng2, rngK_t, rngK_f, E_frz, Es_nil, Es_peek, Es_peekF, Es_star, Es_const, Es_glob, Es_var, Es_mov, Es_op, Es_isn, Es_neg, Es_notE, Es_chain, Es_andE, Es_orE, Es_ite, Es_tup, Es_lst, Es_idx, Es_slc, Es_cb, Es_call, Es_callK, Es_rng, Es_frz, Es_lc, Eb_nil, Eb_one, Ei_nil, Ei_cons, It_seq, It_range, It_enum, It_zip, S_ex, S_asg, S_par, S_seti, S_app, S_ext, S_aug, S_augi, S_ret, S_ifs, S_for_, S_while_, S_never, Ss_nil, Ss_cons, getE_zero, getE_succ, ↓bind_rb, ↓ofR_rb, ↓rbk, ↓ork, rbk, ork, Bool.false_eq_true, if_false, oo_some, ob_some, om_some, getAll, OV.get, OV.refs, nodupN, putBack, set_zero, set_succ, List.set_cons_zero, List.set_cons_succ, bindT, bindTs, op2, List.contains_nil, List.contains_cons, Nat.reduceBEq, Bool.or_false, Bool.or_self, Bool.not_false, Bool.not_true, Bool.and_true, Bool.true_and, Bool.and_self, List.length_cons, List.length_nil, if_true, List.cons_append, List.nil_append, reduceIte, Nat.reduceLT, Nat.reduceAdd, prD, isD_tt, isD_ti, isD_lt, isD_li, isD_nt, isD_ni, isD_nb, isD_ii, isD_ib, isD_it, isD_bi, isD_bb, isD_bt, sz_0, sz_1, sz_2, sz_3, sz_4, sz_5, sz_6, sz_7, sz_8, sz_9, sz_10, sz_11, sz_12, sz_13, sz_14, sz_15, sz_16, sz_17, sz_18, sz_19, sz_20, c20, c21, List.reverse_cons, List.reverse_nil, parE]
theorem s3 (Φ : Fns) (p : D) (F : List Int) (w m : Int) (hm : 0 ≤ m) (x : Option D) :
    exS Φ [0] st3 [some p, none, none, none, none, none, none, none, none, some (Fl F), some (.int w), some (.lst true ((outs w F (m.toNat + 1)).map D.int)), x, none, none, none, none, none] = .nx [some p, some (.int m), none, none, none, none, none, none, none, some (Fl F), some (.int w), some (.lst true ((outs w F (m.toNat + 1)).map D.int)), x, none, none, none, none, none] := by
  have e : ((((outs w F (m.toNat + 1)).map D.int).length : Nat) : Int) - 1 = m := by simp [outs]; omega
  simp -dsimp only [st3, E_const, E_glob, E_var, E_mov, E_op, E_isn, E_neg, E_notE, E_chain, E_andE, E_orE, E_ite, E_tup, E_lst, E_idx, E_slc, E_cb, E_call, E_callK, E_rng2, rngK_t, rngK_f, E_frz, Es_nil, Es_peek, Es_peekF, Es_star, Es_const, Es_glob, Es_var, Es_mov, Es_op, Es_isn, Es_neg, Es_notE, Es_chain, Es_andE, Es_orE, Es_ite, Es_tup, Es_lst, Es_idx, Es_slc, Es_cb, Es_call, Es_callK, Es_rng, Es_frz, Es_lc, Eb_nil, Eb_one, Ei_nil, Ei_cons, It_seq, It_range, It_enum, It_zip, S_ex, S_asg, S_par, S_seti, S_app, S_ext, S_aug, S_augi, S_ret, S_ifs, S_for_, S_while_, S_never, Ss_nil, Ss_cons, getE_zero, getE_succ, ↓bind_rb, ↓ofR_rb, ↓rbk, ↓ork, rbk, ork, Bool.false_eq_true, if_false, oo_some, ob_some, om_some, getAll, OV.get, OV.refs, nodupN, putBack, set_zero, set_succ, List.set_cons_zero, List.set_cons_succ, bindT, bindTs, op2, List.contains_nil, List.contains_cons, Nat.reduceBEq, Bool.or_false, Bool.or_self, Bool.not_false, Bool.not_true, Bool.and_true, Bool.true_and, Bool.and_self, List.length_cons, List.length_nil, if_true, List.cons_append, List.nil_append, reduceIte, Nat.reduceLT, Nat.reduceAdd, prD, isD_tt, isD_ti, isD_lt, isD_li, isD_nt, isD_ni, isD_nb, isD_ii, isD_ib, isD_it, isD_bi, isD_bb, isD_bt, sz_0, sz_1, sz_2, sz_3, sz_4, sz_5, sz_6, sz_7, sz_8, sz_9, sz_10, sz_11, sz_12, sz_13, sz_14, sz_15, sz_16, sz_17, sz_18, sz_19, sz_20, lenD, subD, e]
def st4 : IS := .asg (.slot 2) (.ite (.op .gt [.peek 1, .const (.int 0)]) (.lc [14, 16] (.tup [(.slot 14), (.slot 16)]) (.enum [.peekF 12]) [.op .eq [.peek 16, .peek 1]] (.cb .repr [.tup [.var 1, .cb .int [.op .add [.peek 14, .const (.int 1)]]]])) (.lst [.cb .repr [.tup [.const (.int 0), .const .non]]]))
theorem zipIdx_range {α : Type} (f : Nat → α) (n : Nat) : (((List.range n).map f).zipIdx 0) = (List.range n).map fun j => (f j, j) := by
  apply List.ext_getElem
  · simp
  · intro i h1 h2; simp
theorem repr_mi (m i : Int) (hm : 0 ≤ m ∧ m ≤ 1000) (hi : 0 ≤ i ∧ i ≤ 1000) : reprD (.tup [.int m, .int i]) = some (.str (sh (.tup [.int m, .int i]))) := by
  refine repr_small _ rfl ?_ ?_
  · simp only [D.pd, pdL, smallP, smallAll, Bool.and_true, Bool.and_eq_true, decide_eq_true_eq]; omega
  · simp [D.pd, pdL, nodesP, nodesAll]
theorem s4 (Φ : Fns) (p : D) (F : List Int) (w m : Int) (h : FOk F) (hm : 0 ≤ m ∧ m ≤ 49) (x : Option D) :
    ∃ o, exS Φ [0] st4 [some p, some (.int m), none, none, none, none, none, none, none, some (Fl F), some (.int w), x, some (.lst true ((needI F w F.length).map D.int)), none, none, none, none, none] = .nx [some p, some (.int m), some (.lst true ((FS F w m).map D.str)), none, none, none, none, none, none, some (Fl F), some (.int w), x, some (.lst o ((needI F w F.length).map D.int)), none, none, none, none, none] := by
  by_cases hp : 0 < m
  · refine ⟨false, ?_⟩
    have e := ev_lc_if Φ [14, 16] (.tup [(.slot 14), (.slot 16)]) (.enum [.peekF 12]) (.op .eq [.peek 16, .peek 1]) (.cb .repr [.tup [.var 1, .cb .int [.op .add [.peek 14, .const (.int 1)]]]])
      [some p, some (.int m), none, none, none, none, none, none, none, some (Fl F), some (.int w), x, some (.lst true ((needI F w F.length).map D.int)), none, none, none, none, none]
      [some p, some (.int m), none, none, none, none, none, none, none, some (Fl F), some (.int w), x, some (.lst false ((needI F w F.length).map D.int)), none, none, none, none, none]
      (List.range F.length) (fun j => .tup [.int (j : Int), .int (need F w j)]) (fun j => need F w j == m) (fun j : Nat => .str (sh (.tup [.int m, .int ((j : Int) + 1)])))
      (fun j => [some p, some (.int m), none, none, none, none, none, none, none, some (Fl F), some (.int w), x, some (.lst false ((needI F w F.length).map D.int)), none, some (.int (j : Int)), none, some (.int (need F w j)), none])
      (by
        have hz : (needI F w F.length).zipIdx 0 = (List.range F.length).map fun j => (need F w j, j) := zipIdx_range _ _
        simp -dsimp only [E_const, E_glob, E_var, E_mov, E_op, E_isn, E_neg, E_notE, E_chain, E_andE, E_orE, E_ite, E_tup, E_lst, E_idx, E_slc, E_cb, E_call, E_callK, E_rng2, rngK_t, rngK_f, E_frz, Es_nil, Es_peek, Es_peekF, Es_star, Es_const, Es_glob, Es_var, Es_mov, Es_op, Es_isn, Es_neg, Es_notE, Es_chain, Es_andE, Es_orE, Es_ite, Es_tup, Es_lst, Es_idx, Es_slc, Es_cb, Es_call, Es_callK, Es_rng, Es_frz, Es_lc, Eb_nil, Eb_one, Ei_nil, Ei_cons, It_seq, It_range, It_enum, It_zip, S_ex, S_asg, S_par, S_seti, S_app, S_ext, S_aug, S_augi, S_ret, S_ifs, S_for_, S_while_, S_never, Ss_nil, Ss_cons, getE_zero, getE_succ, ↓bind_rb, ↓ofR_rb, ↓rbk, ↓ork, rbk, ork, Bool.false_eq_true, if_false, oo_some, ob_some, om_some, getAll, OV.get, OV.refs, nodupN, putBack, set_zero, set_succ, List.set_cons_zero, List.set_cons_succ, bindT, bindTs, op2, List.contains_nil, List.contains_cons, Nat.reduceBEq, Bool.or_false, Bool.or_self, Bool.not_false, Bool.not_true, Bool.and_true, Bool.true_and, Bool.and_self, List.length_cons, List.length_nil, if_true, List.cons_append, List.nil_append, reduceIte, Nat.reduceLT, Nat.reduceAdd, prD, isD_tt, isD_ti, isD_lt, isD_li, isD_nt, isD_ni, isD_nb, isD_ii, isD_ib, isD_it, isD_bi, isD_bb, isD_bt, sz_0, sz_1, sz_2, sz_3, sz_4, sz_5, sz_6, sz_7, sz_8, sz_9, sz_10, sz_11, sz_12, sz_13, sz_14, sz_15, sz_16, sz_17, sz_18, sz_19, sz_20, D.frz, frzL_int, itemsAll, itemsOf, D.own, ownL_int, seqOf, enumG, enumD_map, hz, List.map_map]
        rfl) (by have := h.2.1; simp; unfold SZ; omega) rfl
      (fun j hj => ⟨rfl, by simp -dsimp only [E_const, E_glob, E_var, E_mov, E_op, E_isn, E_neg, E_notE, E_chain, E_andE, E_orE, E_ite, E_tup, E_lst, E_idx, E_slc, E_cb, E_call, E_callK, E_rng2, rngK_t, rngK_f, E_frz, Es_nil, Es_peek, Es_peekF, Es_star, Es_const, Es_glob, Es_var, Es_mov, Es_op, Es_isn, Es_neg, Es_notE, Es_chain, Es_andE, Es_orE, Es_ite, Es_tup, Es_lst, Es_idx, Es_slc, Es_cb, Es_call, Es_callK, Es_rng, Es_frz, Es_lc, Eb_nil, Eb_one, Ei_nil, Ei_cons, It_seq, It_range, It_enum, It_zip, S_ex, S_asg, S_par, S_seti, S_app, S_ext, S_aug, S_augi, S_ret, S_ifs, S_for_, S_while_, S_never, Ss_nil, Ss_cons, getE_zero, getE_succ, ↓bind_rb, ↓ofR_rb, ↓rbk, ↓ork, rbk, ork, Bool.false_eq_true, if_false, oo_some, ob_some, om_some, getAll, OV.get, OV.refs, nodupN, putBack, set_zero, set_succ, List.set_cons_zero, List.set_cons_succ, bindT, bindTs, op2, List.contains_nil, List.contains_cons, Nat.reduceBEq, Bool.or_false, Bool.or_self, Bool.not_false, Bool.not_true, Bool.and_true, Bool.true_and, Bool.and_self, List.length_cons, List.length_nil, if_true, List.cons_append, List.nil_append, reduceIte, Nat.reduceLT, Nat.reduceAdd, prD, isD_tt, isD_ti, isD_lt, isD_li, isD_nt, isD_ni, isD_nb, isD_ii, isD_ib, isD_it, isD_bi, isD_bb, isD_bt, sz_0, sz_1, sz_2, sz_3, sz_4, sz_5, sz_6, sz_7, sz_8, sz_9, sz_10, sz_11, sz_12, sz_13, sz_14, sz_15, sz_16, sz_17, sz_18, sz_19, sz_20, eqD, D.isPd, D.pd, sh_int, PySem.PyData.eqv], fun _ => by
        have hj' : j < F.length := List.mem_range.1 hj
        have := h.2.1
        simp -dsimp only [E_const, E_glob, E_var, E_mov, E_op, E_isn, E_neg, E_notE, E_chain, E_andE, E_orE, E_ite, E_tup, E_lst, E_idx, E_slc, E_cb, E_call, E_callK, E_rng2, rngK_t, rngK_f, E_frz, Es_nil, Es_peek, Es_peekF, Es_star, Es_const, Es_glob, Es_var, Es_mov, Es_op, Es_isn, Es_neg, Es_notE, Es_chain, Es_andE, Es_orE, Es_ite, Es_tup, Es_lst, Es_idx, Es_slc, Es_cb, Es_call, Es_callK, Es_rng, Es_frz, Es_lc, Eb_nil, Eb_one, Ei_nil, Ei_cons, It_seq, It_range, It_enum, It_zip, S_ex, S_asg, S_par, S_seti, S_app, S_ext, S_aug, S_augi, S_ret, S_ifs, S_for_, S_while_, S_never, Ss_nil, Ss_cons, getE_zero, getE_succ, ↓bind_rb, ↓ofR_rb, ↓rbk, ↓ork, rbk, ork, Bool.false_eq_true, if_false, oo_some, ob_some, om_some, getAll, OV.get, OV.refs, nodupN, putBack, set_zero, set_succ, List.set_cons_zero, List.set_cons_succ, bindT, bindTs, op2, List.contains_nil, List.contains_cons, Nat.reduceBEq, Bool.or_false, Bool.or_self, Bool.not_false, Bool.not_true, Bool.and_true, Bool.true_and, Bool.and_self, List.length_cons, List.length_nil, if_true, List.cons_append, List.nil_append, reduceIte, Nat.reduceLT, Nat.reduceAdd, prD, isD_tt, isD_ti, isD_lt, isD_li, isD_nt, isD_ni, isD_nb, isD_ii, isD_ib, isD_it, isD_bi, isD_bb, isD_bt, sz_0, sz_1, sz_2, sz_3, sz_4, sz_5, sz_6, sz_7, sz_8, sz_9, sz_10, sz_11, sz_12, sz_13, sz_14, sz_15, sz_16, sz_17, sz_18, sz_19, sz_20, D.own, addD, intD_i, repr_mi m ((j : Int) + 1) (by omega) (by omega)]⟩) (fun d hd => rfl) (fun d hd => rfl) rfl
    have e2 : (FS F w m).map D.str = ((List.range F.length).filter fun j => need F w j == m).map fun j : Nat => D.str (sh (.tup [.int m, .int ((j : Int) + 1)])) := by
      unfold FS; rw [if_pos hp, List.map_map]; rfl
    rw [e2]
    simp -dsimp only [st4, ↓e, E_const, E_glob, E_var, E_mov, E_op, E_isn, E_neg, E_notE, E_chain, E_andE, E_orE, E_ite, E_tup, E_lst, E_idx, E_slc, E_cb, E_call, E_callK, E_rng2, rngK_t, rngK_f, E_frz, Es_nil, Es_peek, Es_peekF, Es_star, Es_const, Es_glob, Es_var, Es_mov, Es_op, Es_isn, Es_neg, Es_notE, Es_chain, Es_andE, Es_orE, Es_ite, Es_tup, Es_lst, Es_idx, Es_slc, Es_cb, Es_call, Es_callK, Es_rng, Es_frz, Es_lc, Eb_nil, Eb_one, Ei_nil, Ei_cons, It_seq, It_range, It_enum, It_zip, S_ex, S_asg, S_par, S_seti, S_app, S_ext, S_aug, S_augi, S_ret, S_ifs, S_for_, S_while_, S_never, Ss_nil, Ss_cons, getE_zero, getE_succ, ↓bind_rb, ↓ofR_rb, ↓rbk, ↓ork, rbk, ork, Bool.false_eq_true, if_false, oo_some, ob_some, om_some, getAll, OV.get, OV.refs, nodupN, putBack, set_zero, set_succ, List.set_cons_zero, List.set_cons_succ, bindT, bindTs, op2, List.contains_nil, List.contains_cons, Nat.reduceBEq, Bool.or_false, Bool.or_self, Bool.not_false, Bool.not_true, Bool.and_true, Bool.true_and, Bool.and_self, List.length_cons, List.length_nil, if_true, List.cons_append, List.nil_append, reduceIte, Nat.reduceLT, Nat.reduceAdd, prD, isD_tt, isD_ti, isD_lt, isD_li, isD_nt, isD_ni, isD_nb, isD_ii, isD_ib, isD_it, isD_bi, isD_bb, isD_bt, sz_0, sz_1, sz_2, sz_3, sz_4, sz_5, sz_6, sz_7, sz_8, sz_9, sz_10, sz_11, sz_12, sz_13, sz_14, sz_15, sz_16, sz_17, sz_18, sz_19, sz_20, cmpD, hp, decide_true]
  · refine ⟨true, ?_⟩
    have e2 : (FS F w m).map D.str = [D.str (sh (.tup [.int 0, .non]))] := by
      unfold FS; rw [if_neg hp]; rfl
    have hr : reprD (.tup [.int 0, .non]) = some (.str (sh (.tup [.int 0, .non]))) := repr_small _ rfl rfl (by decide)
    rw [e2]
    simp -dsimp only [st4, E_const, E_glob, E_var, E_mov, E_op, E_isn, E_neg, E_notE, E_chain, E_andE, E_orE, E_ite, E_tup, E_lst, E_idx, E_slc, E_cb, E_call, E_callK, E_rng2, rngK_t, rngK_f, E_frz, Es_nil, Es_peek, Es_peekF, Es_star, Es_const, Es_glob, Es_var, Es_mov, Es_op, Es_isn, Es_neg, Es_notE, Es_chain, Es_andE, Es_orE, Es_ite, Es_tup, Es_lst, Es_idx, Es_slc, Es_cb, Es_call, Es_callK, Es_rng, Es_frz, Es_lc, Eb_nil, Eb_one, Ei_nil, Ei_cons, It_seq, It_range, It_enum, It_zip, S_ex, S_asg, S_par, S_seti, S_app, S_ext, S_aug, S_augi, S_ret, S_ifs, S_for_, S_while_, S_never, Ss_nil, Ss_cons, getE_zero, getE_succ, ↓bind_rb, ↓ofR_rb, ↓rbk, ↓ork, rbk, ork, Bool.false_eq_true, if_false, oo_some, ob_some, om_some, getAll, OV.get, OV.refs, nodupN, putBack, set_zero, set_succ, List.set_cons_zero, List.set_cons_succ, bindT, bindTs, op2, List.contains_nil, List.contains_cons, Nat.reduceBEq, Bool.or_false, Bool.or_self, Bool.not_false, Bool.not_true, Bool.and_true, Bool.true_and, Bool.and_self, List.length_cons, List.length_nil, if_true, List.cons_append, List.nil_append, reduceIte, Nat.reduceLT, Nat.reduceAdd, prD, isD_tt, isD_ti, isD_lt, isD_li, isD_nt, isD_ni, isD_nb, isD_ii, isD_ib, isD_it, isD_bi, isD_bb, isD_bt, sz_0, sz_1, sz_2, sz_3, sz_4, sz_5, sz_6, sz_7, sz_8, sz_9, sz_10, sz_11, sz_12, sz_13, sz_14, sz_15, sz_16, sz_17, sz_18, sz_19, sz_20, cmpD, hp, decide_false, hr]
def st5 : IS := .asg (.slot 3) (.callK 9 [.var 10, .var 9] [1, 0])
theorem s5 (Φ : Fns) (p : D) (F : List Int) (w m : Int) (T : D) (c9 : Φ 9 [Fl F, .int w] = .ok T [Fl F, .int w]) (f2 x y : Option D) :
    exS Φ [0] st5 [some p, some (.int m), f2, none, none, none, none, none, none, some (Fl F), some (.int w), x, y, none, none, none, none, none] = .nx [some p, some (.int m), f2, some T, none, none, none, none, none, some (Fl F), some (.int w), x, y, none, none, none, none, none] := by
  have hf : D.own (Fl F) = false := by simp [Fl, D.own, ownL_int]
  have hpm : permD [1, 0] [.int w, Fl F] = some [Fl F, .int w] := rfl
  have hof : ownL [.int w, Fl F] = false := by simp [ownL, hf, D.own]
  simp -dsimp only [st5, E_const, E_glob, E_var, E_mov, E_op, E_isn, E_neg, E_notE, E_chain, E_andE, E_orE, E_ite, E_tup, E_lst, E_idx, E_slc, E_cb, E_call, E_callK, E_rng2, rngK_t, rngK_f, E_frz, Es_nil, Es_peek, Es_peekF, Es_star, Es_const, Es_glob, Es_var, Es_mov, Es_op, Es_isn, Es_neg, Es_notE, Es_chain, Es_andE, Es_orE, Es_ite, Es_tup, Es_lst, Es_idx, Es_slc, Es_cb, Es_call, Es_callK, Es_rng, Es_frz, Es_lc, Eb_nil, Eb_one, Ei_nil, Ei_cons, It_seq, It_range, It_enum, It_zip, S_ex, S_asg, S_par, S_seti, S_app, S_ext, S_aug, S_augi, S_ret, S_ifs, S_for_, S_while_, S_never, Ss_nil, Ss_cons, getE_zero, getE_succ, ↓bind_rb, ↓ofR_rb, ↓rbk, ↓ork, rbk, ork, Bool.false_eq_true, if_false, oo_some, ob_some, om_some, getAll, OV.get, OV.refs, nodupN, putBack, set_zero, set_succ, List.set_cons_zero, List.set_cons_succ, bindT, bindTs, op2, List.contains_nil, List.contains_cons, Nat.reduceBEq, Bool.or_false, Bool.or_self, Bool.not_false, Bool.not_true, Bool.and_true, Bool.true_and, Bool.and_self, List.length_cons, List.length_nil, if_true, List.cons_append, List.nil_append, reduceIte, Nat.reduceLT, Nat.reduceAdd, prD, isD_tt, isD_ti, isD_lt, isD_li, isD_nt, isD_ni, isD_nb, isD_ii, isD_ib, isD_it, isD_bi, isD_bb, isD_bt, sz_0, sz_1, sz_2, sz_3, sz_4, sz_5, sz_6, sz_7, sz_8, sz_9, sz_10, sz_11, sz_12, sz_13, sz_14, sz_15, sz_16, sz_17, sz_18, sz_19, sz_20, hf, D.own, hof, hpm, c9]
end LW
end

section
set_option linter.all false
set_option maxRecDepth 100000
set_option maxHeartbeats 1000000
namespace LW
open Mi
theorem FS_ok (F : List Int) (w m : Int) (h : FOk F) (hm : 0 ≤ m ∧ m ≤ 49) : ∀ t ∈ FS F w m, PySem.PyData.strOk t = true := by
  intro t ht
  have := h.2.1
  unfold FS at ht
  split at ht
  · obtain ⟨j, hj, rfl⟩ := List.mem_map.1 ht
    have hj' : j < F.length := by simp at hj; exact hj.1
    apply strOk_small
    simp only [D.pd, pdL, smallP, smallAll, Bool.and_true, Bool.and_eq_true, decide_eq_true_eq]; omega
  · simp at ht
    rw [ht]
    exact strOk_small _ rfl
theorem told_facts (F : List Int) (w m : Int) (T : D) (h : FOk F) (hm : 0 ≤ m ∧ m ≤ 49) (hT : Told F w m T) : ∃ b, T = .tup [.int m, b] ∧ Pl b ∧ smallP b.pd = true ∧ showsV F w m T = true := by
  have := h.2.1
  cases hT with
  | zero hz => subst hz; exact ⟨.non, rfl, pl_n, rfl, rfl⟩
  | pos j h1 h2 h3 =>
    refine ⟨.int ((j : Int) + 1), rfl, pl_i _, ?_, ?_⟩
    · simp only [D.pd, smallP, decide_eq_true_eq]; omega
    · simp only [showsV, if_neg (show ¬ m = 0 by omega), Bool.and_eq_true, beq_iff_eq, isB, decide_eq_true_eq, hasD, hasN, List.any_eq_true, List.mem_range, true_and]
      exact ⟨⟨by omega, by omega⟩, ⟨by omega, by omega⟩, j, h2, h3, rfl⟩
structure GoodV (F : List Int) (w m : Int) (v : D) : Prop where
  ok : VOk v
  t : Txt v
  f : showsV F w m v = (FS F w m).any (· == sh v)
  own : v.own = false
  frz : v.frz = v
theorem own_Pl' {d : D} (h : Pl d) : d.own = false ∧ d.frz = d ∧ d.isPd = true ∧ nodesP d.pd = 1 := by
  rcases h with ⟨i, rfl⟩ | ⟨x, rfl⟩ | rfl <;> exact ⟨rfl, rfl, rfl, rfl⟩
theorem good_two (F : List Int) (w m : Int) (a b : D) (hm : 0 ≤ m ∧ m ≤ 49) (ha : Pl a) (hb : Pl b) (sa : smallP a.pd = true) (sb : smallP b.pd = true) : GoodV F w m (.tup [a, b]) := by
  obtain ⟨a1, a2, a3, a4⟩ := own_Pl' ha
  obtain ⟨b1, b2, b3, b4⟩ := own_Pl' hb
  refine ⟨.two a b ha hb, Txt.mk' ?_ ?_ ?_, fine_two F w m a b ha hb hm.1 (by omega), ?_, ?_⟩
  · simp [D.isPd, isPdL, a3, b3]
  · simp [D.pd, pdL, smallP, smallAll, sa, sb]
  · simp [D.pd, pdL, nodesP, nodesAll, a4, b4]
  · simp [D.own, ownL, a1, b1]
  · simp [D.frz, frzL, a2, b2]
theorem good_lst (F : List Int) (w m : Int) (a b : D) (ha : Pl a) (hb : Pl b) (sa : smallP a.pd = true) (sb : smallP b.pd = true) : GoodV F w m (.lst false [a, b]) := by
  obtain ⟨a1, a2, a3, a4⟩ := own_Pl' ha
  obtain ⟨b1, b2, b3, b4⟩ := own_Pl' hb
  refine ⟨.lst _ _, Txt.mk' ?_ ?_ ?_, fine_other F w m _ rfl (.inl ⟨_, _, _, rfl⟩), ?_, ?_⟩
  · simp [D.isPd, isPdL, a3, b3]
  · simp [D.pd, pdL, smallP, smallAll, sa, sb]
  · simp [D.pd, pdL, nodesP, nodesAll, a4, b4]
  · simp [D.own, ownL, a1, b1]
  · simp [D.frz, frzL, a2, b2]
theorem good_non (F : List Int) (w m : Int) : GoodV F w m .non := ⟨.non, txt_non, fine_other F w m _ rfl (.inr (.inl rfl)), rfl, rfl⟩
theorem good_nil (F : List Int) (w m : Int) : GoodV F w m (.tup []) := ⟨.len _ (by simp), Txt.mk' rfl rfl (by simp [D.pd, pdL, nodesP, nodesAll]), fine_other F w m _ rfl (.inr (.inr (.inl rfl))), rfl, rfl⟩
theorem good_one (F : List Int) (w m : Int) (a : D) (ha : Pl a) (sa : smallP a.pd = true) : GoodV F w m (.tup [a]) := by
  obtain ⟨a1, a2, a3, a4⟩ := own_Pl' ha
  refine ⟨.len _ (by simp), Txt.mk' ?_ ?_ ?_, fine_other F w m _ (by cases a <;> rfl) (.inr (.inr (.inr (.inl ⟨a, ha, rfl⟩)))), ?_, ?_⟩
  · simp [D.isPd, isPdL, a3]
  · simp [D.pd, pdL, smallP, smallAll, sa]
  · simp [D.pd, pdL, nodesP, nodesAll, a4]
  · simp [D.own, ownL, a1]
  · simp [D.frz, frzL, a2]
theorem good_three (F : List Int) (w m : Int) (a b c : D) (ha : Pl a) (hb : Pl b) (hc : Pl c) (sa : smallP a.pd = true) (sb : smallP b.pd = true) (sc : smallP c.pd = true) : GoodV F w m (.tup [a, b, c]) := by
  obtain ⟨a1, a2, a3, a4⟩ := own_Pl' ha
  obtain ⟨b1, b2, b3, b4⟩ := own_Pl' hb
  obtain ⟨c1, c2, c3, c4⟩ := own_Pl' hc
  refine ⟨.len _ (by simp), Txt.mk' ?_ ?_ ?_, fine_other F w m _ (by cases a <;> rfl) (.inr (.inr (.inr (.inr ⟨a, b, c, ha, hb, hc, rfl⟩)))), ?_, ?_⟩
  · simp [D.isPd, isPdL, a3, b3, c3]
  · simp [D.pd, pdL, smallP, smallAll, sa, sb, sc]
  · simp [D.pd, pdL, nodesP, nodesAll, a4, b4, c4]
  · simp [D.own, ownL, a1, b1, c1]
  · simp [D.frz, frzL, a2, b2, c2]
def st6 : IS := .ifs (.orE (.op .nmem [.cb .repr [.peek 3], .peek 2]) (.op .ne [.cb .max [.peek 12], .peek 1])) [.ret (.const (.bl false))] []
theorem s6 (Φ : Fns) (p : D) (F : List Int) (w m : Int) (T : D) (o : Bool) (h : FOk F) (hm : 0 ≤ m ∧ m ≤ 49) (hL : IsL F w m) (gT : GoodV F w m T) (hs : showsV F w m T = true) (x : Option D) :
    exS Φ [0] st6 [some p, some (.int m), some (.lst true ((FS F w m).map D.str)), some T, none, none, none, none, none, some (Fl F), some (.int w), x, some (.lst o ((needI F w F.length).map D.int)), none, none, none, none, none] =
      .nx [some p, some (.int m), some (.lst true ((FS F w m).map D.str)), some T, none, none, none, none, none, some (Fl F), some (.int w), x, some (.lst o ((needI F w F.length).map D.int)), none, none, none, none, none] := by
  have e1 := inD_strs true (sh T) true (FS F w m) gT.t.k (FS_ok F w m h hm)
  rw [← gT.f, hs] at e1
  have e2 := max1_is o (needI F w F.length) m (by obtain ⟨j, h, q⟩ := hL.1; simp only [needI, List.mem_map, List.mem_range]; exact ⟨j, h, q⟩)
    (by intro x hx; simp only [needI, List.mem_map, List.mem_range] at hx; obtain ⟨j, h, rfl⟩ := hx; exact hL.2 j h)
  have b1 : (true != true) = false := rfl
  rw [b1] at e1
  simp -dsimp only [st6, E_const, E_glob, E_var, E_mov, E_op, E_isn, E_neg, E_notE, E_chain, E_andE, E_orE, E_ite, E_tup, E_lst, E_idx, E_slc, E_cb, E_call, E_callK, E_rng2, rngK_t, rngK_f, E_frz, Es_nil, Es_peek, Es_peekF, Es_star, Es_const, Es_glob, Es_var, Es_mov, Es_op, Es_isn, Es_neg, Es_notE, Es_chain, Es_andE, Es_orE, Es_ite, Es_tup, Es_lst, Es_idx, Es_slc, Es_cb, Es_call, Es_callK, Es_rng, Es_frz, Es_lc, Eb_nil, Eb_one, Ei_nil, Ei_cons, It_seq, It_range, It_enum, It_zip, S_ex, S_asg, S_par, S_seti, S_app, S_ext, S_aug, S_augi, S_ret, S_ifs, S_for_, S_while_, S_never, Ss_nil, Ss_cons, getE_zero, getE_succ, ↓bind_rb, ↓ofR_rb, ↓rbk, ↓ork, rbk, ork, Bool.false_eq_true, if_false, oo_some, ob_some, om_some, getAll, OV.get, OV.refs, nodupN, putBack, set_zero, set_succ, List.set_cons_zero, List.set_cons_succ, bindT, bindTs, op2, List.contains_nil, List.contains_cons, Nat.reduceBEq, Bool.or_false, Bool.or_self, Bool.not_false, Bool.not_true, Bool.and_true, Bool.true_and, Bool.and_self, List.length_cons, List.length_nil, if_true, List.cons_append, List.nil_append, reduceIte, Nat.reduceLT, Nat.reduceAdd, prD, isD_tt, isD_ti, isD_lt, isD_li, isD_nt, isD_ni, isD_nb, isD_ii, isD_ib, isD_it, isD_bi, isD_bb, isD_bt, sz_0, sz_1, sz_2, sz_3, sz_4, sz_5, sz_6, sz_7, sz_8, sz_9, sz_10, sz_11, sz_12, sz_13, sz_14, sz_15, sz_16, sz_17, sz_18, sz_19, sz_20, gT.t.r, e1, e2, eqD, D.isPd, D.pd, sh_int, PySem.PyData.eqv, beq_self_eq_true]
def st7 : IS := .asg (.slot 4) (.lst [.var 3, .frz (.cb .list [.peek 3]), .frz (.slc [.peek 3] [] [.const (.int 1)]), .op .add [.peek 3, .tup [.const (.int 0)]], .const .non, .tup [], .tup [.var 1, .const .non], .tup [.op .add [.peek 1, .const (.int 1)], .const (.int 1)], .tup [.var 1, .const (.bl true)], .tup [.var 1, .const (.int 0)], .tup [.var 1, .op .add [.cb .len [.peek 9], .const (.int 1)]], .tup [.neg [.const (.int 1)], .const (.int 1)], .tup [.const (.int 0), .const .non], .tup [.const .non, .const (.int 1)]])
def vals (m n : Int) (b : D) : List D := [.tup [.int m, b], .lst false [.int m, b], .tup [.int m], .tup [.int m, b, .int 0], .non, .tup [], .tup [.int m, .non], .tup [.int (m + 1), .int 1], .tup [.int m, .bl true], .tup [.int m, .int 0], .tup [.int m, .int (n + 1)], .tup [.int (-1), .int 1], .tup [.int 0, .non], .tup [.non, .int 1]]
theorem s7 (Φ : Fns) (p : D) (F : List Int) (w m : Int) (b : D) (hb : Pl b) (f2 x y : Option D) :
    exS Φ [0] st7 [some p, some (.int m), f2, some (.tup [.int m, b]), none, none, none, none, none, some (Fl F), some (.int w), x, y, none, none, none, none, none] =
      .nx [some p, some (.int m), f2, some (.tup [.int m, b]), some (.lst true (vals m (F.length : Int) b)), none, none, none, none, some (Fl F), some (.int w), x, y, none, none, none, none, none] := by
  obtain ⟨b1, b2, b3, b4⟩ := own_Pl' hb
  have hl : lenD (Fl F) = some (.int (F.length : Int)) := by simp [Fl, lenD]
  simp -dsimp only [st7, E_const, E_glob, E_var, E_mov, E_op, E_isn, E_neg, E_notE, E_chain, E_andE, E_orE, E_ite, E_tup, E_lst, E_idx, E_slc, E_cb, E_call, E_callK, E_rng2, rngK_t, rngK_f, E_frz, Es_nil, Es_peek, Es_peekF, Es_star, Es_const, Es_glob, Es_var, Es_mov, Es_op, Es_isn, Es_neg, Es_notE, Es_chain, Es_andE, Es_orE, Es_ite, Es_tup, Es_lst, Es_idx, Es_slc, Es_cb, Es_call, Es_callK, Es_rng, Es_frz, Es_lc, Eb_nil, Eb_one, Ei_nil, Ei_cons, It_seq, It_range, It_enum, It_zip, S_ex, S_asg, S_par, S_seti, S_app, S_ext, S_aug, S_augi, S_ret, S_ifs, S_for_, S_while_, S_never, Ss_nil, Ss_cons, getE_zero, getE_succ, ↓bind_rb, ↓ofR_rb, ↓rbk, ↓ork, rbk, ork, Bool.false_eq_true, if_false, oo_some, ob_some, om_some, getAll, OV.get, OV.refs, nodupN, putBack, set_zero, set_succ, List.set_cons_zero, List.set_cons_succ, bindT, bindTs, op2, List.contains_nil, List.contains_cons, Nat.reduceBEq, Bool.or_false, Bool.or_self, Bool.not_false, Bool.not_true, Bool.and_true, Bool.true_and, Bool.and_self, List.length_cons, List.length_nil, if_true, List.cons_append, List.nil_append, reduceIte, Nat.reduceLT, Nat.reduceAdd, prD, isD_tt, isD_ti, isD_lt, isD_li, isD_nt, isD_ni, isD_nb, isD_ii, isD_ib, isD_it, isD_bi, isD_bb, isD_bt, sz_0, sz_1, sz_2, sz_3, sz_4, sz_5, sz_6, sz_7, sz_8, sz_9, sz_10, sz_11, sz_12, sz_13, sz_14, sz_15, sz_16, sz_17, sz_18, sz_19, sz_20, D.own, ownL, b1, listD, seqOf, D.frz, frzL, b2, slcD, cut_h1, List.take_succ_cons, List.take_zero, addD, hl, vals]
def vbody : List IS := [.ifs (.op .ne [.cb .repr [.callK 10 [.var 5, .var 10, .var 9] [2, 1, 0]], .cb .repr [.op .mem [.cb .repr [.peek 5], .peek 2]]]) [.ret (.const (.bl false))] []]
theorem s8_body (Φ : Fns) (h10 : H10 Φ) (p : D) (F : List Int) (w m : Int) (v : D) (h : FOk F) (w1 : 1 ≤ w) (w2 : w ≤ 20) (hm : 0 ≤ m ∧ m ≤ 49) (hL : IsL F w m) (g : GoodV F w m v) (f3 f4 x y : Option D) :
    exSs Φ [0] vbody [some p, some (.int m), some (.lst true ((FS F w m).map D.str)), f3, f4, some v, none, none, none, some (Fl F), some (.int w), x, y, none, none, none, none, none] =
      .nx [some p, some (.int m), some (.lst true ((FS F w m).map D.str)), f3, f4, some v, none, none, none, some (Fl F), some (.int w), x, y, none, none, none, none, none] := by
  have hf : D.own (Fl F) = false := by simp [Fl, D.own, ownL_int]
  have hpm : permD [2, 1, 0] [v, .int w, Fl F] = some [Fl F, .int w, v] := rfl
  have hof : ownL [v, .int w, Fl F] = false := by simp [ownL, hf, D.own, g.own]
  have c10 := h10 F w m v h w1 w2 hL g.ok
  rw [g.f] at c10
  have e1 := inD_strs false (sh v) true (FS F w m) g.t.k (FS_ok F w m h hm)
  rw [Bool.bne_false] at e1
  generalize (FS F w m).any (· == sh v) = bb at e1 c10
  have e2 := op_ne_str (sh (.bl bb)) (txt_bl bb).k
  simp only [op2] at e2
  simp -dsimp only [vbody, E_const, E_glob, E_var, E_mov, E_op, E_isn, E_neg, E_notE, E_chain, E_andE, E_orE, E_ite, E_tup, E_lst, E_idx, E_slc, E_cb, E_call, E_callK, E_rng2, rngK_t, rngK_f, E_frz, Es_nil, Es_peek, Es_peekF, Es_star, Es_const, Es_glob, Es_var, Es_mov, Es_op, Es_isn, Es_neg, Es_notE, Es_chain, Es_andE, Es_orE, Es_ite, Es_tup, Es_lst, Es_idx, Es_slc, Es_cb, Es_call, Es_callK, Es_rng, Es_frz, Es_lc, Eb_nil, Eb_one, Ei_nil, Ei_cons, It_seq, It_range, It_enum, It_zip, S_ex, S_asg, S_par, S_seti, S_app, S_ext, S_aug, S_augi, S_ret, S_ifs, S_for_, S_while_, S_never, Ss_nil, Ss_cons, getE_zero, getE_succ, ↓bind_rb, ↓ofR_rb, ↓rbk, ↓ork, rbk, ork, Bool.false_eq_true, if_false, oo_some, ob_some, om_some, getAll, OV.get, OV.refs, nodupN, putBack, set_zero, set_succ, List.set_cons_zero, List.set_cons_succ, bindT, bindTs, op2, List.contains_nil, List.contains_cons, Nat.reduceBEq, Bool.or_false, Bool.or_self, Bool.not_false, Bool.not_true, Bool.and_true, Bool.true_and, Bool.and_self, List.length_cons, List.length_nil, if_true, List.cons_append, List.nil_append, reduceIte, Nat.reduceLT, Nat.reduceAdd, prD, isD_tt, isD_ti, isD_lt, isD_li, isD_nt, isD_ni, isD_nb, isD_ii, isD_ib, isD_it, isD_bi, isD_bb, isD_bt, sz_0, sz_1, sz_2, sz_3, sz_4, sz_5, sz_6, sz_7, sz_8, sz_9, sz_10, sz_11, sz_12, sz_13, sz_14, sz_15, sz_16, sz_17, sz_18, sz_19, sz_20, hf, D.own, g.own, hof, hpm, c10, (txt_bl bb).r, g.t.r, e1, e2]
def st8 : IS := .for_ (.slot 5) (.seq [.op .add [.peek 4, .lc [14] (.slot 14) (.range [.cb .len [.peek 9]]) [] (.tup [.var 1, .cb .int [.op .add [.peek 14, .const (.int 1)]]])]]) vbody
theorem s8 (Φ : Fns) (h10 : H10 Φ) (p : D) (F : List Int) (w m : Int) (b : D) (hb : Pl b) (sb : smallP b.pd = true) (h : FOk F) (w1 : 1 ≤ w) (w2 : w ≤ 20) (hm : 0 ≤ m ∧ m ≤ 49) (hL : IsL F w m) (f3 x y : Option D) :
    ∃ o, exS Φ [0] st8 [some p, some (.int m), some (.lst true ((FS F w m).map D.str)), f3, some (.lst true (vals m (F.length : Int) b)), none, none, none, none, some (Fl F), some (.int w), x, y, none, none, none, none, none] =
      .nx [some p, some (.int m), some (.lst true ((FS F w m).map D.str)), f3, some (.lst true (vals m (F.length : Int) b)), o, none, none, none, some (Fl F), some (.int w), x, y, none, none, none, none, none] := by
  have hn := h.2.1
  obtain ⟨b1, b2, b3, b4⟩ := own_Pl' hb
  have hl : lenD (Fl F) = some (.int (F.length : Int)) := by simp [Fl, lenD]
  have e := ev_lc_map Φ [14] (.slot 14) (.range [.cb .len [.peek 9]]) (.tup [.var 1, .cb .int [.op .add [.peek 14, .const (.int 1)]]])
    [some p, some (.int m), some (.lst true ((FS F w m).map D.str)), f3, some (.lst true (vals m (F.length : Int) b)), none, none, none, none, some (Fl F), some (.int w), x, y, none, none, none, none, none]
    [some p, some (.int m), some (.lst true ((FS F w m).map D.str)), f3, some (.lst true (vals m (F.length : Int) b)), none, none, none, none, some (Fl F), some (.int w), x, y, none, none, none, none, none]
    (List.range F.length) (fun j : Nat => .int (j : Int)) (fun j : Nat => .tup [.int m, .int ((j : Int) + 1)])
    (fun j => [some p, some (.int m), some (.lst true ((FS F w m).map D.str)), f3, some (.lst true (vals m (F.length : Int) b)), none, none, none, none, some (Fl F), some (.int w), x, y, none, some (.int (j : Int)), none, none, none])
    (by
      have hr := rangeOf_nat F.length h.sz
      simp -dsimp only [E_const, E_glob, E_var, E_mov, E_op, E_isn, E_neg, E_notE, E_chain, E_andE, E_orE, E_ite, E_tup, E_lst, E_idx, E_slc, E_cb, E_call, E_callK, E_rng2, rngK_t, rngK_f, E_frz, Es_nil, Es_peek, Es_peekF, Es_star, Es_const, Es_glob, Es_var, Es_mov, Es_op, Es_isn, Es_neg, Es_notE, Es_chain, Es_andE, Es_orE, Es_ite, Es_tup, Es_lst, Es_idx, Es_slc, Es_cb, Es_call, Es_callK, Es_rng, Es_frz, Es_lc, Eb_nil, Eb_one, Ei_nil, Ei_cons, It_seq, It_range, It_enum, It_zip, S_ex, S_asg, S_par, S_seti, S_app, S_ext, S_aug, S_augi, S_ret, S_ifs, S_for_, S_while_, S_never, Ss_nil, Ss_cons, getE_zero, getE_succ, ↓bind_rb, ↓ofR_rb, ↓rbk, ↓ork, rbk, ork, Bool.false_eq_true, if_false, oo_some, ob_some, om_some, getAll, OV.get, OV.refs, nodupN, putBack, set_zero, set_succ, List.set_cons_zero, List.set_cons_succ, bindT, bindTs, op2, List.contains_nil, List.contains_cons, Nat.reduceBEq, Bool.or_false, Bool.or_self, Bool.not_false, Bool.not_true, Bool.and_true, Bool.true_and, Bool.and_self, List.length_cons, List.length_nil, if_true, List.cons_append, List.nil_append, reduceIte, Nat.reduceLT, Nat.reduceAdd, prD, isD_tt, isD_ti, isD_lt, isD_li, isD_nt, isD_ni, isD_nb, isD_ii, isD_ib, isD_it, isD_bi, isD_bb, isD_bt, sz_0, sz_1, sz_2, sz_3, sz_4, sz_5, sz_6, sz_7, sz_8, sz_9, sz_10, sz_11, sz_12, sz_13, sz_14, sz_15, sz_16, sz_17, sz_18, sz_19, sz_20, hl, hr]) (by simp; unfold SZ; omega) rfl
    (fun j hj => ⟨rfl, by simp -dsimp only [E_const, E_glob, E_var, E_mov, E_op, E_isn, E_neg, E_notE, E_chain, E_andE, E_orE, E_ite, E_tup, E_lst, E_idx, E_slc, E_cb, E_call, E_callK, E_rng2, rngK_t, rngK_f, E_frz, Es_nil, Es_peek, Es_peekF, Es_star, Es_const, Es_glob, Es_var, Es_mov, Es_op, Es_isn, Es_neg, Es_notE, Es_chain, Es_andE, Es_orE, Es_ite, Es_tup, Es_lst, Es_idx, Es_slc, Es_cb, Es_call, Es_callK, Es_rng, Es_frz, Es_lc, Eb_nil, Eb_one, Ei_nil, Ei_cons, It_seq, It_range, It_enum, It_zip, S_ex, S_asg, S_par, S_seti, S_app, S_ext, S_aug, S_augi, S_ret, S_ifs, S_for_, S_while_, S_never, Ss_nil, Ss_cons, getE_zero, getE_succ, ↓bind_rb, ↓ofR_rb, ↓rbk, ↓ork, rbk, ork, Bool.false_eq_true, if_false, oo_some, ob_some, om_some, getAll, OV.get, OV.refs, nodupN, putBack, set_zero, set_succ, List.set_cons_zero, List.set_cons_succ, bindT, bindTs, op2, List.contains_nil, List.contains_cons, Nat.reduceBEq, Bool.or_false, Bool.or_self, Bool.not_false, Bool.not_true, Bool.and_true, Bool.true_and, Bool.and_self, List.length_cons, List.length_nil, if_true, List.cons_append, List.nil_append, reduceIte, Nat.reduceLT, Nat.reduceAdd, prD, isD_tt, isD_ti, isD_lt, isD_li, isD_nt, isD_ni, isD_nb, isD_ii, isD_ib, isD_it, isD_bi, isD_bb, isD_bt, sz_0, sz_1, sz_2, sz_3, sz_4, sz_5, sz_6, sz_7, sz_8, sz_9, sz_10, sz_11, sz_12, sz_13, sz_14, sz_15, sz_16, sz_17, sz_18, sz_19, sz_20, D.own, addD, intD_i]⟩) (fun d hd => rfl) (fun d hd => rfl) rfl
  generalize hR : (List.range F.length).map (fun j : Nat => D.tup [.int m, .int ((j : Int) + 1)]) = R at e
  have hRl : R.length ≤ 5 := by rw [← hR]; simp; omega
  have sm : ∀ i : Int, i.natAbs < 100000 → smallP (D.int i).pd = true := fun i hi => by simp [D.pd, smallP]; omega
  have gR : ∀ v ∈ R, GoodV F w m v := by
    intro v hv
    rw [← hR] at hv
    obtain ⟨j, hj, rfl⟩ := List.mem_map.1 hv
    have := List.mem_range.1 hj
    exact good_two F w m _ _ hm (pl_i _) (pl_i _) (sm _ (by omega)) (sm _ (by omega))
  have gV : ∀ v ∈ vals m (F.length : Int) b, GoodV F w m v := by
    intro v hv
    have smm := sm m (by omega)
    simp only [vals, List.mem_cons, List.not_mem_nil, or_false] at hv
    rcases hv with rfl | rfl | rfl | rfl | rfl | rfl | rfl | rfl | rfl | rfl | rfl | rfl | rfl | rfl
    · exact good_two F w m _ _ hm (pl_i _) hb smm sb
    · exact good_lst F w m _ _ (pl_i _) hb smm sb
    · exact good_one F w m _ (pl_i _) smm
    · exact good_three F w m _ _ _ (pl_i _) hb (pl_i _) smm sb rfl
    · exact good_non F w m
    · exact good_nil F w m
    · exact good_two F w m _ _ hm (pl_i _) pl_n smm rfl
    · exact good_two F w m _ _ hm (pl_i _) (pl_i _) (sm _ (by omega)) rfl
    · exact good_two F w m _ _ hm (pl_i _) (pl_b _) smm rfl
    · exact good_two F w m _ _ hm (pl_i _) (pl_i _) smm rfl
    · exact good_two F w m _ _ hm (pl_i _) (pl_i _) smm (sm _ (by omega))
    · exact good_two F w m _ _ hm (pl_i _) (pl_i _) rfl rfl
    · exact good_two F w m _ _ hm (pl_i _) pl_n rfl rfl
    · exact good_two F w m _ _ hm pl_n (pl_i _) rfl rfl
  have gA : ∀ v ∈ vals m (F.length : Int) b ++ R, GoodV F w m v := by
    intro v hv
    rcases List.mem_append.1 hv with h | h
    · exact gV v h
    · exact gR v h
  have ownA : ∀ l : List D, (∀ v ∈ l, GoodV F w m v) → ownL l = false := by
    intro l hl
    have := ownL_map l id (fun v hv => (hl v hv).own)
    simpa using this
  have frzA : ∀ l : List D, (∀ v ∈ l, GoodV F w m v) → frzL l = l := by
    intro l hl
    have := frzL_map l id (fun v hv => (hl v hv).frz)
    simpa using this
  have o1 := ownA _ gV
  have o2 := ownA _ gR
  have o3 := frzA _ gA
  have hlen : (vals m (F.length : Int) b).length + R.length ≤ SZ := by simp [vals]; unfold SZ; omega
  obtain ⟨o, el⟩ := forL_slot [0] (.slot 5) (exSs Φ [0] vbody) (fun o => [some p, some (.int m), some (.lst true ((FS F w m).map D.str)), f3, some (.lst true (vals m (F.length : Int) b)), o, none, none, none, some (Fl F), some (.int w), x, y, none, none, none, none, none])
    (vals m (F.length : Int) b ++ R) none (fun v hv o => ⟨rfl, s8_body Φ h10 p F w m v h w1 w2 hm hL (gA v hv) _ _ _ _⟩)
  refine ⟨o, ?_⟩
  simp -dsimp only [st8, ↓e, E_const, E_glob, E_var, E_mov, E_op, E_isn, E_neg, E_notE, E_chain, E_andE, E_orE, E_ite, E_tup, E_lst, E_idx, E_slc, E_cb, E_call, E_callK, E_rng2, rngK_t, rngK_f, E_frz, Es_nil, Es_peek, Es_peekF, Es_star, Es_const, Es_glob, Es_var, Es_mov, Es_op, Es_isn, Es_neg, Es_notE, Es_chain, Es_andE, Es_orE, Es_ite, Es_tup, Es_lst, Es_idx, Es_slc, Es_cb, Es_call, Es_callK, Es_rng, Es_frz, Es_lc, Eb_nil, Eb_one, Ei_nil, Ei_cons, It_seq, It_range, It_enum, It_zip, S_ex, S_asg, S_par, S_seti, S_app, S_ext, S_aug, S_augi, S_ret, S_ifs, S_for_, S_while_, S_never, Ss_nil, Ss_cons, getE_zero, getE_succ, ↓bind_rb, ↓ofR_rb, ↓rbk, ↓ork, rbk, ork, Bool.false_eq_true, if_false, oo_some, ob_some, om_some, getAll, OV.get, OV.refs, nodupN, putBack, set_zero, set_succ, List.set_cons_zero, List.set_cons_succ, bindT, bindTs, op2, List.contains_nil, List.contains_cons, Nat.reduceBEq, Bool.or_false, Bool.or_self, Bool.not_false, Bool.not_true, Bool.and_true, Bool.true_and, Bool.and_self, List.length_cons, List.length_nil, if_true, List.cons_append, List.nil_append, reduceIte, Nat.reduceLT, Nat.reduceAdd, prD, isD_tt, isD_ti, isD_lt, isD_li, isD_nt, isD_ni, isD_nb, isD_ii, isD_ib, isD_it, isD_bi, isD_bb, isD_bt, sz_0, sz_1, sz_2, sz_3, sz_4, sz_5, sz_6, sz_7, sz_8, sz_9, sz_10, sz_11, sz_12, sz_13, sz_14, sz_15, sz_16, sz_17, sz_18, sz_19, sz_20, addD, o1, o2, hlen, itemsAll, itemsOf, seqOf, o3, seqG, el]
end LW
end

section
set_option linter.all false
set_option maxRecDepth 100000
set_option maxHeartbeats 1000000
namespace LW
open Mi
theorem out_le (w : Int) (hw : 0 ≤ w) (F : List Int) (h : FOk F) (t : Nat) : 0 ≤ F.sum - S (it w t F) 0 ∧ F.sum - S (it w t F) 0 ≤ 45 := by
  have h1 := it_nn w hw F h.nn t 0
  have h2 := sum_le9 F h.2.2
  have h3 := h.2.1
  obtain ⟨i, hi, e⟩ := it_ex w hw F t 0
  have h4 := S_mono F h.nn 0 (0 + i) (by omega)
  have h5 : 0 ≤ w * ((t : Int) - (i : Int)) := Int.mul_nonneg hw (by omega)
  rw [S0_sum F] at h4
  omega
def obody : List IS := [.ifs (.op .ne [.cb .repr [.callK 12 [.var 6, .var 10, .var 9] [2, 1, 0]], .cb .repr [.idx [.peek 11, .cb .min [.peek 6, .peek 1]]]]) [.ret (.const (.bl false))] []]
theorem s9_body (Φ : Fns) (h12 : H12 Φ) (p : D) (F : List Int) (w m : Int) (t : Nat) (ht : t ≤ 400) (h : FOk F) (w1 : 1 ≤ w) (w2 : w ≤ 20) (hm : 0 ≤ m ∧ m ≤ 49) (hL : IsL F w m) (f2 f3 f4 f5 y : Option D) :
    exSs Φ [0] obody [some p, some (.int m), f2, f3, f4, f5, some (.int (t : Int)), none, none, some (Fl F), some (.int w), some (.lst true ((outs w F (m.toNat + 1)).map D.int)), y, none, none, none, none, none] =
      .nx [some p, some (.int m), f2, f3, f4, f5, some (.int (t : Int)), none, none, some (Fl F), some (.int w), some (.lst true ((outs w F (m.toNat + 1)).map D.int)), y, none, none, none, none, none] := by
  have hf : D.own (Fl F) = false := by simp [Fl, D.own, ownL_int]
  have hpm : permD [2, 1, 0] [.int (t : Int), .int w, Fl F] = some [Fl F, .int w, .int (t : Int)] := rfl
  have hof : ownL [.int (t : Int), .int w, Fl F] = false := by simp [ownL, hf, D.own]
  have c12 := h12 F w t h w1 w2 ht
  have hu : ∃ u : Nat, min2D (.int (t : Int)) (.int m) = some (.int (u : Int)) ∧ u < m.toNat + 1 ∧ F.sum - S (it w t F) 0 = F.sum - S (it w u F) 0 := by
    by_cases hc : m < (t : Int)
    · refine ⟨m.toNat, ?_, by omega, ?_⟩
      · have : ((m.toNat : Nat) : Int) = m := by omega
        simp [min2D, hc, this]
      · have a1 : ¬ 0 < S (it w t F) 0 := fun q => by have := (it_pos w m (by omega) F h.nn hL t).1 q; omega
        have a2 : ¬ 0 < S (it w m.toNat F) 0 := fun q => by have := (it_pos w m (by omega) F h.nn hL m.toNat).1 q; omega
        have a3 := it_nn w (by omega) F h.nn t 0
        have a4 := it_nn w (by omega) F h.nn m.toNat 0
        omega
    · exact ⟨t, by simp [min2D, hc], by omega, rfl⟩
  obtain ⟨u, u1, u2, u3⟩ := hu
  have hx : L2.atI ((outs w F (m.toNat + 1)).map D.int) (u : Int) = some (.int (F.sum - S (it w u F) 0)) := by
    rw [atI_nat]; simp [outs, u2]
  have hb := out_le w (by omega) F h u
  rw [u3] at c12
  generalize F.sum - S (it w u F) 0 = v at hb c12 hx
  have tv := txt_int v (by omega)
  have e2 := op_ne_str (sh (.int v)) tv.k
  simp only [op2] at e2
  simp -dsimp only [obody, E_const, E_glob, E_var, E_mov, E_op, E_isn, E_neg, E_notE, E_chain, E_andE, E_orE, E_ite, E_tup, E_lst, E_idx, E_slc, E_cb, E_call, E_callK, E_rng2, rngK_t, rngK_f, E_frz, Es_nil, Es_peek, Es_peekF, Es_star, Es_const, Es_glob, Es_var, Es_mov, Es_op, Es_isn, Es_neg, Es_notE, Es_chain, Es_andE, Es_orE, Es_ite, Es_tup, Es_lst, Es_idx, Es_slc, Es_cb, Es_call, Es_callK, Es_rng, Es_frz, Es_lc, Eb_nil, Eb_one, Ei_nil, Ei_cons, It_seq, It_range, It_enum, It_zip, S_ex, S_asg, S_par, S_seti, S_app, S_ext, S_aug, S_augi, S_ret, S_ifs, S_for_, S_while_, S_never, Ss_nil, Ss_cons, getE_zero, getE_succ, ↓bind_rb, ↓ofR_rb, ↓rbk, ↓ork, rbk, ork, Bool.false_eq_true, if_false, oo_some, ob_some, om_some, getAll, OV.get, OV.refs, nodupN, putBack, set_zero, set_succ, List.set_cons_zero, List.set_cons_succ, bindT, bindTs, op2, List.contains_nil, List.contains_cons, Nat.reduceBEq, Bool.or_false, Bool.or_self, Bool.not_false, Bool.not_true, Bool.and_true, Bool.true_and, Bool.and_self, List.length_cons, List.length_nil, if_true, List.cons_append, List.nil_append, reduceIte, Nat.reduceLT, Nat.reduceAdd, prD, isD_tt, isD_ti, isD_lt, isD_li, isD_nt, isD_ni, isD_nb, isD_ii, isD_ib, isD_it, isD_bi, isD_bb, isD_bt, sz_0, sz_1, sz_2, sz_3, sz_4, sz_5, sz_6, sz_7, sz_8, sz_9, sz_10, sz_11, sz_12, sz_13, sz_14, sz_15, sz_16, sz_17, sz_18, sz_19, sz_20, hf, D.own, hof, hpm, c12, tv.r, u1, idxD, hx, itemD, e2]
def st9 : IS := .for_ (.slot 6) (.seq [.lst [.const (.int 0), .const (.int 1), .cb .int [.call 17 [.peek 0, .const (.int 30)]], .var 1, .op .add [.peek 1, .const (.int 7)], .const (.int 400)]]) obody
theorem s9 (Φ : Fns) (h12 : H12 Φ) (h17 : H17 Φ) (n : Nat) (p : D) (hp : Pot n p) (hn : n ≤ 1000000) (F : List Int) (w m : Int) (h : FOk F) (w1 : 1 ≤ w) (w2 : w ≤ 20) (hm : 0 ≤ m ∧ m ≤ 49) (hL : IsL F w m) (f2 f3 f4 f5 y : Option D) :
    ∃ o p', Pot (n + 1) p' ∧ exS Φ [0] st9 [some p, some (.int m), f2, f3, f4, f5, none, none, none, some (Fl F), some (.int w), some (.lst true ((outs w F (m.toNat + 1)).map D.int)), y, none, none, none, none, none] =
      .nx [some p', some (.int m), f2, f3, f4, f5, o, none, none, some (Fl F), some (.int w), some (.lst true ((outs w F (m.toNat + 1)).map D.int)), y, none, none, none, none, none] := by
  obtain ⟨v, p', c, v1, v2, hp'⟩ := h17 n p 30 hp (by omega) (by decide) (by decide)
  obtain ⟨o, el⟩ := forL_slot [0] (.slot 6) (exSs Φ [0] obody) (fun o => [some p', some (.int m), f2, f3, f4, f5, o, none, none, some (Fl F), some (.int w), some (.lst true ((outs w F (m.toNat + 1)).map D.int)), y, none, none, none, none, none])
    [.int 0, .int 1, .int v, .int m, .int (m + 7), .int 400] none (by
      intro d hd o
      have hd' : ∃ t : Nat, t ≤ 400 ∧ d = .int (t : Int) := by
        simp only [List.mem_cons, List.not_mem_nil, or_false] at hd
        rcases hd with rfl | rfl | rfl | rfl | rfl | rfl
        · exact ⟨0, by omega, rfl⟩
        · exact ⟨1, by omega, rfl⟩
        · exact ⟨v.toNat, by omega, by congr 1; omega⟩
        · exact ⟨m.toNat, by omega, by congr 1; omega⟩
        · exact ⟨(m + 7).toNat, by omega, by congr 1; omega⟩
        · exact ⟨400, by omega, rfl⟩
      obtain ⟨t, ht, rfl⟩ := hd'
      exact ⟨rfl, s9_body Φ h12 p' F w m t ht h w1 w2 hm hL _ _ _ _ _⟩)
  refine ⟨o, p', hp', ?_⟩
  simp -dsimp only [st9, E_const, E_glob, E_var, E_mov, E_op, E_isn, E_neg, E_notE, E_chain, E_andE, E_orE, E_ite, E_tup, E_lst, E_idx, E_slc, E_cb, E_call, E_callK, E_rng2, rngK_t, rngK_f, E_frz, Es_nil, Es_peek, Es_peekF, Es_star, Es_const, Es_glob, Es_var, Es_mov, Es_op, Es_isn, Es_neg, Es_notE, Es_chain, Es_andE, Es_orE, Es_ite, Es_tup, Es_lst, Es_idx, Es_slc, Es_cb, Es_call, Es_callK, Es_rng, Es_frz, Es_lc, Eb_nil, Eb_one, Ei_nil, Ei_cons, It_seq, It_range, It_enum, It_zip, S_ex, S_asg, S_par, S_seti, S_app, S_ext, S_aug, S_augi, S_ret, S_ifs, S_for_, S_while_, S_never, Ss_nil, Ss_cons, getE_zero, getE_succ, ↓bind_rb, ↓ofR_rb, ↓rbk, ↓ork, rbk, ork, Bool.false_eq_true, if_false, oo_some, ob_some, om_some, getAll, OV.get, OV.refs, nodupN, putBack, set_zero, set_succ, List.set_cons_zero, List.set_cons_succ, bindT, bindTs, op2, List.contains_nil, List.contains_cons, Nat.reduceBEq, Bool.or_false, Bool.or_self, Bool.not_false, Bool.not_true, Bool.and_true, Bool.true_and, Bool.and_self, List.length_cons, List.length_nil, if_true, List.cons_append, List.nil_append, reduceIte, Nat.reduceLT, Nat.reduceAdd, prD, isD_tt, isD_ti, isD_lt, isD_li, isD_nt, isD_ni, isD_nb, isD_ii, isD_ib, isD_it, isD_bi, isD_bb, isD_bt, sz_0, sz_1, sz_2, sz_3, sz_4, sz_5, sz_6, sz_7, sz_8, sz_9, sz_10, sz_11, sz_12, sz_13, sz_14, sz_15, sz_16, sz_17, sz_18, sz_19, sz_20, c, intD_i, D.own, addD, itemsAll, itemsOf, seqOf, frzL, D.frz, seqG, el]
/-! one floor alone -/
def Z (j : Nat) (x : Int) : List Int := List.replicate j 0 ++ [x]
theorem Z_S (j i : Nat) (x : Int) (hi : i ≤ j) : S (Z j x) i = x := by
  unfold S Z
  rw [List.drop_append_of_le_length (by simp; omega)]
  simp
theorem Z_L (j : Nat) (x w : Int) (hw : 0 < w) : IsL (Z j x) w (aloneN w (x, j)) := by
  have hl : (Z j x).length = j + 1 := by simp [Z]
  constructor
  · refine ⟨j, by omega, ?_⟩
    unfold need aloneN
    rw [Z_S j j x (Nat.le_refl _)]
  · intro i hi
    unfold need aloneN
    rw [Z_S j i x (by omega)]
    dsimp only
    split <;> omega
theorem Z_nn (j : Nat) (x : Int) (h : 0 ≤ x) : NN (Z j x) := by
  intro y hy
  simp [Z] at hy
  omega
theorem mul_tup0 (j : Nat) (hj : j ≤ 4) : mulD (.tup [.int 0]) (.int (j : Int)) = some (.tup (List.replicate j (.int 0))) := by
  have : j = 0 ∨ j = 1 ∨ j = 2 ∨ j = 3 ∨ j = 4 := by omega
  rcases this with rfl | rfl | rfl | rfl | rfl <;> rfl
theorem aloneN_le (w : Int) (hw : 1 ≤ w) (x : Int) (j : Nat) (hx : 0 ≤ x ∧ x ≤ 9) (hj : j ≤ 4) : 0 ≤ aloneN w (x, j) ∧ aloneN w (x, j) ≤ 20 := by
  unfold aloneN
  simp only
  split
  · have h1 : 0 ≤ (x + w - 1) / w := Int.ediv_nonneg (by omega) (by omega)
    have h3 : (x + w - 1) / w ≤ x := by
      apply Int.ediv_le_of_le_mul (by omega)
      have h5 : 0 ≤ (x - 1) * (w - 1) := Int.mul_nonneg (by omega) (by omega)
      rw [Int.sub_mul, Int.mul_sub, Int.mul_sub] at h5
      omega
    omega
  · omega
def st10 : IS := .asg (.slot 7) (.cb .tuple [.lc [14, 17] (.tup [(.slot 14), (.slot 17)]) (.enum [.peekF 9]) [] (.cb .int [.op .sub [.cb .len [.call 20 [.op .add [.op .mul [.tup [.const (.int 0)], .peek 14], .tup [.var 17]], .peek 10]], .const (.int 1)]])])
theorem zip_mem (F : List Int) (h : FOk F) (q : Int × Nat) (hq : q ∈ F.zipIdx 0) : (0 ≤ q.1 ∧ q.1 ≤ 9) ∧ q.2 ≤ 4 := by
  have h1 := h.2.1
  have h2 := List.mem_zipIdx hq
  have h3 : q.1 ∈ F := by
    rw [h2.2.2]; exact List.getElem_mem _
  exact ⟨h.2.2 _ h3, by omega⟩
theorem alone_elt (Φ : Fns) (i x w L : Int) (zs : List D) (os : List Int) (E : Env) (hm : mulD (.tup [.int 0]) (.int i) = some (.tup zs)) (ho : ownL zs = false) (hs : zs.length + 1 ≤ SZ) (h10 : getE E 10 = some (.int w)) (h14 : getE E 14 = some (.int i)) (h17 : getE E 17 = some (.int x))
    (c20 : Φ 20 [.tup (zs ++ [.int x]), .int w] = .ok (.lst true (os.map D.int)) [.tup (zs ++ [.int x]), .int w]) (hlen : (((os.map D.int).length : Nat) : Int) - 1 = L) (hE : E.set 10 (some (.int w)) = E) :
    ev Φ (.cb .int [.op .sub [.cb .len [.call 20 [.op .add [.op .mul [.tup [.const (.int 0)], .peek 14], .tup [.var 17]], .peek 10]], .const (.int 1)]]) E = .ok (.int L) E := by
  simp -dsimp only [E_const, E_glob, E_var, E_mov, E_op, E_isn, E_neg, E_notE, E_chain, E_andE, E_orE, E_ite, E_tup, E_lst, E_idx, E_slc, E_cb, E_call, E_callK, E_rng2, rngK_t, rngK_f, E_frz, Es_nil, Es_peek, Es_peekF, Es_star, Es_const, Es_glob, Es_var, Es_mov, Es_op, Es_isn, Es_neg, Es_notE, Es_chain, Es_andE, Es_orE, Es_ite, Es_tup, Es_lst, Es_idx, Es_slc, Es_cb, Es_call, Es_callK, Es_rng, Es_frz, Es_lc, Eb_nil, Eb_one, Ei_nil, Ei_cons, It_seq, It_range, It_enum, It_zip, S_ex, S_asg, S_par, S_seti, S_app, S_ext, S_aug, S_augi, S_ret, S_ifs, S_for_, S_while_, S_never, Ss_nil, Ss_cons, getE_zero, getE_succ, ↓bind_rb, ↓ofR_rb, ↓rbk, ↓ork, rbk, ork, Bool.false_eq_true, if_false, oo_some, ob_some, om_some, getAll, OV.get, OV.refs, nodupN, putBack, set_zero, set_succ, List.set_cons_zero, List.set_cons_succ, bindT, bindTs, op2, List.contains_nil, List.contains_cons, Nat.reduceBEq, Bool.or_false, Bool.or_self, Bool.not_false, Bool.not_true, Bool.and_true, Bool.true_and, Bool.and_self, List.length_cons, List.length_nil, if_true, List.cons_append, List.nil_append, reduceIte, Nat.reduceLT, Nat.reduceAdd, prD, isD_tt, isD_ti, isD_lt, isD_li, isD_nt, isD_ni, isD_nb, isD_ii, isD_ib, isD_it, isD_bi, isD_bb, isD_bt, sz_0, sz_1, sz_2, sz_3, sz_4, sz_5, sz_6, sz_7, sz_8, sz_9, sz_10, sz_11, sz_12, sz_13, sz_14, sz_15, sz_16, sz_17, sz_18, sz_19, sz_20, h14, h17, h10, hm, D.own, ownL, addD, ho, hs, c20, hE, lenD, subD, hlen, intD_i]
theorem s10 (Φ : Fns) (h20 : H20 Φ) (p : D) (F : List Int) (w m : Int) (h : FOk F) (w1 : 1 ≤ w) (w2 : w ≤ 20) (f2 f3 f4 f5 f6 x y : Option D) :
    exS Φ [0] st10 [some p, some (.int m), f2, f3, f4, f5, f6, none, none, some (Fl F), some (.int w), x, y, none, none, none, none, none] =
      .nx [some p, some (.int m), f2, f3, f4, f5, f6, some (.tup ((F.zipIdx 0).map fun p => .int (aloneN w p))), none, some (Fl F), some (.int w), x, y, none, none, none, none, none] := by
  have hfz : D.frz (Fl F) = Fl F := by simp [Fl, D.frz, frzL_int]
  have hit : itemsOf [some p, some (.int m), f2, f3, f4, f5, f6, none, none, some (Fl F), some (.int w), x, y, none, none, none, none, none] (.ref 9) = some (F.map D.int) := by
    simp only [itemsOf, getE_succ, getE_zero, Fl, D.own, ownL_int, seqOf, Bool.false_eq_true, if_false]
  have e := ev_lc_map Φ [14, 17] (.tup [(.slot 14), (.slot 17)]) (.enum [.peekF 9]) (.cb .int [.op .sub [.cb .len [.call 20 [.op .add [.op .mul [.tup [.const (.int 0)], .peek 14], .tup [.var 17]], .peek 10]], .const (.int 1)]])
    [some p, some (.int m), f2, f3, f4, f5, f6, none, none, some (Fl F), some (.int w), x, y, none, none, none, none, none] [some p, some (.int m), f2, f3, f4, f5, f6, none, none, some (Fl F), some (.int w), x, y, none, none, none, none, none]
    (F.zipIdx 0) (fun q => .tup [.int (q.2 : Int), .int q.1]) (fun q => .int (aloneN w q)) (fun q => [some p, some (.int m), f2, f3, f4, f5, f6, none, none, some (Fl F), some (.int w), x, y, none, some (.int (q.2 : Int)), none, none, some (.int q.1)])
    (by simp -dsimp only [E_const, E_glob, E_var, E_mov, E_op, E_isn, E_neg, E_notE, E_chain, E_andE, E_orE, E_ite, E_tup, E_lst, E_idx, E_slc, E_cb, E_call, E_callK, E_rng2, rngK_t, rngK_f, E_frz, Es_nil, Es_peek, Es_peekF, Es_star, Es_const, Es_glob, Es_var, Es_mov, Es_op, Es_isn, Es_neg, Es_notE, Es_chain, Es_andE, Es_orE, Es_ite, Es_tup, Es_lst, Es_idx, Es_slc, Es_cb, Es_call, Es_callK, Es_rng, Es_frz, Es_lc, Eb_nil, Eb_one, Ei_nil, Ei_cons, It_seq, It_range, It_enum, It_zip, S_ex, S_asg, S_par, S_seti, S_app, S_ext, S_aug, S_augi, S_ret, S_ifs, S_for_, S_while_, S_never, Ss_nil, Ss_cons, getE_zero, getE_succ, ↓bind_rb, ↓ofR_rb, ↓rbk, ↓ork, rbk, ork, Bool.false_eq_true, if_false, oo_some, ob_some, om_some, getAll, OV.get, OV.refs, nodupN, putBack, set_zero, set_succ, List.set_cons_zero, List.set_cons_succ, bindT, bindTs, op2, List.contains_nil, List.contains_cons, Nat.reduceBEq, Bool.or_false, Bool.or_self, Bool.not_false, Bool.not_true, Bool.and_true, Bool.true_and, Bool.and_self, List.length_cons, List.length_nil, if_true, List.cons_append, List.nil_append, reduceIte, Nat.reduceLT, Nat.reduceAdd, prD, isD_tt, isD_ti, isD_lt, isD_li, isD_nt, isD_ni, isD_nb, isD_ii, isD_ib, isD_it, isD_bi, isD_bb, isD_bt, sz_0, sz_1, sz_2, sz_3, sz_4, sz_5, sz_6, sz_7, sz_8, sz_9, sz_10, sz_11, sz_12, sz_13, sz_14, sz_15, sz_16, sz_17, sz_18, sz_19, sz_20, hfz, itemsAll, hit, enumG, enumD_map]) (by have := h.2.1; simp; unfold SZ; omega) rfl
    (fun q hq => ⟨rfl, by
      obtain ⟨q1, q2⟩ := zip_mem F h q hq
      obtain ⟨x, j⟩ := q
      have hb := aloneN_le w w1 x j q1 q2
      have c20 := h20 (Z j x) w (aloneN w (x, j)) (by omega) (by simp [Z]) (by simp [Z]; omega) (Z_nn j x q1.1) (Z_L j x w (by omega)) (by omega)
      have hZ : Fl (Z j x) = .tup (List.replicate j (.int 0) ++ [.int x]) := by simp [Fl, Z]
      rw [hZ] at c20
      have hlen : ((((outs w (Z j x) ((aloneN w (x, j)).toNat + 1)).map D.int).length : Nat) : Int) - 1 = aloneN w (x, j) := by simp [outs]; omega
      have ho : ownL (List.replicate j (D.int 0)) = false := by
        have := ownL_map (List.replicate j (D.int 0)) id (by intro y hy; rw [List.eq_of_mem_replicate hy]; rfl)
        simpa using this
      have hs : (List.replicate j (D.int 0)).length + 1 ≤ SZ := by simp; unfold SZ; omega
      have m0 := mul_tup0 j q2
      exact alone_elt Φ (j : Int) x w _ _ (outs w (Z j x) ((aloneN w (x, j)).toNat + 1)) _ m0 ho hs rfl rfl rfl c20 hlen rfl⟩) (fun d hd => rfl) (fun d hd => rfl) rfl
  simp -dsimp only [st10, ↓e, E_const, E_glob, E_var, E_mov, E_op, E_isn, E_neg, E_notE, E_chain, E_andE, E_orE, E_ite, E_tup, E_lst, E_idx, E_slc, E_cb, E_call, E_callK, E_rng2, rngK_t, rngK_f, E_frz, Es_nil, Es_peek, Es_peekF, Es_star, Es_const, Es_glob, Es_var, Es_mov, Es_op, Es_isn, Es_neg, Es_notE, Es_chain, Es_andE, Es_orE, Es_ite, Es_tup, Es_lst, Es_idx, Es_slc, Es_cb, Es_call, Es_callK, Es_rng, Es_frz, Es_lc, Eb_nil, Eb_one, Ei_nil, Ei_cons, It_seq, It_range, It_enum, It_zip, S_ex, S_asg, S_par, S_seti, S_app, S_ext, S_aug, S_augi, S_ret, S_ifs, S_for_, S_while_, S_never, Ss_nil, Ss_cons, getE_zero, getE_succ, ↓bind_rb, ↓ofR_rb, ↓rbk, ↓ork, rbk, ork, Bool.false_eq_true, if_false, oo_some, ob_some, om_some, getAll, OV.get, OV.refs, nodupN, putBack, set_zero, set_succ, List.set_cons_zero, List.set_cons_succ, bindT, bindTs, op2, List.contains_nil, List.contains_cons, Nat.reduceBEq, Bool.or_false, Bool.or_self, Bool.not_false, Bool.not_true, Bool.and_true, Bool.true_and, Bool.and_self, List.length_cons, List.length_nil, if_true, List.cons_append, List.nil_append, reduceIte, Nat.reduceLT, Nat.reduceAdd, prD, isD_tt, isD_ti, isD_lt, isD_li, isD_nt, isD_ni, isD_nb, isD_ii, isD_ib, isD_it, isD_bi, isD_bb, isD_bt, sz_0, sz_1, sz_2, sz_3, sz_4, sz_5, sz_6, sz_7, sz_8, sz_9, sz_10, sz_11, sz_12, sz_13, sz_14, sz_15, sz_16, sz_17, sz_18, sz_19, sz_20, tupleD, seqOf, ownL_mapi]
def st11 : IS := .ifs (.op .ne [.cb .repr [.callK 14 [.var 10, .var 9] [1, 0]], .cb .repr [.peek 7]]) [.ret (.const (.bl false))] []
theorem txt_alone (F : List Int) (w : Int) (h : FOk F) (w1 : 1 ≤ w) : Txt (.tup ((F.zipIdx 0).map fun p => .int (aloneN w p))) := by
  have h1 := h.2.1
  refine Txt.mk' ?_ ?_ ?_
  · simp only [D.isPd]; exact isPdL_map _ _ fun _ _ => rfl
  · simp only [D.pd, pdL_map, smallP]
    apply smallAll_map
    intro q hq
    obtain ⟨q1, q2⟩ := zip_mem F h q hq
    have hb := aloneN_le w w1 q.1 q.2 q1 q2
    simp only [D.pd, smallP, decide_eq_true_eq]
    have : aloneN w q = aloneN w (q.1, q.2) := rfl
    omega
  · show 1 + nodesAll (pdL _) ≤ 60
    rw [pdL_map]
    have h2 := nodesAll_map (F.zipIdx 0) (fun p => (D.int (aloneN w p)).pd) 1 (fun _ _ => by simp [D.pd, nodesP])
    have h3 : (F.zipIdx 0).length = F.length := by simp
    rw [h3] at h2
    omega
theorem s11 (Φ : Fns) (h14 : H14 Φ) (p : D) (F : List Int) (w m : Int) (h : FOk F) (w1 : 1 ≤ w) (w2 : w ≤ 20) (f2 f3 f4 f5 f6 x y : Option D) :
    exS Φ [0] st11 [some p, some (.int m), f2, f3, f4, f5, f6, some (.tup ((F.zipIdx 0).map fun p => .int (aloneN w p))), none, some (Fl F), some (.int w), x, y, none, none, none, none, none] =
      .nx [some p, some (.int m), f2, f3, f4, f5, f6, some (.tup ((F.zipIdx 0).map fun p => .int (aloneN w p))), none, some (Fl F), some (.int w), x, y, none, none, none, none, none] := by
  have hf : D.own (Fl F) = false := by simp [Fl, D.own, ownL_int]
  have hpm : permD [1, 0] [.int w, Fl F] = some [Fl F, .int w] := rfl
  have hof : ownL [.int w, Fl F] = false := by simp [ownL, hf, D.own]
  have c14 := h14 F w h w1 w2
  have t := txt_alone F w h w1
  generalize D.tup ((F.zipIdx 0).map fun p => D.int (aloneN w p)) = v at c14 t
  have e2 := op_ne_str (sh v) t.k
  simp only [op2] at e2
  simp -dsimp only [st11, E_const, E_glob, E_var, E_mov, E_op, E_isn, E_neg, E_notE, E_chain, E_andE, E_orE, E_ite, E_tup, E_lst, E_idx, E_slc, E_cb, E_call, E_callK, E_rng2, rngK_t, rngK_f, E_frz, Es_nil, Es_peek, Es_peekF, Es_star, Es_const, Es_glob, Es_var, Es_mov, Es_op, Es_isn, Es_neg, Es_notE, Es_chain, Es_andE, Es_orE, Es_ite, Es_tup, Es_lst, Es_idx, Es_slc, Es_cb, Es_call, Es_callK, Es_rng, Es_frz, Es_lc, Eb_nil, Eb_one, Ei_nil, Ei_cons, It_seq, It_range, It_enum, It_zip, S_ex, S_asg, S_par, S_seti, S_app, S_ext, S_aug, S_augi, S_ret, S_ifs, S_for_, S_while_, S_never, Ss_nil, Ss_cons, getE_zero, getE_succ, ↓bind_rb, ↓ofR_rb, ↓rbk, ↓ork, rbk, ork, Bool.false_eq_true, if_false, oo_some, ob_some, om_some, getAll, OV.get, OV.refs, nodupN, putBack, set_zero, set_succ, List.set_cons_zero, List.set_cons_succ, bindT, bindTs, op2, List.contains_nil, List.contains_cons, Nat.reduceBEq, Bool.or_false, Bool.or_self, Bool.not_false, Bool.not_true, Bool.and_true, Bool.true_and, Bool.and_self, List.length_cons, List.length_nil, if_true, List.cons_append, List.nil_append, reduceIte, Nat.reduceLT, Nat.reduceAdd, prD, isD_tt, isD_ti, isD_lt, isD_li, isD_nt, isD_ni, isD_nb, isD_ii, isD_ib, isD_it, isD_bi, isD_bb, isD_bt, sz_0, sz_1, sz_2, sz_3, sz_4, sz_5, sz_6, sz_7, sz_8, sz_9, sz_10, sz_11, sz_12, sz_13, sz_14, sz_15, sz_16, sz_17, sz_18, sz_19, sz_20, hf, D.own, hof, hpm, c14, t.r, e2]
def st12 : IS := .asg (.slot 6) (.cb .int [.call 17 [.peek 0, .const (.int 40)]])
theorem s12 (Φ : Fns) (h17 : H17 Φ) (n : Nat) (p : D) (hp : Pot n p) (hn : n ≤ 1000000) (r : List (Option D)) (f1 f2 f3 f4 f5 f6 : Option D) :
    ∃ t p', Pot (n + 1) p' ∧ 0 ≤ t ∧ t < 40 ∧ exS Φ [0] st12 (some p :: f1 :: f2 :: f3 :: f4 :: f5 :: f6 :: r) = .nx (some p' :: f1 :: f2 :: f3 :: f4 :: f5 :: some (.int t) :: r) := by
  obtain ⟨v, p', c, v1, v2, hp'⟩ := h17 n p 40 hp (by omega) (by decide) (by decide)
  have hl : 6 < r.length + 1 + 1 + 1 + 1 + 1 + 1 + 1 := by omega
  refine ⟨v, p', hp', v1, v2, ?_⟩
  simp -dsimp only [st12, E_const, E_glob, E_var, E_mov, E_op, E_isn, E_neg, E_notE, E_chain, E_andE, E_orE, E_ite, E_tup, E_lst, E_idx, E_slc, E_cb, E_call, E_callK, E_rng2, rngK_t, rngK_f, E_frz, Es_nil, Es_peek, Es_peekF, Es_star, Es_const, Es_glob, Es_var, Es_mov, Es_op, Es_isn, Es_neg, Es_notE, Es_chain, Es_andE, Es_orE, Es_ite, Es_tup, Es_lst, Es_idx, Es_slc, Es_cb, Es_call, Es_callK, Es_rng, Es_frz, Es_lc, Eb_nil, Eb_one, Ei_nil, Ei_cons, It_seq, It_range, It_enum, It_zip, S_ex, S_asg, S_par, S_seti, S_app, S_ext, S_aug, S_augi, S_ret, S_ifs, S_for_, S_while_, S_never, Ss_nil, Ss_cons, getE_zero, getE_succ, ↓bind_rb, ↓ofR_rb, ↓rbk, ↓ork, rbk, ork, Bool.false_eq_true, if_false, oo_some, ob_some, om_some, getAll, OV.get, OV.refs, nodupN, putBack, set_zero, set_succ, List.set_cons_zero, List.set_cons_succ, bindT, bindTs, op2, List.contains_nil, List.contains_cons, Nat.reduceBEq, Bool.or_false, Bool.or_self, Bool.not_false, Bool.not_true, Bool.and_true, Bool.true_and, Bool.and_self, List.length_cons, List.length_nil, if_true, List.cons_append, List.nil_append, reduceIte, Nat.reduceLT, Nat.reduceAdd, prD, isD_tt, isD_ti, isD_lt, isD_li, isD_nt, isD_ni, isD_nb, isD_ii, isD_ib, isD_it, isD_bi, isD_bb, isD_bt, sz_0, sz_1, sz_2, sz_3, sz_4, sz_5, sz_6, sz_7, sz_8, sz_9, sz_10, sz_11, sz_12, sz_13, sz_14, sz_15, sz_16, sz_17, sz_18, sz_19, sz_20, c, intD_i, hl]
def st13 : IS := .asg (.slot 8) (.lc [13] (.slot 13) (.range [.const (.int 1), .const (.int 21)]) [.op .le [.op .sub [.cb .len [.call 20 [.peek 9, .peek 13]], .const (.int 1)], .peek 6]] (.cb .int [.peek 13]))
theorem s13 (Φ : Fns) (h20 : H20 Φ) (p : D) (F : List Int) (w m t : Int) (h : FOk F) (f2 f3 f4 f5 f7 x y : Option D) :
    exS Φ [0] st13 [some p, some (.int m), f2, f3, f4, f5, some (.int t), f7, none, some (Fl F), some (.int w), x, y, none, none, none, none, none] =
      .nx [some p, some (.int m), f2, f3, f4, f5, some (.int t), f7, some (.lst true ((fineW F t).map fun j : Nat => D.int (1 + (j : Int)))), some (Fl F), some (.int w), x, y, none, none, none, none, none] := by
  have e := ev_lc_if Φ [13] (.slot 13) (.range [.const (.int 1), .const (.int 21)]) (.op .le [.op .sub [.cb .len [.call 20 [.peek 9, .peek 13]], .const (.int 1)], .peek 6]) (.cb .int [.peek 13])
    [some p, some (.int m), f2, f3, f4, f5, some (.int t), f7, none, some (Fl F), some (.int w), x, y, none, none, none, none, none] [some p, some (.int m), f2, f3, f4, f5, some (.int t), f7, none, some (Fl F), some (.int w), x, y, none, none, none, none, none]
    (List.range 20) (fun j : Nat => .int (1 + (j : Int))) (fun j => decide (Lf F (1 + (j : Int)) ≤ t)) (fun j : Nat => .int (1 + (j : Int))) (fun j => [some p, some (.int m), f2, f3, f4, f5, some (.int t), f7, none, some (Fl F), some (.int w), x, y, some (.int (1 + (j : Int))), none, none, none, none])
    (by
      have hr := rangeOf_two 1 21 rfl rfl (by decide)
      simp -dsimp only [E_const, E_glob, E_var, E_mov, E_op, E_isn, E_neg, E_notE, E_chain, E_andE, E_orE, E_ite, E_tup, E_lst, E_idx, E_slc, E_cb, E_call, E_callK, E_rng2, rngK_t, rngK_f, E_frz, Es_nil, Es_peek, Es_peekF, Es_star, Es_const, Es_glob, Es_var, Es_mov, Es_op, Es_isn, Es_neg, Es_notE, Es_chain, Es_andE, Es_orE, Es_ite, Es_tup, Es_lst, Es_idx, Es_slc, Es_cb, Es_call, Es_callK, Es_rng, Es_frz, Es_lc, Eb_nil, Eb_one, Ei_nil, Ei_cons, It_seq, It_range, It_enum, It_zip, S_ex, S_asg, S_par, S_seti, S_app, S_ext, S_aug, S_augi, S_ret, S_ifs, S_for_, S_while_, S_never, Ss_nil, Ss_cons, getE_zero, getE_succ, ↓bind_rb, ↓ofR_rb, ↓rbk, ↓ork, rbk, ork, Bool.false_eq_true, if_false, oo_some, ob_some, om_some, getAll, OV.get, OV.refs, nodupN, putBack, set_zero, set_succ, List.set_cons_zero, List.set_cons_succ, bindT, bindTs, op2, List.contains_nil, List.contains_cons, Nat.reduceBEq, Bool.or_false, Bool.or_self, Bool.not_false, Bool.not_true, Bool.and_true, Bool.true_and, Bool.and_self, List.length_cons, List.length_nil, if_true, List.cons_append, List.nil_append, reduceIte, Nat.reduceLT, Nat.reduceAdd, prD, isD_tt, isD_ti, isD_lt, isD_li, isD_nt, isD_ni, isD_nb, isD_ii, isD_ib, isD_it, isD_bi, isD_bb, isD_bt, sz_0, sz_1, sz_2, sz_3, sz_4, sz_5, sz_6, sz_7, sz_8, sz_9, sz_10, sz_11, sz_12, sz_13, sz_14, sz_15, sz_16, sz_17, sz_18, sz_19, sz_20, hr]; rfl) (by decide) rfl
    (fun j hj => ⟨rfl, by
      have hj' := List.mem_range.1 hj
      have hL := isL_Lf F (1 + (j : Int)) h.1
      have hb := m_le F (1 + (j : Int)) _ h (by omega) hL
      have c20 := h20 F (1 + (j : Int)) _ (by omega) h.1 (by have := h.2.1; omega) h.nn hL (by omega)
      generalize Lf F (1 + (j : Int)) = L at *
      have hlen : ((((outs (1 + (j : Int)) F (L.toNat + 1)).map D.int).length : Nat) : Int) - 1 = L := by simp [outs]; omega
      simp -dsimp only [E_const, E_glob, E_var, E_mov, E_op, E_isn, E_neg, E_notE, E_chain, E_andE, E_orE, E_ite, E_tup, E_lst, E_idx, E_slc, E_cb, E_call, E_callK, E_rng2, rngK_t, rngK_f, E_frz, Es_nil, Es_peek, Es_peekF, Es_star, Es_const, Es_glob, Es_var, Es_mov, Es_op, Es_isn, Es_neg, Es_notE, Es_chain, Es_andE, Es_orE, Es_ite, Es_tup, Es_lst, Es_idx, Es_slc, Es_cb, Es_call, Es_callK, Es_rng, Es_frz, Es_lc, Eb_nil, Eb_one, Ei_nil, Ei_cons, It_seq, It_range, It_enum, It_zip, S_ex, S_asg, S_par, S_seti, S_app, S_ext, S_aug, S_augi, S_ret, S_ifs, S_for_, S_while_, S_never, Ss_nil, Ss_cons, getE_zero, getE_succ, ↓bind_rb, ↓ofR_rb, ↓rbk, ↓ork, rbk, ork, Bool.false_eq_true, if_false, oo_some, ob_some, om_some, getAll, OV.get, OV.refs, nodupN, putBack, set_zero, set_succ, List.set_cons_zero, List.set_cons_succ, bindT, bindTs, op2, List.contains_nil, List.contains_cons, Nat.reduceBEq, Bool.or_false, Bool.or_self, Bool.not_false, Bool.not_true, Bool.and_true, Bool.true_and, Bool.and_self, List.length_cons, List.length_nil, if_true, List.cons_append, List.nil_append, reduceIte, Nat.reduceLT, Nat.reduceAdd, prD, isD_tt, isD_ti, isD_lt, isD_li, isD_nt, isD_ni, isD_nb, isD_ii, isD_ib, isD_it, isD_bi, isD_bb, isD_bt, sz_0, sz_1, sz_2, sz_3, sz_4, sz_5, sz_6, sz_7, sz_8, sz_9, sz_10, sz_11, sz_12, sz_13, sz_14, sz_15, sz_16, sz_17, sz_18, sz_19, sz_20, c20, lenD, subD, hlen, cmpD], fun _ => by simp -dsimp only [E_const, E_glob, E_var, E_mov, E_op, E_isn, E_neg, E_notE, E_chain, E_andE, E_orE, E_ite, E_tup, E_lst, E_idx, E_slc, E_cb, E_call, E_callK, E_rng2, rngK_t, rngK_f, E_frz, Es_nil, Es_peek, Es_peekF, Es_star, Es_const, Es_glob, Es_var, Es_mov, Es_op, Es_isn, Es_neg, Es_notE, Es_chain, Es_andE, Es_orE, Es_ite, Es_tup, Es_lst, Es_idx, Es_slc, Es_cb, Es_call, Es_callK, Es_rng, Es_frz, Es_lc, Eb_nil, Eb_one, Ei_nil, Ei_cons, It_seq, It_range, It_enum, It_zip, S_ex, S_asg, S_par, S_seti, S_app, S_ext, S_aug, S_augi, S_ret, S_ifs, S_for_, S_while_, S_never, Ss_nil, Ss_cons, getE_zero, getE_succ, ↓bind_rb, ↓ofR_rb, ↓rbk, ↓ork, rbk, ork, Bool.false_eq_true, if_false, oo_some, ob_some, om_some, getAll, OV.get, OV.refs, nodupN, putBack, set_zero, set_succ, List.set_cons_zero, List.set_cons_succ, bindT, bindTs, op2, List.contains_nil, List.contains_cons, Nat.reduceBEq, Bool.or_false, Bool.or_self, Bool.not_false, Bool.not_true, Bool.and_true, Bool.true_and, Bool.and_self, List.length_cons, List.length_nil, if_true, List.cons_append, List.nil_append, reduceIte, Nat.reduceLT, Nat.reduceAdd, prD, isD_tt, isD_ti, isD_lt, isD_li, isD_nt, isD_ni, isD_nb, isD_ii, isD_ib, isD_it, isD_bi, isD_bb, isD_bt, sz_0, sz_1, sz_2, sz_3, sz_4, sz_5, sz_6, sz_7, sz_8, sz_9, sz_10, sz_11, sz_12, sz_13, sz_14, sz_15, sz_16, sz_17, sz_18, sz_19, sz_20, intD_i]⟩) (fun d hd => rfl) (fun d hd => rfl) rfl
  rw [← fineW] at e
  simp -dsimp only [st13, ↓e, E_const, E_glob, E_var, E_mov, E_op, E_isn, E_neg, E_notE, E_chain, E_andE, E_orE, E_ite, E_tup, E_lst, E_idx, E_slc, E_cb, E_call, E_callK, E_rng2, rngK_t, rngK_f, E_frz, Es_nil, Es_peek, Es_peekF, Es_star, Es_const, Es_glob, Es_var, Es_mov, Es_op, Es_isn, Es_neg, Es_notE, Es_chain, Es_andE, Es_orE, Es_ite, Es_tup, Es_lst, Es_idx, Es_slc, Es_cb, Es_call, Es_callK, Es_rng, Es_frz, Es_lc, Eb_nil, Eb_one, Ei_nil, Ei_cons, It_seq, It_range, It_enum, It_zip, S_ex, S_asg, S_par, S_seti, S_app, S_ext, S_aug, S_augi, S_ret, S_ifs, S_for_, S_while_, S_never, Ss_nil, Ss_cons, getE_zero, getE_succ, ↓bind_rb, ↓ofR_rb, ↓rbk, ↓ork, rbk, ork, Bool.false_eq_true, if_false, oo_some, ob_some, om_some, getAll, OV.get, OV.refs, nodupN, putBack, set_zero, set_succ, List.set_cons_zero, List.set_cons_succ, bindT, bindTs, op2, List.contains_nil, List.contains_cons, Nat.reduceBEq, Bool.or_false, Bool.or_self, Bool.not_false, Bool.not_true, Bool.and_true, Bool.true_and, Bool.and_self, List.length_cons, List.length_nil, if_true, List.cons_append, List.nil_append, reduceIte, Nat.reduceLT, Nat.reduceAdd, prD, isD_tt, isD_ti, isD_lt, isD_li, isD_nt, isD_ni, isD_nb, isD_ii, isD_ib, isD_it, isD_bi, isD_bb, isD_bt, sz_0, sz_1, sz_2, sz_3, sz_4, sz_5, sz_6, sz_7, sz_8, sz_9, sz_10, sz_11, sz_12, sz_13, sz_14, sz_15, sz_16, sz_17, sz_18, sz_19, sz_20]
def st14 : IS := .ret (.op .eq [.cb .repr [.callK 15 [.var 6, .var 9] [1, 0]], .cb .repr [.ite (.op .ne [.peek 8, .lst []]) (.idx [.peek 8, .const (.int 0)]) (.const .non)]])
theorem shaped_ints (l : List Nat) : PySem.SeqAt.shaped (.list (pdL (l.map fun j : Nat => D.int (1 + (j : Int))))) = true := by
  have h1 : PySem.PyData.canLayAll0 (l.map fun j : Nat => (D.int (1 + (j : Int))).pd) = true := canLayAll_map _ _ fun _ _ => rfl
  have h2 : PySem.PyData.depthAll (l.map fun j : Nat => (D.int (1 + (j : Int))).pd) ≤ 0 := depthAll_map _ _ 0 fun _ _ => Nat.le_refl _
  rw [pdL_map]
  show (PySem.PyData.canLayAll0 _ && decide (PySem.PyData.depthAll _ + 1 ≤ 64)) = true
  rw [h1, Bool.true_and, decide_eq_true_eq]
  omega
theorem s14 (Φ : Fns) (h15 : H15 Φ) (p : D) (F : List Int) (w m t : Int) (h : FOk F) (t1 : 0 ≤ t) (t2 : t ≤ 400) (f2 f3 f4 f5 f7 x y : Option D) :
    exS Φ [0] st14 [some p, some (.int m), f2, f3, f4, f5, some (.int t), f7, some (.lst true ((fineW F t).map fun j : Nat => D.int (1 + (j : Int)))), some (Fl F), some (.int w), x, y, none, none, none, none, none] =
      .ret (.bl true) [some p, some (.int m), f2, f3, f4, f5, some (.int t), f7, some (.lst true ((fineW F t).map fun j : Nat => D.int (1 + (j : Int)))), some (Fl F), some (.int w), x, y, none, none, none, none, none] := by
  have hf : D.own (Fl F) = false := by simp [Fl, D.own, ownL_int]
  have hpm : permD [1, 0] [.int t, Fl F] = some [Fl F, .int t] := rfl
  have hof : ownL [.int t, Fl F] = false := by simp [ownL, hf, D.own]
  have c15 := h15 F t h t1 t2
  have hs0 : PySem.SeqAt.shaped (.list []) = true := rfl
  have hs := shaped_ints (fineW F t)
  have hp : isPdL ((fineW F t).map fun j : Nat => D.int (1 + (j : Int))) = true := isPdL_map _ _ fun _ _ => rfl
  cases hfw : fineW F t with
  | nil =>
    rw [hfw] at c15
    have e0 : eqD (.lst true []) (.lst true []) = some true := rfl
    have e2 := eqD_str (sh .non) (sh .non) txt_non.k txt_non.k
    simp only [beq_self_eq_true] at e2
    simp -dsimp only [st14, E_const, E_glob, E_var, E_mov, E_op, E_isn, E_neg, E_notE, E_chain, E_andE, E_orE, E_ite, E_tup, E_lst, E_idx, E_slc, E_cb, E_call, E_callK, E_rng2, rngK_t, rngK_f, E_frz, Es_nil, Es_peek, Es_peekF, Es_star, Es_const, Es_glob, Es_var, Es_mov, Es_op, Es_isn, Es_neg, Es_notE, Es_chain, Es_andE, Es_orE, Es_ite, Es_tup, Es_lst, Es_idx, Es_slc, Es_cb, Es_call, Es_callK, Es_rng, Es_frz, Es_lc, Eb_nil, Eb_one, Ei_nil, Ei_cons, It_seq, It_range, It_enum, It_zip, S_ex, S_asg, S_par, S_seti, S_app, S_ext, S_aug, S_augi, S_ret, S_ifs, S_for_, S_while_, S_never, Ss_nil, Ss_cons, getE_zero, getE_succ, ↓bind_rb, ↓ofR_rb, ↓rbk, ↓ork, rbk, ork, Bool.false_eq_true, if_false, oo_some, ob_some, om_some, getAll, OV.get, OV.refs, nodupN, putBack, set_zero, set_succ, List.set_cons_zero, List.set_cons_succ, bindT, bindTs, op2, List.contains_nil, List.contains_cons, Nat.reduceBEq, Bool.or_false, Bool.or_self, Bool.not_false, Bool.not_true, Bool.and_true, Bool.true_and, Bool.and_self, List.length_cons, List.length_nil, if_true, List.cons_append, List.nil_append, reduceIte, Nat.reduceLT, Nat.reduceAdd, prD, isD_tt, isD_ti, isD_lt, isD_li, isD_nt, isD_ni, isD_nb, isD_ii, isD_ib, isD_it, isD_bi, isD_bb, isD_bt, sz_0, sz_1, sz_2, sz_3, sz_4, sz_5, sz_6, sz_7, sz_8, sz_9, sz_10, sz_11, sz_12, sz_13, sz_14, sz_15, sz_16, sz_17, sz_18, sz_19, sz_20, hf, D.own, hof, hpm, c15, txt_non.r, List.map_nil, e0, e2]
  | cons j r =>
    rw [hfw] at c15 hs hp
    have hj : j < 20 := by
      have : j ∈ fineW F t := by rw [hfw]; simp
      simp [fineW] at this; exact this.1
    have tj := txt_int (1 + (j : Int)) (by omega)
    have e0 : eqD (.lst true ((j :: r).map fun j : Nat => D.int (1 + (j : Int)))) (.lst true []) = some false := by
      simp only [eqD, D.isPd, hp, isPdL, D.pd, hs, pdL, hs0, Bool.and_self, if_true]
      simp only [List.map_cons, pdL, PySem.PyData.eqv, PySem.PyData.eqvAll]
    have h0 : L2.atI ((j :: r).map fun j : Nat => D.int (1 + (j : Int))) 0 = some (D.int (1 + (j : Int))) := atI_nat _ 0
    have e2 := eqD_str (sh (.int (1 + (j : Int)))) (sh (.int (1 + (j : Int)))) tj.k tj.k
    simp only [beq_self_eq_true] at e2
    generalize (j :: r).map (fun j : Nat => D.int (1 + (j : Int))) = l at e0 h0
    simp -dsimp only [st14, E_const, E_glob, E_var, E_mov, E_op, E_isn, E_neg, E_notE, E_chain, E_andE, E_orE, E_ite, E_tup, E_lst, E_idx, E_slc, E_cb, E_call, E_callK, E_rng2, rngK_t, rngK_f, E_frz, Es_nil, Es_peek, Es_peekF, Es_star, Es_const, Es_glob, Es_var, Es_mov, Es_op, Es_isn, Es_neg, Es_notE, Es_chain, Es_andE, Es_orE, Es_ite, Es_tup, Es_lst, Es_idx, Es_slc, Es_cb, Es_call, Es_callK, Es_rng, Es_frz, Es_lc, Eb_nil, Eb_one, Ei_nil, Ei_cons, It_seq, It_range, It_enum, It_zip, S_ex, S_asg, S_par, S_seti, S_app, S_ext, S_aug, S_augi, S_ret, S_ifs, S_for_, S_while_, S_never, Ss_nil, Ss_cons, getE_zero, getE_succ, ↓bind_rb, ↓ofR_rb, ↓rbk, ↓ork, rbk, ork, Bool.false_eq_true, if_false, oo_some, ob_some, om_some, getAll, OV.get, OV.refs, nodupN, putBack, set_zero, set_succ, List.set_cons_zero, List.set_cons_succ, bindT, bindTs, op2, List.contains_nil, List.contains_cons, Nat.reduceBEq, Bool.or_false, Bool.or_self, Bool.not_false, Bool.not_true, Bool.and_true, Bool.true_and, Bool.and_self, List.length_cons, List.length_nil, if_true, List.cons_append, List.nil_append, reduceIte, Nat.reduceLT, Nat.reduceAdd, prD, isD_tt, isD_ti, isD_lt, isD_li, isD_nt, isD_ni, isD_nb, isD_ii, isD_ib, isD_it, isD_bi, isD_bb, isD_bt, sz_0, sz_1, sz_2, sz_3, sz_4, sz_5, sz_6, sz_7, sz_8, sz_9, sz_10, sz_11, sz_12, sz_13, sz_14, sz_15, sz_16, sz_17, sz_18, sz_19, sz_20, hf, D.own, hof, hpm, c15, tj.r, e0, idxD, h0, itemD, e2]
end LW
end

section
set_option linter.all false
set_option maxRecDepth 100000
set_option maxHeartbeats 1000000
namespace LW
open Mi
theorem right_eq : b__law_right = [st1, st2, st3, st4, st5, st6, st7, st8, st9, st10, st11, st12, st13, st14] := rfl
theorem seq_nx {Φ : Fns} {lk : List Nat} {s : IS} {r : List IS} {ρ ρ1 : Env} (h : exS Φ lk s ρ = .nx ρ1) : exSs Φ lk (s :: r) ρ = exSs Φ lk r ρ1 := by
  rw [exSs, h]
theorem seq_ret {Φ : Fns} {lk : List Nat} {s : IS} {r : List IS} {ρ ρ1 : Env} {d : D} (h : exS Φ lk s ρ = .ret d ρ1) : exSs Φ lk (s :: r) ρ = .ret d ρ1 := by
  rw [exSs, h]
theorem right_b (Φ : Fns) (h17 : H17 Φ) (h18 : H18 Φ) (h20 : H20 Φ) (h21 : H21 Φ) (h9 : H9 Φ) (h10 : H10 Φ) (h12 : H12 Φ) (h14 : H14 Φ) (h15 : H15 Φ) (n : Nat) (p : D) (hp : Pot n p) (hn : n ≤ 100000) :
    ∃ p' r, Pot (n + 40) p' ∧ exSs Φ [0] b__law_right [some p, none, none, none, none, none, none, none, none, none, none, none, none, none, none, none, none, none] = .ret (.bl true) (some p' :: r) := by
  obtain ⟨F, w, p1, h, w1, w2, hp1, e1⟩ := draw Φ h17 h18 n p hp (by omega)
  have w2' : w ≤ 20 := by omega
  have hL := isL_Lf F w h.1
  have hm := m_le F w _ h w1 hL
  generalize Lf F w = m at hL hm
  obtain ⟨o4, e4⟩ := s4 Φ p1 F w m h hm (some (.lst true ((outs w F (m.toNat + 1)).map D.int)))
  obtain ⟨T, hT, c9⟩ := h9 F w m h w1 w2' hL
  obtain ⟨b, rfl, hb, sb, hs⟩ := told_facts F w m T h hm hT
  have smm : smallP (D.int m).pd = true := by simp only [D.pd, smallP, decide_eq_true_eq]; omega
  have gT := good_two F w m _ _ hm (pl_i m) hb smm sb
  obtain ⟨o8, e8⟩ := s8 Φ h10 p1 F w m b hb sb h w1 w2' hm hL (some (.tup [.int m, b])) (some (.lst true ((outs w F (m.toNat + 1)).map D.int))) (some (.lst o4 ((needI F w F.length).map D.int)))
  obtain ⟨o9, p2, hp2, e9⟩ := s9 Φ h12 h17 _ p1 hp1 (by omega) F w m h w1 w2' hm hL (some (.lst true ((FS F w m).map D.str))) (some (.tup [.int m, b])) (some (.lst true (vals m (F.length : Int) b))) o8 (some (.lst o4 ((needI F w F.length).map D.int)))
  obtain ⟨t, p3, hp3, t1, t2, e12⟩ := s12 Φ h17 _ p2 hp2 (by omega) [some (.tup ((F.zipIdx 0).map fun p => .int (aloneN w p))), none, some (Fl F), some (.int w), some (.lst true ((outs w F (m.toNat + 1)).map D.int)), some (.lst o4 ((needI F w F.length).map D.int)), none, none, none, none, none] (some (.int m)) (some (.lst true ((FS F w m).map D.str))) (some (.tup [.int m, b])) (some (.lst true (vals m (F.length : Int) b))) o8 o9
  refine ⟨p3, [some (.int m), some (.lst true ((FS F w m).map D.str)), some (.tup [.int m, b]), some (.lst true (vals m (F.length : Int) b)), o8, some (.int t), some (.tup ((F.zipIdx 0).map fun p => .int (aloneN w p))), some (.lst true ((fineW F t).map fun j : Nat => D.int (1 + (j : Int)))), some (Fl F), some (.int w), some (.lst true ((outs w F (m.toNat + 1)).map D.int)), some (.lst o4 ((needI F w F.length).map D.int)), none, none, none, none, none], hp3.mono (by omega), ?_⟩
  · rw [right_eq, seq_nx e1, seq_nx (s2 Φ h20 h21 p1 F w m h w1 w2' hL), seq_nx (s3 Φ p1 F w m hm.1 _), seq_nx e4, seq_nx (s5 Φ p1 F w m _ c9 _ _ _), seq_nx (s6 Φ p1 F w m _ o4 h hm hL gT hs _), seq_nx (s7 Φ p1 F w m b hb _ _ _), seq_nx e8, seq_nx e9,
      seq_nx (s10 Φ h20 p2 F w m h w1 w2' _ _ _ _ _ _ _), seq_nx (s11 Φ h14 p2 F w m h w1 w2' _ _ _ _ _ _ _), seq_nx e12, seq_nx (s13 Φ h20 p3 F w m t h _ _ _ _ _ _ _), seq_ret (s14 Φ h15 p3 F w m t h t1 (by omega) _ _ _ _ _ _ _)]
theorem right_ok (k n : Nat) (p : D) (hp : Pot n p) (hn : n ≤ 100000) : ∃ p', Pot (n + 40) p' ∧ runN PQ (k + 10) 22 [p] = .ok (.bl true) [p'] := by
  obtain ⟨p', r, hp', e⟩ := right_b (runN PQ (k + 9)) (fun n d u h1 h2 h3 h4 => take_ok (k + 8) n d u h1 h2 h3 h4) (fun n d xs h1 h2 h3 h4 h5 => of_ok (k + 7) n d xs h1 h2 h3 h4 h5)
    (fun G w L a1 a2 a3 a4 a5 a6 => run_ok (k + 8) G w L a1 a2 a3 a4 a5 a6) (fun G w a1 a2 a3 => bounds_ok (k + 8) G w a1 a2 a3)
    (fun F w m a1 a2 a3 a4 => by
      rcases told_ok (k + 3) F w m a1 a2 a3 a4 with ⟨h1, h2⟩ | ⟨h1, j, h2, h3, h4⟩
      · exact ⟨_, .zero h1, h2⟩
      · exact ⟨_, .pos j h1 h2 h3, h4⟩)
    (fun F w m v a1 a2 a3 a4 a5 => shows_ok (k + 3) F w m v a1 a2 a3 a4 a5)
    (fun F w t a1 a2 a3 a4 => by
      obtain ⟨b1, b2⟩ := bnd_min w (by omega) F a1.nn t
      exact out_ok (k + 3) F w (t : Int) _ a1 a2 a3 (by omega) (by omega) b1 b2)
    (fun F w a1 a2 a3 => alone_ok (k + 3) F w a1 a2 a3) (fun F t a1 a2 a3 => widest_ok (k + 4) F t a1 a2 a3) n p hp hn
  exact ⟨p', hp', run_ret (lk := [0]) (ρ0 := [some p, none, none, none, none, none, none, none, none, none, none, none, none, none, none, none, none, none]) rfl rfl rfl rfl e rfl⟩
def H22 (Φ : Fns) : Prop := ∀ (n : Nat) (p : D), Pot n p → n ≤ 100000 → ∃ p', Pot (n + 40) p' ∧ Φ 22 [p] = .ok (.bl true) [p']
def lbody : List IS := [.asg (.slot 2) (.call 16 [.peek 0, .peek 1]), .ifs (.notE (.cb .all [.lc [3] (.slot 3) (.range [.const (.int 3)]) [] (.frz (.call 22 [.peek 2]))])) [.ret (.const (.bl false))] []]
theorem law_body (Φ : Fns) (h22 : H22 Φ) (s d : D) (j : Int) (hd : Pot 0 d) (c16 : Φ 16 [s, .int j] = .ok d [s, .int j]) (o : Option D) : ∃ d', exSs Φ [0] lbody [some s, some (.int j), o, none] = .nx [some s, some (.int j), some d', none] := by
  obtain ⟨es, ρ6, e, ⟨p', ⟨o3, rfl⟩, hp'⟩, hl, hq⟩ := ev_lc_st Φ [3] (.slot 3) (.range [.const (.int 3)]) (.frz (.call 22 [.peek 2])) [some s, some (.int j), some d, none] [some s, some (.int j), some d, none] [.int 0, .int 1, .int 2]
    (fun i ρ => ∃ p', (∃ o, ρ = [some s, some (.int j), some p', o]) ∧ Pot (40 * i) p') (fun e => e = .bl true)
    (by
      have hr := rangeOf_nat 3 (by unfold SZ; omega)
      have hr' : rangeOf [.int 3] = some [.int 0, .int 1, .int 2] := hr
      simp -dsimp only [E_const, E_glob, E_var, E_mov, E_op, E_isn, E_neg, E_notE, E_chain, E_andE, E_orE, E_ite, E_tup, E_lst, E_idx, E_slc, E_cb, E_call, E_callK, E_rng2, rngK_t, rngK_f, E_frz, Es_nil, Es_peek, Es_peekF, Es_star, Es_const, Es_glob, Es_var, Es_mov, Es_op, Es_isn, Es_neg, Es_notE, Es_chain, Es_andE, Es_orE, Es_ite, Es_tup, Es_lst, Es_idx, Es_slc, Es_cb, Es_call, Es_callK, Es_rng, Es_frz, Es_lc, Eb_nil, Eb_one, Ei_nil, Ei_cons, It_seq, It_range, It_enum, It_zip, S_ex, S_asg, S_par, S_seti, S_app, S_ext, S_aug, S_augi, S_ret, S_ifs, S_for_, S_while_, S_never, Ss_nil, Ss_cons, getE_zero, getE_succ, ↓bind_rb, ↓ofR_rb, ↓rbk, ↓ork, rbk, ork, Bool.false_eq_true, if_false, oo_some, ob_some, om_some, getAll, OV.get, OV.refs, nodupN, putBack, set_zero, set_succ, List.set_cons_zero, List.set_cons_succ, bindT, bindTs, op2, List.contains_nil, List.contains_cons, Nat.reduceBEq, Bool.or_false, Bool.or_self, Bool.not_false, Bool.not_true, Bool.and_true, Bool.true_and, Bool.and_self, List.length_cons, List.length_nil, if_true, List.cons_append, List.nil_append, reduceIte, Nat.reduceLT, Nat.reduceAdd, prD, isD_tt, isD_ti, isD_lt, isD_li, isD_nt, isD_ni, isD_nb, isD_ii, isD_ib, isD_it, isD_bi, isD_bb, isD_bt, sz_0, sz_1, sz_2, sz_3, sz_4, sz_5, sz_6, sz_7, sz_8, sz_9, sz_10, sz_11, sz_12, sz_13, sz_14, sz_15, sz_16, sz_17, sz_18, sz_19, sz_20, hr']) (by simp [sz_3]) rfl ⟨d, ⟨none, rfl⟩, hd⟩
    (by
      rintro x hx i ρ2 hi ⟨p2, ⟨o, rfl⟩, hp2⟩
      simp at hi
      obtain ⟨p3, hp3, c22⟩ := h22 _ p2 hp2 (by omega)
      refine ⟨[some s, some (.int j), some p2, some x], .bl true, [some s, some (.int j), some p3, some x], rfl, ?_, ⟨p3, ⟨some x, rfl⟩, hp3.mono (by omega)⟩, rfl⟩
      simp -dsimp only [E_const, E_glob, E_var, E_mov, E_op, E_isn, E_neg, E_notE, E_chain, E_andE, E_orE, E_ite, E_tup, E_lst, E_idx, E_slc, E_cb, E_call, E_callK, E_rng2, rngK_t, rngK_f, E_frz, Es_nil, Es_peek, Es_peekF, Es_star, Es_const, Es_glob, Es_var, Es_mov, Es_op, Es_isn, Es_neg, Es_notE, Es_chain, Es_andE, Es_orE, Es_ite, Es_tup, Es_lst, Es_idx, Es_slc, Es_cb, Es_call, Es_callK, Es_rng, Es_frz, Es_lc, Eb_nil, Eb_one, Ei_nil, Ei_cons, It_seq, It_range, It_enum, It_zip, S_ex, S_asg, S_par, S_seti, S_app, S_ext, S_aug, S_augi, S_ret, S_ifs, S_for_, S_while_, S_never, Ss_nil, Ss_cons, getE_zero, getE_succ, ↓bind_rb, ↓ofR_rb, ↓rbk, ↓ork, rbk, ork, Bool.false_eq_true, if_false, oo_some, ob_some, om_some, getAll, OV.get, OV.refs, nodupN, putBack, set_zero, set_succ, List.set_cons_zero, List.set_cons_succ, bindT, bindTs, op2, List.contains_nil, List.contains_cons, Nat.reduceBEq, Bool.or_false, Bool.or_self, Bool.not_false, Bool.not_true, Bool.and_true, Bool.true_and, Bool.and_self, List.length_cons, List.length_nil, if_true, List.cons_append, List.nil_append, reduceIte, Nat.reduceLT, Nat.reduceAdd, prD, isD_tt, isD_ti, isD_lt, isD_li, isD_nt, isD_ni, isD_nb, isD_ii, isD_ib, isD_it, isD_bi, isD_bb, isD_bt, sz_0, sz_1, sz_2, sz_3, sz_4, sz_5, sz_6, sz_7, sz_8, sz_9, sz_10, sz_11, sz_12, sz_13, sz_14, sz_15, sz_16, sz_17, sz_18, sz_19, sz_20, c22, D.frz])
  have hes : es = [.bl true, .bl true, .bl true] := by
    match es, hl, hq with
    | [a, b, c], _, hq => rw [hq a (by simp), hq b (by simp), hq c (by simp)]
  subst hes
  have hall : allD (.lst true [.bl true, .bl true, .bl true]) = some (.bl true) := rfl
  have hback : backE [some s, some (.int j), some d, none] [3] [some s, some (.int j), some p', o3] = [some s, some (.int j), some p', none] := rfl
  rw [hback] at e
  exact ⟨p', by simp -dsimp only [lbody, E_const, E_glob, E_var, E_mov, E_op, E_isn, E_neg, E_notE, E_chain, E_andE, E_orE, E_ite, E_tup, E_lst, E_idx, E_slc, E_cb, E_call, E_callK, E_rng2, rngK_t, rngK_f, E_frz, Es_nil, Es_peek, Es_peekF, Es_star, Es_const, Es_glob, Es_var, Es_mov, Es_op, Es_isn, Es_neg, Es_notE, Es_chain, Es_andE, Es_orE, Es_ite, Es_tup, Es_lst, Es_idx, Es_slc, Es_cb, Es_call, Es_callK, Es_rng, Es_frz, Es_lc, Eb_nil, Eb_one, Ei_nil, Ei_cons, It_seq, It_range, It_enum, It_zip, S_ex, S_asg, S_par, S_seti, S_app, S_ext, S_aug, S_augi, S_ret, S_ifs, S_for_, S_while_, S_never, Ss_nil, Ss_cons, getE_zero, getE_succ, ↓bind_rb, ↓ofR_rb, ↓rbk, ↓ork, rbk, ork, Bool.false_eq_true, if_false, oo_some, ob_some, om_some, getAll, OV.get, OV.refs, nodupN, putBack, set_zero, set_succ, List.set_cons_zero, List.set_cons_succ, bindT, bindTs, op2, List.contains_nil, List.contains_cons, Nat.reduceBEq, Bool.or_false, Bool.or_self, Bool.not_false, Bool.not_true, Bool.and_true, Bool.true_and, Bool.and_self, List.length_cons, List.length_nil, if_true, List.cons_append, List.nil_append, reduceIte, Nat.reduceLT, Nat.reduceAdd, prD, isD_tt, isD_ti, isD_lt, isD_li, isD_nt, isD_ni, isD_nb, isD_ii, isD_ib, isD_it, isD_bi, isD_bb, isD_bt, sz_0, sz_1, sz_2, sz_3, sz_4, sz_5, sz_6, sz_7, sz_8, sz_9, sz_10, sz_11, sz_12, sz_13, sz_14, sz_15, sz_16, sz_17, sz_18, sz_19, sz_20, c16, ↓e, hall]⟩
theorem law_b (Φ : Fns) (h22 : H22 Φ) (s : D) (n : Nat) (hn : n ≤ 3) (c19 : Φ 19 [s, .int 3] = .ok (.lst true ((List.range n).map fun j : Nat => D.int (j : Int))) [s, .int 3])
    (c16 : ∀ j : Nat, j < 3 → ∃ d, Φ 16 [s, .int (j : Int)] = .ok d [s, .int (j : Int)] ∧ Pot 0 d) : ∃ r, exSs Φ [0] b_law [some s, none, none, none] = .ret (.bl true) (some s :: r) := by
  obtain ⟨ρ', e, o1, o2, rfl⟩ := forL_inv0 [0] (.slot 1) (exSs Φ [0] lbody) (fun _ ρ => ∃ o1 o2, ρ = [some s, o1, o2, none]) ((List.range n).map fun j : Nat => D.int (j : Int)) n (by simp) [some s, none, none, none] ⟨none, none, rfl⟩
    (by
      rintro j hj ρ ⟨o1, o2, rfl⟩
      have hj' : j < n := by simpa using hj
      obtain ⟨d, c, hd⟩ := c16 j (by omega)
      obtain ⟨d', e⟩ := law_body Φ h22 s d (j : Int) hd c o2
      exact ⟨[some s, some (.int (j : Int)), o2, none], _, by simp [E_const, E_glob, E_var, E_mov, E_op, E_isn, E_neg, E_notE, E_chain, E_andE, E_orE, E_ite, E_tup, E_lst, E_idx, E_slc, E_cb, E_call, E_callK, E_rng2, rngK_t, rngK_f, E_frz, Es_nil, Es_peek, Es_peekF, Es_star, Es_const, Es_glob, Es_var, Es_mov, Es_op, Es_isn, Es_neg, Es_notE, Es_chain, Es_andE, Es_orE, Es_ite, Es_tup, Es_lst, Es_idx, Es_slc, Es_cb, Es_call, Es_callK, Es_rng, Es_frz, Es_lc, Eb_nil, Eb_one, Ei_nil, Ei_cons, It_seq, It_range, It_enum, It_zip, S_ex, S_asg, S_par, S_seti, S_app, S_ext, S_aug, S_augi, S_ret, S_ifs, S_for_, S_while_, S_never, Ss_nil, Ss_cons, getE_zero, getE_succ, ↓bind_rb, ↓ofR_rb, ↓rbk, ↓ork, rbk, ork, Bool.false_eq_true, if_false, oo_some, ob_some, om_some, getAll, OV.get, OV.refs, nodupN, putBack, set_zero, set_succ, List.set_cons_zero, List.set_cons_succ, bindT, bindTs, op2, List.contains_nil, List.contains_cons, Nat.reduceBEq, Bool.or_false, Bool.or_self, Bool.not_false, Bool.not_true, Bool.and_true, Bool.true_and, Bool.and_self, List.length_cons, List.length_nil, if_true, List.cons_append, List.nil_append, reduceIte, Nat.reduceLT, Nat.reduceAdd, prD, isD_tt, isD_ti, isD_lt, isD_li, isD_nt, isD_ni, isD_nb, isD_ii, isD_ib, isD_it, isD_bi, isD_bb, isD_bt, sz_0, sz_1, sz_2, sz_3, sz_4, sz_5, sz_6, sz_7, sz_8, sz_9, sz_10, sz_11, sz_12, sz_13, sz_14, sz_15, sz_16, sz_17, sz_18, sz_19, sz_20], e, ⟨_, _, rfl⟩⟩)
  rw [lbody] at e
  have hfz : frzL ((List.range n).map fun j : Nat => D.int (j : Int)) = (List.range n).map fun j : Nat => D.int (j : Int) := frzL_map _ _ fun _ _ => rfl
  exact ⟨[o1, o2, none], by simp -dsimp only [b_law, E_const, E_glob, E_var, E_mov, E_op, E_isn, E_neg, E_notE, E_chain, E_andE, E_orE, E_ite, E_tup, E_lst, E_idx, E_slc, E_cb, E_call, E_callK, E_rng2, rngK_t, rngK_f, E_frz, Es_nil, Es_peek, Es_peekF, Es_star, Es_const, Es_glob, Es_var, Es_mov, Es_op, Es_isn, Es_neg, Es_notE, Es_chain, Es_andE, Es_orE, Es_ite, Es_tup, Es_lst, Es_idx, Es_slc, Es_cb, Es_call, Es_callK, Es_rng, Es_frz, Es_lc, Eb_nil, Eb_one, Ei_nil, Ei_cons, It_seq, It_range, It_enum, It_zip, S_ex, S_asg, S_par, S_seti, S_app, S_ext, S_aug, S_augi, S_ret, S_ifs, S_for_, S_while_, S_never, Ss_nil, Ss_cons, getE_zero, getE_succ, ↓bind_rb, ↓ofR_rb, ↓rbk, ↓ork, rbk, ork, Bool.false_eq_true, if_false, oo_some, ob_some, om_some, getAll, OV.get, OV.refs, nodupN, putBack, set_zero, set_succ, List.set_cons_zero, List.set_cons_succ, bindT, bindTs, op2, List.contains_nil, List.contains_cons, Nat.reduceBEq, Bool.or_false, Bool.or_self, Bool.not_false, Bool.not_true, Bool.and_true, Bool.true_and, Bool.and_self, List.length_cons, List.length_nil, if_true, List.cons_append, List.nil_append, reduceIte, Nat.reduceLT, Nat.reduceAdd, prD, isD_tt, isD_ti, isD_lt, isD_li, isD_nt, isD_ni, isD_nb, isD_ii, isD_ib, isD_it, isD_bi, isD_bb, isD_bt, sz_0, sz_1, sz_2, sz_3, sz_4, sz_5, sz_6, sz_7, sz_8, sz_9, sz_10, sz_11, sz_12, sz_13, sz_14, sz_15, sz_16, sz_17, sz_18, sz_19, sz_20, c19, itemsAll, itemsOf, seqOf, hfz, seqG, e]⟩
theorem plainQ (ns : List Int) : ∃ as, runN PQ 20 23 [.scr (ns.map D.int)] = .ok (.bl true) as := by
  obtain ⟨n, hn, c19⟩ := cells_ok 18 ns
  obtain ⟨r, e⟩ := law_b (runN PQ 19) (fun m p h1 h2 => right_ok 9 m p h1 h2) (.scr (ns.map D.int)) n hn c19 (fun j hj => by
    obtain ⟨d, h1, h2⟩ := pot_ok 18 ns j (by omega)
    exact ⟨d, h1, h2⟩)
  exact ⟨_, run_ret (lk := [0]) (ρ0 := [some (.scr (ns.map D.int)), none, none, none]) rfl rfl rfl rfl e rfl⟩
end LW
end

section
set_option Elab.async false
set_option linter.all false
set_option maxRecDepth 100000
set_option maxHeartbeats 0
namespace LW
open PySem PySem.Spec PyProof.Rows L2 Mi
def top (i : Nat) : Stmt := PySem.Challenge.pw_outandshut_k08_whole_floors_down_one_sta.main.body.getD i (.Pass ⟨0, 0, 0, 0⟩)
def f_is_integer : Fi := ⟨"is_integer", ["value"], ["value"], defScope (top 6), defArgs (top 6), defBody (top 6), ⟨1, 1, [], b_is_integer⟩⟩
def f_is_between : Fi := ⟨"is_between", ["value", "low", "high"], ["value", "low", "high"], defScope (top 7), defArgs (top 7), defBody (top 7), ⟨3, 3, [], b_is_between⟩⟩
def f_are_between : Fi := ⟨"are_between", ["value", "low", "high"], ["value", "low", "high", "one"], defScope (top 8), defArgs (top 8), defBody (top 8), ⟨3, 4, [], b_are_between⟩⟩
def f_check_floors : Fi := ⟨"check_floors", ["floors"], ["floors"], defScope (top 14), defArgs (top 14), defBody (top 14), ⟨1, 1, [], b_check_floors⟩⟩
def f_check_stair : Fi := ⟨"check_stair", ["floors", "wide"], ["floors", "wide"], defScope (top 15), defArgs (top 15), defBody (top 15), ⟨2, 2, [], b_check_stair⟩⟩
def f_check_after : Fi := ⟨"check_after", ["after"], ["after"], defScope (top 16), defArgs (top 16), defBody (top 16), ⟨1, 1, [], b_check_after⟩⟩
def f_rounded_up : Fi := ⟨"rounded_up", ["number", "wide"], ["number", "wide"], defScope (top 17), defArgs (top 17), defBody (top 17), ⟨2, 2, [], b_rounded_up⟩⟩
def f_needs_of : Fi := ⟨"needs_of", ["floors", "wide"], ["floors", "wide", "found", "below", "number"], defScope (top 18), defArgs (top 18), defBody (top 18), ⟨2, 5, [], b_needs_of⟩⟩
def f_least_of : Fi := ⟨"least_of", ["floors", "wide"], ["floors", "wide", "ticks", "floor"], defScope (top 19), defArgs (top 19), defBody (top 19), ⟨2, 4, [], b_least_of⟩⟩
def f_down_told : Fi := ⟨"down_told", ["floors", "wide"], ["floors", "wide", "least", "ticks", "floor"], defScope (top 20), defArgs (top 20), defBody (top 20), ⟨2, 5, [], b_down_told⟩⟩
def f_shows_down : Fi := ⟨"shows_down", ["floors", "wide", "value"], ["floors", "wide", "value", "least"], defScope (top 21), defArgs (top 21), defBody (top 21), ⟨3, 4, [], b_shows_down⟩⟩
def f_number_after : Fi := ⟨"number_after", ["floors", "wide", "after"], ["floors", "wide", "after", "bounds", "below"], defScope (top 22), defArgs (top 22), defBody (top 22), ⟨3, 5, [], b_number_after⟩⟩
def f_out_after : Fi := ⟨"out_after", ["floors", "wide", "after"], ["floors", "wide", "after"], defScope (top 23), defArgs (top 23), defBody (top 23), ⟨3, 3, [], b_out_after⟩⟩
def f_alone_by : Fi := ⟨"alone_by", ["floors", "wide"], ["floors", "wide", "below", "number"], defScope (top 24), defArgs (top 24), defBody (top 24), ⟨2, 4, [], b_alone_by⟩⟩
def f_alone_out : Fi := ⟨"alone_out", ["floors", "wide"], ["floors", "wide"], defScope (top 25), defArgs (top 25), defBody (top 25), ⟨2, 2, [], b_alone_out⟩⟩
def f_widest_need : Fi := ⟨"widest_need", ["floors", "after"], ["floors", "after", "fine", "wide"], defScope (top 26), defArgs (top 26), defBody (top 26), ⟨2, 4, [], b_widest_need⟩⟩
def f__law_pot : Fi := ⟨"_law_pot", ["script", "place"], ["script", "place", "cell", "own", "small"], defScope (top 28), defArgs (top 28), defBody (top 28), ⟨2, 5, [], b__law_pot⟩⟩
def f__law_take : Fi := ⟨"_law_take", ["pot", "upto"], ["pot", "upto", "prime", "blend", "digit"], defScope (top 29), defArgs (top 29), defBody (top 29), ⟨2, 5, [], b__law_take⟩⟩
def f__law_of : Fi := ⟨"_law_of", ["pot", "some"], ["pot", "some"], defScope (top 30), defArgs (top 30), defBody (top 30), ⟨2, 2, [], b__law_of⟩⟩
def f__law_cells : Fi := ⟨"_law_cells", ["script", "limit"], ["script", "limit"], defScope (top 31), defArgs (top 31), defBody (top 31), ⟨2, 2, [], b__law_cells⟩⟩
def f__law_run : Fi := ⟨"_law_run", ["floors", "wide"], ["floors", "wide", "stood", "out", "found", "gone", "here", "less", "more"], defScope (top 32), defArgs (top 32), defBody (top 32), ⟨2, 9, [], b__law_run⟩⟩
def f__law_bounds : Fi := ⟨"_law_bounds", ["floors", "wide"], ["floors", "wide", "found", "below", "number"], defScope (top 33), defArgs (top 33), defBody (top 33), ⟨2, 5, [], b__law_bounds⟩⟩
def f__law_right : Fi := ⟨"_law_right", ["pot"], ["pot", "least", "fine", "told", "some", "value", "after", "alone", "enough", "floors", "wide", "run", "bounds", "one", "at", "floor", "ticks", "number"], defScope (top 34), defArgs (top 34), defBody (top 34), ⟨1, 18, [], b__law_right⟩⟩
def f_law : Fi := ⟨"law", ["script"], ["script", "place", "pot", "lap"], defScope (top 35), defArgs (top 35), defBody (top 35), ⟨1, 4, [], b_law⟩⟩
def fs : List Fi := [f_is_integer, f_is_between, f_are_between, f_check_floors, f_check_stair, f_check_after, f_rounded_up, f_needs_of, f_least_of, f_down_told, f_shows_down, f_number_after, f_out_after, f_alone_by, f_alone_out, f_widest_need, f__law_pot, f__law_take, f__law_of, f__law_cells, f__law_run, f__law_bounds, f__law_right, f_law]
def g : Gx := ⟨fs.map fun f => (f.name, f.ps), [(9, ["wide", "floors"], [1, 0]), (10, ["value", "wide", "floors"], [2, 1, 0]), (12, ["after", "wide", "floors"], [2, 1, 0]), (14, ["wide", "floors"], [1, 0]), (15, ["after", "floors"], [1, 0])], [("MOST_AFTER", D.int 400), ("MOST_FLOORS", D.int 5), ("MOST_PEOPLE", D.int 50), ("MOST_WIDE", D.int 20)], ["abs", "all", "bool", "enumerate", "int", "isinstance", "len", "list", "max", "min", "range", "repr", "sum", "tuple", "zip"]⟩
def PP : List Fd := fs.map (·.fd)
def depth : Nat := 20
theorem plain : ∀ ns : List Int, ns.length ≤ 63 → ∃ as, runN (fs.map (·.fd)) depth 23 [.scr (ns.map D.int)] = .ok (.bl true) as := fun ns _ => plainQ ns
theorem bp_is_integer : PosOk f_is_integer := by
  intro kV doc pm cdv ct an us h
  match us, h with
  | [a0], _ => kernel_rfl
theorem bp_is_between : PosOk f_is_between := by
  intro kV doc pm cdv ct an us h
  match us, h with
  | [a0, a1, a2], _ => kernel_rfl
theorem bp_are_between : PosOk f_are_between := by
  intro kV doc pm cdv ct an us h
  match us, h with
  | [a0, a1, a2], _ => kernel_rfl
theorem bp_check_floors : PosOk f_check_floors := by
  intro kV doc pm cdv ct an us h
  match us, h with
  | [a0], _ => kernel_rfl
theorem bp_check_stair : PosOk f_check_stair := by
  intro kV doc pm cdv ct an us h
  match us, h with
  | [a0, a1], _ => kernel_rfl
theorem bp_check_after : PosOk f_check_after := by
  intro kV doc pm cdv ct an us h
  match us, h with
  | [a0], _ => kernel_rfl
theorem bp_rounded_up : PosOk f_rounded_up := by
  intro kV doc pm cdv ct an us h
  match us, h with
  | [a0, a1], _ => kernel_rfl
theorem bp_needs_of : PosOk f_needs_of := by
  intro kV doc pm cdv ct an us h
  match us, h with
  | [a0, a1], _ => kernel_rfl
theorem bp_least_of : PosOk f_least_of := by
  intro kV doc pm cdv ct an us h
  match us, h with
  | [a0, a1], _ => kernel_rfl
theorem bp_down_told : PosOk f_down_told := by
  intro kV doc pm cdv ct an us h
  match us, h with
  | [a0, a1], _ => kernel_rfl
theorem bp_shows_down : PosOk f_shows_down := by
  intro kV doc pm cdv ct an us h
  match us, h with
  | [a0, a1, a2], _ => kernel_rfl
theorem bp_number_after : PosOk f_number_after := by
  intro kV doc pm cdv ct an us h
  match us, h with
  | [a0, a1, a2], _ => kernel_rfl
theorem bp_out_after : PosOk f_out_after := by
  intro kV doc pm cdv ct an us h
  match us, h with
  | [a0, a1, a2], _ => kernel_rfl
theorem bp_alone_by : PosOk f_alone_by := by
  intro kV doc pm cdv ct an us h
  match us, h with
  | [a0, a1], _ => kernel_rfl
theorem bp_alone_out : PosOk f_alone_out := by
  intro kV doc pm cdv ct an us h
  match us, h with
  | [a0, a1], _ => kernel_rfl
theorem bp_widest_need : PosOk f_widest_need := by
  intro kV doc pm cdv ct an us h
  match us, h with
  | [a0, a1], _ => kernel_rfl
theorem bp__law_pot : PosOk f__law_pot := by
  intro kV doc pm cdv ct an us h
  match us, h with
  | [a0, a1], _ => kernel_rfl
theorem bp__law_take : PosOk f__law_take := by
  intro kV doc pm cdv ct an us h
  match us, h with
  | [a0, a1], _ => kernel_rfl
theorem bp__law_of : PosOk f__law_of := by
  intro kV doc pm cdv ct an us h
  match us, h with
  | [a0, a1], _ => kernel_rfl
theorem bp__law_cells : PosOk f__law_cells := by
  intro kV doc pm cdv ct an us h
  match us, h with
  | [a0, a1], _ => kernel_rfl
theorem bp__law_run : PosOk f__law_run := by
  intro kV doc pm cdv ct an us h
  match us, h with
  | [a0, a1], _ => kernel_rfl
theorem bp__law_bounds : PosOk f__law_bounds := by
  intro kV doc pm cdv ct an us h
  match us, h with
  | [a0, a1], _ => kernel_rfl
theorem bp__law_right : PosOk f__law_right := by
  intro kV doc pm cdv ct an us h
  match us, h with
  | [a0], _ => kernel_rfl
theorem bp_law : PosOk f_law := by
  intro kV doc pm cdv ct an us h
  match us, h with
  | [a0], _ => kernel_rfl
theorem bk_0 : KwOk f_down_told ["wide", "floors"] [1, 0] := by
  intro kV doc pm cdv ct an us h
  match us, h with
  | [a0, a1], _ => kernel_rfl
theorem bk_1 : KwOk f_shows_down ["value", "wide", "floors"] [2, 1, 0] := by
  intro kV doc pm cdv ct an us h
  match us, h with
  | [a0, a1, a2], _ => kernel_rfl
theorem bk_2 : KwOk f_out_after ["after", "wide", "floors"] [2, 1, 0] := by
  intro kV doc pm cdv ct an us h
  match us, h with
  | [a0, a1, a2], _ => kernel_rfl
theorem bk_3 : KwOk f_alone_out ["wide", "floors"] [1, 0] := by
  intro kV doc pm cdv ct an us h
  match us, h with
  | [a0, a1], _ => kernel_rfl
theorem bk_4 : KwOk f_widest_need ["after", "floors"] [1, 0] := by
  intro kV doc pm cdv ct an us h
  match us, h with
  | [a0, a1], _ => kernel_rfl
theorem allp : AllP fs := ⟨bp_is_integer, bp_is_between, bp_are_between, bp_check_floors, bp_check_stair, bp_check_after, bp_rounded_up, bp_needs_of, bp_least_of, bp_down_told, bp_shows_down, bp_number_after, bp_out_after, bp_alone_by, bp_alone_out, bp_widest_need, bp__law_pot, bp__law_take, bp__law_of, bp__law_cells, bp__law_run, bp__law_bounds, bp__law_right, bp_law, trivial⟩
theorem allk : AllK fs g.kws := ⟨⟨f_down_told, rfl, bk_0⟩, ⟨f_shows_down, rfl, bk_1⟩, ⟨f_out_after, rfl, bk_2⟩, ⟨f_alone_out, rfl, bk_3⟩, ⟨f_widest_need, rfl, bk_4⟩, trivial⟩
theorem okall : okAll g fs = true := by kernel_rfl
abbrev R : PySem.W.OpenRow := PySem.W.OpenLaw.row PySem.Challenge.rw_outandshut_k08_whole_floors_down_one_sta
def fn : List He.DefD := fs.map Fi.d
def fa : List He.Fa := faOf g fs
abbrev hk : PySem.W.Hook := He.hookD 4 fa fn
def ob (s : PySem.W.SharedT) : He.AlD := He.obsDG 4 fa fn (HandSHeadRun.getT s)
theorem ob_eq (s : PySem.W.SharedT) : ob s = hk.obs s.abs := He.obsDG_eq (HandSHeadRun.getT_eq s)
def nm0 : List Str := ["FireError", "BadAfter", "BadFloors", "BadWide", "is_integer", "is_between", "are_between", "MOST_WIDE", "MOST_PEOPLE", "MOST_FLOORS", "MOST_AFTER", "check_floors", "check_stair", "check_after", "rounded_up", "needs_of", "least_of", "down_told", "shows_down", "number_after", "out_after", "alone_by", "alone_out", "widest_need", "_law_pot", "_law_take", "_law_of", "_law_cells", "_law_run", "_law_bounds"]
def nm1 : List Str := ["_law_right"]
abbrev nms : List Str := nm0 ++ nm1
theorem run (w : World) : HandSHeadRun.RunEq R (PySem.W.view R.prog [35]) hk ob 20000 nms w := by
  intro os
  kernel_rfl
end LW
open PySem PySem.W PySem.Calls PyProof.Rows
theorem PySem.Challenge.cw_outandshut_k08_whole_floors_down_one_sta_holds : PySem.Challenge.rw_outandshut_k08_whole_floors_down_one_sta.Holds := by
  w_on; o_law
  refine HandSHeadRun.head_any (r := OpenLaw.row PySem.Challenge.rw_outandshut_k08_whole_floors_down_one_sta) (q := view (OpenLaw.row PySem.Challenge.rw_outandshut_k08_whole_floors_down_one_sta).prog [35]) (H := LW.hk) (ob := LW.ob) (M := 20000) (loose := LW.nms) (d := HandSHeadRun.topDef (OpenLaw.row PySem.Challenge.rw_outandshut_k08_whole_floors_down_one_sta).prog 35) (kwd := []) LW.ob_eq
    (by kernel_rfl) (fun s => by kernel_rfl) LW.run (by kernel_rfl) (by kernel_rfl) (by kernel_rfl) (by rfl) (by first | assumption | decide +kernel) (by decide +kernel) ⟨rfl, rfl, rfl, rfl, rfl, by decide +kernel⟩ ?hw ?hc
  case hw => w_witness2
  case hc => exact Mi.law_end (g := LW.g) (fs := LW.fs) (iL := 23) (f := LW.f_law) (k := LW.depth) rfl (by decide) rfl ⟨by decide, by decide, by decide⟩ LW.okall (by kernel_rfl) (Mi.bind_all LW.allp LW.allk) rfl rfl rfl LW.plain
end
