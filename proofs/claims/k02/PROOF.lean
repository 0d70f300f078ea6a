import PyProof.Rows.All
import Wide.All
import OpenK.AllK
import Wide.FinOn
import HandS.ForMost
import HandS.ForExc
import HandS.TupAny
import HandS.TupMul
import HandS.Deep
import HandS.IsInst
import HandS.Zip
import HandS.Style
import HandS.Flow
import HandS.DictComp
import HandS.SetFor
import HandS.ExcSuper
import HandS.Lambda
import KE.KExcIs
import HandS.Defaults
import HandS.Head2
import HandS.HeadEnd
import HandS.HeadHook2
import KE.GoesMore
import KE.KDflt
import KE.KExcSuper
import HandS.ExcInit
import HandS.ExcValue
import HandS.Star
import HandS.Conv
import PyProof.Rows.SeqMore
import PyProof.SumWalkG
import HandS.Strs
import HandS.More
import HandS.HeadHook1
import HandS.HeadHook4
import PyProof.StrLawsRepr
import KE.KIntText
import PyProof.Rows.StrDigitsNeg
import PyProof.Rows.StrIntSpec
import KE.KStateDown
import PySem.Challenge.RW_waitingpairs_k02_programs_that_are_none
set_option Elab.async false
set_option linter.all false
set_option maxRecDepth 100000
/-! WkA: the core language and what it computes. -/
namespace Wk
open PySem

/-! ### data -/
inductive D where
  | non | bl (b : Bool) | int (i : Int) | str (s : Str)
  | tup (ds : List D) | lst (ds : List D)
  | dct (kvs : List (Sum Int Str × D))
  | ins (c : Nat) (fs : List (Nat × D))
  /-- an exception: its class, its fields -/
  | exn (c : Nat) (fs : List (Nat × D))
  /-- the list that the law is given; nobody changes it -/
  | scr (ns : List Int)
/-- a value held: data, or a thing that may still change (its number in the store) -/
inductive Vl where
  | d (x : D) | ref (n : Nat)
inductive Cell where
  | lst (ds : List D) | ins (c : Nat) (fs : List (Nat × D)) | fz (x : D)
abbrev Store := List Cell
abbrev Env := List (Option Vl)
/-- an exception: its class, its fields -/
structure Exn where
  c : Nat
  fs : List (Nat × D)
inductive Res (α : Type) where
  | ok (a : α) (S : Store) | exc (x : Exn) (S : Store) | bad
def Res.bind {α β : Type} (r : Res α) (k : α → Store → Res β) : Res β := match r with
  | .ok a S => k a S
  | .exc x S => .exc x S
  | .bad => .bad
/-- an exception is no answer here -/
def Res.nox {α : Type} (r : Res α) : Res α := match r with
  | .ok a S => .ok a S
  | .exc _ _ => .bad
  | .bad => .bad
def ofO {α : Type} (o : Option α) (S : Store) : Res α := match o with
  | some a => .ok a S
  | none => .bad

/-! ### the core language -/
inductive Op where
  | add | sub | mul | mod | fdiv | pow
  deriving DecidableEq
inductive Co where
  | lt | le | gt | ge | eq | ne | isN | notN | isT | notT | in_ | notin
  deriving DecidableEq
/-- what a for walks -/
inductive ItK where
  | seq | rng1 | rng2 | zip | enum
  deriving DecidableEq
inductive Pt where
  | nm (i : Nat) | tup (is : List Nat)
/-- the built-in classes of data -/
inductive Ty where
  | non | bl | int | str | tup | lst | dct
  deriving DecidableEq
inductive TyR where
  | ty (t : Ty) | cls (c : Nat) | exc (c : Nat)
/-- built-in functions, types called -/
inductive Bi where
  | len | list | tuple | int | abs | min | max | all | any | sum | repr | bool | sortedSet | sortedKeys | range1 | tupleRange1 | listRange1 | listRange2
  deriving DecidableEq
/-- methods of built-in types -/
inductive Bm where
  | append | popAt | pop | insert | index | count
  deriving DecidableEq
inductive CE where
  | var (i : Nat)
  | cst (x : D)
  | glo (j : Nat)
  | live (e : CE)
  | bin (o : Op) (a b : CE)
  | neg (a : CE)
  | cmp (o : Co) (a b : CE)
  | chn (o p : Co) (a b c : CE)
  | land (a b : CE) | lor (a b : CE) | lnot (a : CE)
  | ite (c a b : CE)
  | tup (es : List CE) | lst (es : List CE)
  | tupS (es : List (Bool × CE)) | lstS (es : List (Bool × CE))
  | dct (kvs : List (Sum Int Str × CE))
  | ix (a i : CE)
  | cut (a : CE) (lo hi : Option CE)
  | fld (a : CE) (f : Nat)
  | isi (a : CE) (ts : List TyR)
  | call (f : Nat) (as : List CE) (ks : List (Nat × CE))
  | mk (c : Nat) (as : List CE) (ks : List (Nat × CE))
  | meth (o : CE) (m : Nat) (as : List CE) (ks : List (Nat × CE))
  | bi (b : Bi) (as : List CE)
  | bm (m : Bm) (o : CE) (as : List CE)
  | comp (own : List Nat) (k : ItK) (as : List CE) (p : Pt) (cond : Option CE) (elt : CE)
  | comp2 (own own1 : List Nat) (k : ItK) (as : List CE) (p : Pt) (cond : Option CE) (k1 : ItK) (as1 : List CE) (p1 : Pt) (cond1 : Option CE) (elt : CE)
  | heard (f : Nat) (body : CE)
  | ask
inductive CS where
  | expr (e : CE)
  | asg (p : Pt) (e : CE)
  | par (is : List Nat) (es : List CE)
  | aug (i : Nat) (o : Op) (e : CE)
  | setIx (o i e : CE)
  | setF (o : CE) (f : Nat) (e : CE)
  | iff (c : CE) (a b : List CS)
  | for_ (k : ItK) (as : List CE) (p : Pt) (body : List CS)
  | whl (c : CE) (body : List CS)
  | ret (e : CE) | retN
  | raise (c : Nat) (as : List CE)
  | try_ (body : List CS) (c : Nat) (slot : Nat) (suite : List CS)
  | brk | cnt | pass | never
structure FDef where
  pars : Nat
  slots : Nat
  dfl : List D
  /-- its first slot holds what is asked; what it gives, and what it raises, come as two more -/
  star : Bool
  /-- what it returns may still change -/
  keep : Bool
  body : List CS
structure CDef where
  init : Option Nat
  eqf : Option Nat
  meths : List (Nat × Nat)
  /-- the classes above it of the text, itself too -/
  sup : List Nat
  /-- the names of its instances' fields -/
  flds : List Nat
/-- an exception class: its fields, in the parameters' order; the exception classes above it, itself too -/
structure XDef where
  flds : List Nat
  sup : List Nat
structure Pg where
  fns : List FDef
  cls : List CDef
  exc : List XDef
  /-- the text's constants -/
  cons : List D

/-! ### values -/
def vw (S : Store) : Vl → Option D
  | .d x => some x
  | .ref n => match S[n]? with
    | some (.lst ds) => some (.lst ds)
    | some (.ins c fs) => some (.ins c fs)
    | some (.fz x) => some x
    | none => none
/-- from now on it does not change -/
def frz (v : Vl) (S : Store) : Res D := match v with
  | .d x => .ok x S
  | .ref n => match vw S (.ref n) with
    | some x => .ok x (S.set n (.fz x))
    | none => .bad
def frzL : List Vl → Store → Res (List D)
  | [], S => .ok [] S
  | v :: vs, S => (frz v S).bind fun x S => (frzL vs S).bind fun xs S => .ok (x :: xs) S
def vwL (S : Store) : List Vl → Option (List D)
  | [] => some []
  | v :: vs => match vw S v, vwL S vs with
    | some x, some xs => some (x :: xs)
    | _, _ => none

mutual
def py : D → Option PyData
  | .non => some .none
  | .bl b => some (.bool b)
  | .int i => some (.int i)
  | .str s => some (.str s)
  | .tup ds => (pyL ds).map .tuple
  | .lst ds => (pyL ds).map .list
  | .dct _ => none
  | .ins _ _ => none
  | .exn _ _ => none
  | .scr _ => none
def pyL : List D → Option (List PyData)
  | [] => some []
  | x :: xs => match py x, pyL xs with
    | some a, some as => some (a :: as)
    | _, _ => none
end
/-- == of data -/
def eqD (x y : D) : Option Bool := match py x, py y with
  | some a, some b => if SeqAt.shaped a && SeqAt.shaped b then some (PyData.eqv a b) else none
  | _, _ => none
def truth (P : Pg) : D → Option Bool
  | .non => some false
  | .bl b => some b
  | .int i => some (i != 0)
  | .str s => if s.length ≤ sizeLine then some (s.length != 0) else none
  | .tup ds => some !ds.isEmpty
  | .lst ds => some !ds.isEmpty
  | .dct kvs => some !kvs.isEmpty
  | .ins _ _ => none
  | .exn _ _ => none
  | .scr _ => none
def isInt : D → Option Int
  | .int i => some i
  | _ => none
def small64 (i : Int) : Bool := decide (-(2 ^ 64) < i ∧ i < 2 ^ 64)
def binop : Op → D → D → Option D
  | .add, .int i, .int j => some (.int (i + j))
  | .add, .str x, .str y => if x.length + y.length ≤ sizeLine then some (.str (x ++ y)) else none
  | .add, .tup xs, .tup ys => if xs.length + ys.length ≤ sizeLine then some (.tup (xs ++ ys)) else none
  | .add, .lst xs, .lst ys => if xs.length + ys.length ≤ sizeLine then some (.lst (xs ++ ys)) else none
  | .sub, .int i, .int j => some (.int (i - j))
  | .mul, .int i, .int j => if small64 i || small64 j then some (.int (i * j)) else none
  | .mul, .lst xs, .int k => if k < 2 ^ 40 ∧ -(2 ^ 40) < k ∧ xs.length * k.toNat ≤ sizeLine then some (.lst (List.replicate k.toNat xs).flatten) else none
  | .mul, .tup xs, .int k => if 1 ≤ k ∧ k ≤ 1000 ∧ xs.length ≤ 1000 then some (.tup (List.replicate k.toNat xs).flatten) else none
  | .mod, .int i, .int j => if 0 < j then some (.int (i % j)) else none
  | .fdiv, .int i, .int j => if 0 < j ∧ j < 1073741824 then some (.int (i / j)) else none
  | .pow, .int i, .int j => if 0 ≤ j ∧ j ≤ 1000000 ∧ i.natAbs < 2 ^ 64 then some (.int (i ^ j.toNat)) else none
  | _, _, _ => none
def intsOf : List D → Option (List Int)
  | [] => some []
  | .int i :: r => (intsOf r).map (i :: ·)
  | _ => none
def strsOf : List D → Option (List Str)
  | [] => some []
  | .str i :: r => (strsOf r).map (i :: ·)
  | _ => none
/-- is x among the items; all are flat -/
def flatD : D → Bool
  | .non => true | .bl _ => true | .int _ => true | .str _ => true
  | _ => false
def inD (x : D) : D → Option Bool
  | .lst ys => match py x, pyL ys with
    | some a, some bs => if SeqAt.shaped a && SeqAt.shaped (.list bs) then some (bs.any fun z => PyData.eqv z a) else none
    | _, _ => none
  | .tup ys => match py x, pyL ys with
    | some a, some bs => if flatD x && ys.all flatD then some (bs.any fun z => PyData.eqv z a) else none
    | _, _ => none
  | _ => none
def isNon : D → Bool
  | .non => true
  | _ => false
def isTru : D → Bool
  | .bl b => b
  | _ => false
def cmpop : Co → D → D → Option Bool
  | .lt, .int i, .int j => some (decide (i < j))
  | .lt, .tup xs, .tup ys => match intsOf xs, intsOf ys with
    | some a, some b => some (HT.lexLt a b)
    | _, _ => none
  | .le, .int i, .int j => some (decide (i ≤ j))
  | .gt, .int i, .int j => some (decide (j < i))
  | .ge, .int i, .int j => some (decide (j ≤ i))
  | .eq, x, y => eqD x y
  | .ne, x, y => (eqD x y).map (!·)
  | .isN, x, .non => some (isNon x)
  | .notN, x, .non => some (!isNon x)
  | .isT, x, .bl true => some (isTru x)
  | .notT, x, .bl true => some (!isTru x)
  | .in_, x, y => inD x y
  | .notin, x, y => (inD x y).map (!·)
  | _, _, _ => none
def lookK (k : Sum Int Str) : List (Sum Int Str × D) → Option D
  | [] => none
  | p :: r => if p.1 = k then some p.2 else lookK k r
def ixop : D → D → Option D
  | .lst xs, .int i => L2.atI xs i
  | .tup xs, .int i => L2.atI xs i
  | .str x, .int i => if x.length ≤ sizeLine then (L2.atI x.cps.toList i).map fun c => .str ⟨#[c]⟩ else none
  | .dct kvs, .str s => lookK (.inr s) kvs
  | .dct kvs, .int i => lookK (.inl i) kvs
  | _, _ => none
def cutD (xs : List D) (lo hi : Option Int) : List D := (xs.drop (HT.sIx xs.length 0 lo)).take (HT.sIx xs.length xs.length hi - HT.sIx xs.length 0 lo)
def cutop : D → Option Int → Option Int → Option D
  | .lst xs, lo, hi => some (.lst (cutD xs lo hi))
  | .tup xs, lo, hi => some (.tup (cutD xs lo hi))
  | .scr ns, lo, hi => some (.lst (cutD (ns.map D.int) lo hi))
  | _, _, _ => none
def fldop (f : Nat) : D → Option D
  | .ins _ fs => fs.lookup f
  | _ => none
/-- the class of built-in values -/
def tyOf : D → Option Ty
  | .non => some .non
  | .bl _ => some .bl
  | .int _ => some .int
  | .str _ => some .str
  | .tup _ => some .tup
  | .lst _ => some .lst
  | .dct _ => some .dct
  | .ins _ _ => none
  | .exn _ _ => none
  | .scr _ => none
def isi1 (P : Pg) (x : D) : TyR → Option Bool
  | .ty n => match x with
    | .ins c _ => (P.cls[c]?).map fun _ => false
    | .exn c _ => (P.exc[c]?).map fun _ => false
    | y => (tyOf y).map fun t => decide (t = n) || (decide (t = .bl) && decide (n = .int))
  | .cls c => match P.cls[c]? with
    | some _ => (match x with
      | .ins d _ => (P.cls[d]?).map fun k => k.sup.contains c
      | .exn d _ => (P.exc[d]?).map fun _ => false
      | _ => some false)
    | none => none
  | .exc c => match P.exc[c]? with
    | some _ => (match x with
      | .ins d _ => (P.cls[d]?).map fun _ => false
      | .exn d _ => (P.exc[d]?).map fun k => k.sup.contains c
      | _ => some false)
    | none => none
def isiA (P : Pg) (x : D) : List TyR → Option Bool
  | [] => some false
  | t :: ts => match isi1 P x t with
    | some true => some true
    | some false => isiA P x ts
    | none => none
def enumD : Nat → List D → List D
  | _, [] => []
  | n, x :: xs => .tup [.int n, x] :: enumD (n + 1) xs
def zipD : List D → List D → List D
  | x :: xs, y :: ys => .tup [x, y] :: zipD xs ys
  | _, _ => []
def rngD (lo : Int) (n : Nat) : List D := (List.range n).map fun i => .int (lo + (i : Nat))
def seqOf : D → Option (List D)
  | .lst xs => some xs
  | .tup xs => some xs
  | _ => none
def items : ItK → List D → Option (List D)
  | .seq, [x] => seqOf x
  | .rng1, [.int j] => if -16777216 ≤ j ∧ j ≤ 16777216 then some (rngD 0 j.toNat) else none
  | .rng2, [.int i, .int j] => if -16777216 ≤ i ∧ i ≤ 16777216 ∧ -16777216 ≤ j ∧ j ≤ 16777216 ∧ j - i ≤ 16777216 then some (rngD i (j - i).toNat) else none
  | .zip, [.lst xs, .lst ys] => some (zipD xs ys)
  | .zip, [.tup xs, .tup ys] => some (zipD xs ys)
  | .enum, [x] => (seqOf x).map (enumD 0)
  | _, _ => none
def setPt : Pt → D → Env → Option Env
  | .nm i, x, ρ => some (ρ.set i (some (.d x)))
  | .tup is, .tup xs, ρ => if xs.length = is.length then some ((is.zip xs).foldl (fun ρ p => ρ.set p.1 (some (.d p.2))) ρ) else none
  | _, _, _ => none
def wipe (ρ : Env) : List Nat → Env
  | [] => ρ
  | v :: vs => (wipe ρ vs).set v none
def blsOf : List D → Option (List Bool)
  | [] => some []
  | .bl i :: r => (blsOf r).map (i :: ·)
  | _ => none
def insSort (xs : List Int) : List Int := xs.mergeSort (fun a b => decide (a ≤ b))
/-- lists in a list, put together -/
def joinD : List D → Option (List D)
  | [] => some []
  | .lst xs :: r => (joinD r).map (xs ++ ·)
  | _ => none
def insI (k : Int) : List Int → List Int
  | [] => [k]
  | x :: r => if k < x then k :: x :: r else if k = x then x :: r else x :: insI k r
/-- the members, each once, rising -/
def setI : List Int → List Int
  | [] => []
  | k :: r => insI k (setI r)
def sortD (xs : List D) : Option D := (intsOf xs).bind fun is => if is.length < 64 then some (.lst ((setI is).map .int)) else none
def biop (P : Pg) : Bi → List D → Option D
  | .len, [.lst xs] => some (.int xs.length)
  | .len, [.tup xs] => some (.int xs.length)
  | .len, [.str x] => if x.length ≤ sizeLine then some (.int x.length) else none
  | .list, [.lst xs] => some (.lst xs)
  | .list, [.tup xs] => some (.lst xs)
  | .tuple, [.lst xs] => some (.tup xs)
  | .tuple, [.tup xs] => some (.tup xs)
  | .int, [.int i] => some (.int i)
  | .int, [.bl b] => some (.int (if b then 1 else 0))
  | .abs, [.int i] => some (.int (if i < 0 then -i else i))
  | .min, [.int i, .int j] => some (.int (if j < i then j else i))
  | .max, [.int i, .int j] => some (.int (if j > i then j else i))
  | .all, [.lst xs] => (blsOf xs).map fun bs => .bl (bs.all id)
  | .any, [.lst xs] => (blsOf xs).map fun bs => .bl (bs.any id)
  | .bool, [x] => match x with
    | .bl b => some (.bl b)
    | .int i => some (.bl (i != 0))
    | _ => none
  | .listRange1, [.int j] => if -16777216 ≤ j ∧ j ≤ 16777216 then some (.lst (rngD 0 j.toNat)) else none
  | .listRange2, [.int i, .int j] => if -16777216 ≤ i ∧ i ≤ 16777216 ∧ -16777216 ≤ j ∧ j ≤ 16777216 ∧ j - i ≤ 16777216 then some (.lst (rngD i (j - i).toNat)) else none
  | .tupleRange1, [.int j] => if -16777216 ≤ j ∧ j ≤ 16777216 then some (.tup (rngD 0 j.toNat)) else none
  | .sum, [.lst xs] => (joinD xs).bind fun ys => if ys.length ≤ sizeLine then some (.lst ys) else none
  | .sortedSet, [.lst xs] => sortD xs
  | .sortedKeys, [.tup xs] => sortD xs
  | .repr, [x] => match py x with
    | some a => if SeqAt.shaped a && a.showable && decide (a.shown.length ≤ sizeLine) then some (.str a.shown) else none
    | none => none
  | _, _ => none
/-- the i-th parameter's value: positional, by its number, else the default -/
def pick {α : Type} (np : Nat) (as : List α) (ks : List (Nat × α)) (ds : List α) (i : Nat) : Option α := match as[i]? with
  | some v => some v
  | none => match ks.lookup i with
    | some v => some v
    | none => if np ≤ i + ds.length then ds[i + ds.length - np]? else none
def arrI {α : Type} (np : Nat) (as : List α) (ks : List (Nat × α)) (ds : List α) : Nat → Nat → Option (List α)
  | _, 0 => some []
  | i, r + 1 => match pick np as ks ds i with
    | some v => (arrI np as ks ds (i + 1) r).map (v :: ·)
    | none => none
/-- the parameters' values -/
def argsOf (np : Nat) (dfl : List D) (as : List Vl) (ks : List (Nat × Vl)) : Option (List Vl) := arrI np as ks (dfl.map .d) 0 np
def lkF (f : Nat) : List (Nat × D) → Option D
  | [] => none
  | p :: r => if p.1 = f then some p.2 else lkF f r
/-- a field that the class itself does not tell -/
def fldOk (P : Pg) (c f : Nat) : Bool := match P.cls[c]? with
  | some k => k.flds.contains f
  | none => false
def xfdOk (P : Pg) (c f : Nat) : Bool := match P.exc[c]? with
  | some k => k.flds.contains f
  | none => false
def putF (f : Nat) (x : D) : List (Nat × D) → List (Nat × D)
  | [] => [(f, x)]
  | p :: r => if p.1 = f then (f, x) :: r else p :: putF f x r
abbrev Th := Option (Store → Res Vl)
/-- a call: the function's number, the thunk handed, the arguments -/
abbrev Cl := Nat → Th → List Vl → Store → Res Vl
def loopD {σ : Type} (f : D → σ → Store → Res σ) : List D → σ → Store → Res σ
  | [], a, S => .ok a S
  | x :: xs, a, S => (f x a S).bind fun a S => loopD f xs a S
/-- the own == of an instance -/
def ownEq (P : Pg) : Co → D → Option Nat
  | .eq, .ins c _ => (P.cls[c]?).bind (·.eqf)
  | .ne, .ins c _ => (P.cls[c]?).bind (·.eqf)
  | _, _ => none
/-- an instance of a class below c goes first -/
def below (P : Pg) (c : D) : D → Bool
  | .ins e _ => match c with
    | .ins c _ => !(c == e) && (match P.cls[e]? with
      | some k => k.sup.contains c
      | none => true)
    | _ => true
  | .exn _ _ => true
  | _ => false
/-- what is walked -/
def itR (k : ItK) (r : Res (List Vl)) : Res (List D) := r.bind fun vs S => (frzL vs S).bind fun xs S => ofO (items k xs) S
/-- a comprehension's turn: the item goes to the target, the test, the element -/
def compT (o : Option Env) (tc : Env → Store → Res Bool) (te : Env → Store → Res Vl) (acc : List D) (S : Store) : Res (List D) := match o with
  | some ρ1 => (tc ρ1 S).nox.bind fun b S => (match b with
    | true => (te ρ1 S).nox.bind fun v S => (frz v S).bind fun y S => if acc.length < sizeLine then .ok (acc ++ [y]) S else .bad
    | false => .ok acc S)
  | none => .bad
/-- .. with an inner loop -/
def compT2 (o : Option Env) (tc : Env → Store → Res Bool) (ti : Env → Store → Res (List D)) (f : Env → D → List D → Store → Res (List D)) (acc : List D) (S : Store) : Res (List D) := match o with
  | some ρ1 => (tc ρ1 S).nox.bind fun b S => (match b with
    | true => (ti ρ1 S).bind fun its S => loopD (f ρ1) its acc S
    | false => .ok acc S)
  | none => .bad
/-- a comparison, own == of instances too -/
def cmpM (P : Pg) (cl : Cl) (o : Co) (x y : Vl) (S : Store) : Res Bool := match vw S x, vw S y with
  | some a, some b => (match ownEq P o a with
    | some f => if below P a b then .bad else (cl f none [x, y] S).bind fun r S => (match r with
      | .d (.bl k) => .ok (if o = .ne then !k else k) S
      | _ => .bad)
    | none => ofO (cmpop o a b) S)
  | _, _ => .bad
/-- what a function's end hands out: data, the store as it was long; or, kept, as it is -/
def leave (keep : Bool) (len : Nat) (v : Vl) (S : Store) : Res Vl := match keep with
  | true => .ok v S
  | false => (frz v S).bind fun x S => .ok (.d x) (S.take len)
/-- C(..): a new instance is made, its __init__ done, then it stands -/
def mkM (P : Pg) (cl : Cl) (c : Nat) (vs : List Vl) (S : Store) : Res Vl := match (P.cls[c]?).bind (·.init) with
  | some f => (cl f none vs (S ++ [.ins c []])).bind fun r S1 => (match r, S1[S.length]? with
    | .d .non, some (.ins c' fs) => .ok (.d (.ins c' fs)) (S1.take S.length)
    | _, _ => .bad)
  | none => .bad
def bmop (m : Bm) (o : Vl) (vs : List Vl) (S : Store) : Res Vl := match m, o, vs with
  | .append, .ref n, [v] => (frz v S).bind fun x S => (match S[n]? with
    | some (.lst ds) => if ds.length < sizeLine then .ok (.d .non) (S.set n (.lst (ds ++ [x]))) else .bad
    | _ => .bad)
  | .popAt, .ref n, [.d (.int i)] => (match S[n]? with
    | some (.lst ds) => (match L2.ixN ds.length i with
      | some k => (match ds[k]? with
        | some y => if -(2 ^ 63) ≤ i ∧ i < 2 ^ 63 then .ok (.d y) (S.set n (.lst (ds.eraseIdx k))) else .bad
        | none => .bad)
      | none => .bad)
    | _ => .bad)
  | .pop, .ref n, [] => (match S[n]? with
    | some (.lst ds) => (match ds[ds.length - 1]? with
      | some y => .ok (.d y) (S.set n (.lst ds.dropLast))
      | none => .bad)
    | _ => .bad)
  | .count, .ref n, [.d (.bl true)] => (match S[n]? with
    | some (.lst ds) => (match blsOf ds with
      | some bs => .ok (.d (.int (bs.count true : Nat))) S
      | none => .bad)
    | _ => .bad)
  | .index, .ref n, [.d (.bl true)] => (match S[n]? with
    | some (.lst ds) => (match blsOf ds with
      | some bs => (match bs.findIdx? id with
        | some i => .ok (.d (.int (i : Nat))) S
        | none => .bad)
      | none => .bad)
    | _ => .bad)
  | _, _, _ => .bad

/-- the method's function, by the class -/
def methOf (P : Pg) (m : Nat) : Option D → Option Nat
  | some (.ins c fs) => if (lkF m fs).isSome then none else (P.cls[c]?).bind (·.meths.lookup m)
  | _ => none
/-- a list that may still change -/
def lstAt (S : Store) : Vl → Bool
  | .ref n => (match S[n]? with
    | some (.lst _) => true
    | _ => false)
  | _ => false
/-- a test, by what it gives -/
def truV (P : Pg) (S : Store) (x : Vl) : Option Bool := (vw S x).bind (truth P)
def tst (P : Pg) (r : Res Vl) : Res Bool := r.bind fun x S => ofO (truV P S x) S
/-- what the def f makes of an answer, or of what is raised in its place -/
def hearM (P : Pg) (c : List Vl → Store → Res Vl) : Res Vl → Res Vl
  | .ok v S1 => c [v, .d .non] S1
  | .exc x S1 => match P.exc[x.c]? with
    | some _ => c [.d .non, .d (.exn x.c x.fs)] S1
    | none => .bad
  | .bad => .bad
section
variable (P : Pg) (cl : Cl) (th : Th)
mutual
def evE : CE → Env → Store → Res Vl
  | .var i, ρ, S => (match ρ[i]? with
    | some (some v) => .ok v S
    | _ => .bad)
  | .cst x, _, S => .ok (.d x) S
  | .glo j, _, S => (match P.cons[j]? with
    | some x => .ok (.d x) S
    | none => .bad)
  | .live e, ρ, S => (evE e ρ S).bind fun x S => (match x with
    | .d (.lst xs) => .ok (.ref S.length) (S ++ [.lst xs])
    | _ => .bad)
  | .bin o a b, ρ, S => (evE a ρ S).bind fun x S => (evE b ρ S).bind fun y S => (match vw S x, vw S y with
    | some x, some y => (ofO (binop o x y) S).bind fun z S => .ok (.d z) S
    | _, _ => .bad)
  | .neg a, ρ, S => (evE a ρ S).bind fun x S => (match x with
    | .d (.int i) => .ok (.d (.int (-i))) S
    | _ => .bad)
  | .cmp o a b, ρ, S => (evE a ρ S).bind fun x S => (evE b ρ S).bind fun y S => (cmpM P cl o x y S).bind fun r S => .ok (.d (.bl r)) S
  | .chn o p a b c, ρ, S => (evE a ρ S).bind fun x S => (evE b ρ S).bind fun y S => (cmpM P cl o x y S).bind fun r S => (match r with
    | true => (evE c ρ S).bind fun z S => (cmpM P cl p y z S).bind fun r S => .ok (.d (.bl r)) S
    | false => .ok (.d (.bl false)) S)
  | .land a b, ρ, S => (evE a ρ S).bind fun x S => (match truV P S x with
    | some true => evE b ρ S
    | some false => .ok x S
    | none => .bad)
  | .lor a b, ρ, S => (evE a ρ S).bind fun x S => (match truV P S x with
    | some true => .ok x S
    | some false => evE b ρ S
    | none => .bad)
  | .lnot a, ρ, S => (tst P (evE a ρ S)).bind fun b S => .ok (.d (.bl !b)) S
  | .ite c a b, ρ, S => (tst P (evE c ρ S)).bind fun t S => (match t with
    | true => evE a ρ S
    | false => evE b ρ S)
  | .tup es, ρ, S => (evL es ρ S).bind fun vs S => (frzL vs S).bind fun xs S => .ok (.d (.tup xs)) S
  | .lst es, ρ, S => (evL es ρ S).bind fun vs S => (frzL vs S).bind fun xs S => .ok (.d (.lst xs)) S
  | .tupS es, ρ, S => (evS es ρ S).bind fun xs S => if xs.length ≤ sizeLine then .ok (.d (.tup xs)) S else .bad
  | .lstS es, ρ, S => (evS es ρ S).bind fun xs S => if xs.length ≤ sizeLine then .ok (.d (.lst xs)) S else .bad
  | .dct kvs, ρ, S => (evK kvs ρ S).bind fun xs S => .ok (.d (.dct xs)) S
  | .ix a i, ρ, S => (evE a ρ S).bind fun x S => (evE i ρ S).bind fun y S => (match vw S x, vw S y with
    | some x, some y => (ofO (ixop x y) S).bind fun z S => .ok (.d z) S
    | _, _ => .bad)
  | .cut a lo hi, ρ, S => (evE a ρ S).bind fun x S => (evO lo ρ S).bind fun l S => (evO hi ρ S).bind fun h S => (match vw S x with
    | some x => (ofO (cutop x l h) S).bind fun z S => .ok (.d z) S
    | none => .bad)
  | .fld a f, ρ, S => (evE a ρ S).bind fun x S => (match vw S x with
    | some (.ins c fs) => if fldOk P c f then (match lkF f fs with
      | some y => .ok (.d y) S
      | none => .bad) else .bad
    | some (.exn c fs) => if xfdOk P c f then (match lkF f fs with
      | some y => .ok (.d y) S
      | none => .bad) else .bad
    | _ => .bad)
  | .isi a ts, ρ, S => (evE a ρ S).bind fun x S => (match vw S x with
    | some x => (ofO (isiA P x ts) S).bind fun b S => .ok (.d (.bl b)) S
    | none => .bad)
  | .call f as ks, ρ, S => (evL as ρ S).bind fun vs S => (evKs ks ρ S).bind fun zs S => (match P.fns[f]? with
    | some fd => (match argsOf fd.pars fd.dfl vs zs with
      | some us => cl f none us S
      | none => .bad)
    | none => .bad)
  | .mk c as ks, ρ, S => (evL as ρ S).bind fun vs S => (evKs ks ρ S).bind fun zs S => (match (P.cls[c]?).bind (·.init) with
    | some f => (match P.fns[f]? with
      | some fd => (match argsOf fd.pars fd.dfl (.ref S.length :: vs) zs with
        | some us => mkM P cl c us S
        | none => .bad)
      | none => .bad)
    | none => .bad)
  | .meth o m as ks, ρ, S => (evE o ρ S).bind fun x S => (match methOf P m (vw S x) with
    | some f => (evL as ρ S).bind fun vs S => (evKs ks ρ S).bind fun zs S => (match P.fns[f]? with
      | some fd => (match argsOf fd.pars fd.dfl (x :: vs) zs with
        | some us => cl f none us S
        | none => .bad)
      | none => .bad)
    | none => .bad)
  | .bi b as, ρ, S => (evL as ρ S).bind fun vs S => (match vwL S vs with
    | some xs => (ofO (biop P b xs) S).bind fun z S => .ok (.d z) S
    | none => .bad)
  | .bm m o as, ρ, S => (evE o ρ S).bind fun x S => if lstAt S x then (evL as ρ S).bind fun vs S => bmop m x vs S else .bad
  | .comp own k as p cond elt, ρ, S => (itR k (evL as ρ S)).bind fun its S => (loopD (fun x acc S => compT (setPt p x (wipe ρ own)) (fun ρ1 S => evC cond ρ1 S) (fun ρ1 S => evE elt ρ1 S) acc S) its [] S).bind fun ys S => .ok (.d (.lst ys)) S
  | .comp2 own own1 k as p cond k1 as1 p1 cond1 elt, ρ, S => (itR k (evL as ρ S)).bind fun its S => (loopD (fun x acc S => compT2 (setPt p x (wipe ρ own)) (fun ρ1 S => evC cond ρ1 S) (fun ρ1 S => (itR k1 (evL as1 ρ1 S)).nox)
      (fun ρ1 x1 acc S => compT (setPt p1 x1 (wipe ρ1 own1)) (fun ρ2 S => evC cond1 ρ2 S) (fun ρ2 S => evE elt ρ2 S) acc S) acc S) its [] S).bind fun ys S => .ok (.d (.lst ys)) S
  | .heard f body, ρ, S => hearM P (cl f none) (evE body ρ S)
  | .ask, _, S => (match th with
    | some t => t S
    | none => .bad)
def evL : List CE → Env → Store → Res (List Vl)
  | [], _, S => .ok [] S
  | e :: es, ρ, S => (evE e ρ S).bind fun v S => (evL es ρ S).bind fun vs S => .ok (v :: vs) S
def evS : List (Bool × CE) → Env → Store → Res (List D)
  | [], _, S => .ok [] S
  | (true, e) :: es, ρ, S => (evE e ρ S).bind fun v S => (match vw S v with
    | some (.lst xs) => (evS es ρ S).bind fun ys S => .ok (xs ++ ys) S
    | some (.tup xs) => (evS es ρ S).bind fun ys S => .ok (xs ++ ys) S
    | _ => .bad)
  | (false, e) :: es, ρ, S => (evE e ρ S).bind fun v S => (frz v S).bind fun x S => (evS es ρ S).bind fun ys S => .ok (x :: ys) S
def evK : List (Sum Int Str × CE) → Env → Store → Res (List (Sum Int Str × D))
  | [], _, S => .ok [] S
  | (k, e) :: es, ρ, S => (evE e ρ S).bind fun v S => (frz v S).bind fun x S => (evK es ρ S).bind fun ys S => .ok ((k, x) :: ys) S
def evKs : List (Nat × CE) → Env → Store → Res (List (Nat × Vl))
  | [], _, S => .ok [] S
  | (k, e) :: es, ρ, S => (evE e ρ S).bind fun v S => (evKs es ρ S).bind fun ys S => .ok ((k, v) :: ys) S
def evO : Option CE → Env → Store → Res (Option Int)
  | none, _, S => .ok none S
  | some e, ρ, S => (evE e ρ S).bind fun v S => (match v with
    | .d (.int i) => .ok (some i) S
    | _ => .bad)
def evC : Option CE → Env → Store → Res Bool
  | none, _, S => .ok true S
  | some e, ρ, S => tst P (evE e ρ S)
end
end

/-! ### statements -/
inductive SR where
  | nx (ρ : Env) (S : Store) | ret (v : Vl) (S : Store) | brk (ρ : Env) (S : Store) | cnt (ρ : Env) (S : Store) | exc (x : Exn) (ρ : Env) (S : Store) | bad
def Res.st {α : Type} (r : Res α) (ρ : Env) (k : α → Store → SR) : SR := match r with
  | .ok a S => k a S
  | .exc x S => .exc x ρ S
  | .bad => .bad
def SR.bind (r : SR) (k : Env → Store → SR) : SR := match r with
  | .nx ρ S => k ρ S
  | r => r
/-- a loop over items -/
def forM (f : D → Env → Store → SR) : List D → Env → Store → SR
  | [], ρ, S => .nx ρ S
  | x :: xs, ρ, S => match f x ρ S with
    | .nx ρ S => forM f xs ρ S
    | .cnt ρ S => forM f xs ρ S
    | .brk ρ S => .nx ρ S
    | r => r
def whM (f : Env → Store → SR) : Nat → Env → Store → SR
  | 0, _, _ => .bad
  | n + 1, ρ, S => match f ρ S with
    | .nx ρ S => whM f n ρ S
    | .cnt ρ S => whM f n ρ S
    | .brk ρ S => .nx ρ S
    | r => r
/-- a value to a pattern; a name keeps what may change -/
def setPv (p : Pt) (v : Vl) (S : Store) (ρ : Env) : Option Env := match p with
  | .nm i => some (ρ.set i (some v))
  | .tup is => (vw S v).bind fun x => setPt (.tup is) x ρ
def setAll : List Nat → List Vl → Env → Env
  | i :: is, v :: vs, ρ => setAll is vs (ρ.set i (some v))
  | _, _, ρ => ρ
section
variable (P : Pg) (cl : Cl) (th : Th)
mutual
def exS : CS → Env → Store → SR
  | .expr e, ρ, S => (evE P cl th e ρ S).st ρ fun _ S => .nx ρ S
  | .asg p e, ρ, S => (evE P cl th e ρ S).st ρ fun v S => (match setPv p v S ρ with
    | some ρ => .nx ρ S
    | none => .bad)
  | .par is es, ρ, S => (evL P cl th es ρ S).st ρ fun vs S => .nx (setAll is vs ρ) S
  | .aug i o e, ρ, S => (match ρ[i]? with
    | some (some x) => (evE P cl th e ρ S).st ρ fun y S => (match vw S x, vw S y with
      | some x, some y => (match binop o x y with
        | some z => .nx (ρ.set i (some (.d z))) S
        | none => .bad)
      | _, _ => .bad)
    | _ => .bad)
  | .setIx o i e, ρ, S => (evE P cl th e ρ S).st ρ fun v S => (frz v S).st ρ fun x S => (evE P cl th o ρ S).st ρ fun r S => (evE P cl th i ρ S).st ρ fun k S => (match r, k with
    | .ref n, .d (.int k) => (match S[n]? with
      | some (.lst ds) => (match L2.ixN ds.length k with
        | some j => .nx ρ (S.set n (.lst (ds.set j x)))
        | none => .bad)
      | _ => .bad)
    | _, _ => .bad)
  | .setF o f e, ρ, S => (evE P cl th e ρ S).st ρ fun v S => (frz v S).st ρ fun x S => (evE P cl th o ρ S).st ρ fun r S => (match r with
    | .ref n => (match S[n]? with
      | some (.ins c fs) => if fs.length < 1000 ∧ fldOk P c f = true then .nx ρ (S.set n (.ins c (putF f x fs))) else .bad
      | _ => .bad)
    | _ => .bad)
  | .iff c a b, ρ, S => (tst P (evE P cl th c ρ S)).st ρ fun t S => (match t with
    | true => exL a ρ S
    | false => exL b ρ S)
  | .for_ k as p body, ρ, S => (itR k (evL P cl th as ρ S)).st ρ fun its S => forM (fun x ρ S => (match setPt p x ρ with
    | some ρ => exL body ρ S
    | none => .bad)) its ρ S
  | .whl c body, ρ, S => whM (fun ρ S => (tst P (evE P cl th c ρ S)).st ρ fun t S => (match t with
    | true => exL body ρ S
    | false => .brk ρ S)) 100000 ρ S
  | .ret e, ρ, S => (evE P cl th e ρ S).st ρ fun v S => .ret v S
  | .retN, _, S => .ret (.d .non) S
  | .raise c as, ρ, S => (evL P cl th as ρ S).st ρ fun vs S => (frzL vs S).st ρ fun xs S => (match P.exc[c]? with
    | some k => if k.flds.length = xs.length ∧ xs ≠ [] then .exc ⟨c, k.flds.zip xs⟩ ρ S else .bad
    | none => .bad)
  | .try_ body c slot suite, ρ, S => (match exL body ρ S with
    | .exc x ρ S => (match P.exc[x.c]? with
      | some k => if k.sup.contains c then (match exL suite (ρ.set slot (some (.d (.exn x.c x.fs)))) S with
          | .nx ρ S => .nx (ρ.set slot none) S
          | _ => .bad)
        else .exc x ρ S
      | none => .bad)
    | r => r)
  | .brk, ρ, S => .brk ρ S
  | .cnt, ρ, S => .cnt ρ S
  | .pass, ρ, S => .nx ρ S
  | .never, _, _ => .bad
def exL : List CS → Env → Store → SR
  | [], ρ, S => .nx ρ S
  | s :: ss, ρ, S => (exS s ρ S).bind fun ρ S => exL ss ρ S
end
end
/-- a function's call: its body by what its calls give -/
def envOf (fd : FDef) (us : List Vl) : Env := match fd.star with
  | false => us.map some ++ List.replicate (fd.slots - fd.pars) none
  | true => none :: (us.map some ++ List.replicate (fd.slots - 3) none)
def lenOf (fd : FDef) : Nat := match fd.star with
  | false => fd.pars
  | true => 2
def callF (P : Pg) (cl : Cl) : Cl := fun f th us S => match P.fns[f]? with
  | some fd => if us.length = lenOf fd then
      (match exL P cl th fd.body (envOf fd us) S with
      | .nx _ S1 => leave fd.keep S.length (.d .non) S1
      | .ret v S1 => leave fd.keep S.length v S1
      | .exc x _ S1 => .exc x (S1.take S.length)
      | _ => .bad)
    else .bad
  | none => .bad
def callN (P : Pg) : Nat → Cl
  | 0 => fun _ _ _ _ => .bad
  | n + 1 => callF P (callN P n)
end Wk

set_option Elab.async false
set_option linter.all false
set_option maxRecDepth 100000
/-! WkB: how data and stores lie to the hand layer's values and heaps. -/
namespace Wk
open PySem PySem.Spec L2

/-- the text's numbers: classes' addresses, names -/
structure Sx where
  ca : Nat → Addr
  /-- the exception classes -/
  xa : Nat → Addr
  nm : Nat → Str
  fa : Nat → Addr
  ps : Nat → List Str
  /-- the tables of code objects, the names in them -/
  tb : List (Addr × Str)
/-- an exception's object at a: its class, its own dict -/
def XO (cls : Value) (dx a : Addr) : HO := .ext fun h => ∃ (oe : Obj) (vs : Array Value), h.get? a = some oe ∧ Zc cls (some dx) oe ∧ oe.data = .fields vs

def Ex (H H' : Hp) : Prop := ∀ a o, H a = some o → H' a = some o
theorem Ex.refl (H : Hp) : Ex H H := fun _ _ h => h
theorem Ex.trans {H H1 H2 : Hp} (a : Ex H H1) (b : Ex H1 H2) : Ex H H2 := fun x o h => b x o (a x o h)
theorem Ex.new {H : Hp} {p : Addr} {o : HO} (h : H p = none) : Ex H (upd H p o) := fun a u e => by
  rw [upd_ne (ne_of_none e h)]
  exact e
theorem Ex.free {H H' : Hp} {p : Addr} (e : Ex H H') (h : H' p = none) : H p = none := by
  cases h1 : H p with
  | none => rfl
  | some o =>
    rw [e p o h1] at h
    cases h
/-- what H does not know may change -/
theorem Ex.mut {H H' : Hp} {p : Addr} {o : HO} (e : Ex H H') (h : H p = none) : Ex H (upd H' p o) := fun a u ha => by
  rw [upd_ne (ne_of_none ha h)]
  exact e a u ha
/-- both get the same new object -/
theorem Ex.both {H H' : Hp} {p : Addr} {o : HO} (e : Ex H H') : Ex (upd H p o) (upd H' p o) := fun a u ha => by
  by_cases q : a = p
  · rw [q, upd_same] at ha ⊢
    exact ha
  · rw [upd_ne q] at ha ⊢
    exact e a u ha
/-- the known part is told of an object that stands -/
theorem Ex.tell {H H' : Hp} {p : Addr} {o : HO} (e : Ex H H') (h : H' p = some o) : Ex (upd H p o) H' := fun a u ha => by
  by_cases q : a = p
  · rw [q, upd_same] at ha
    rw [q]
    exact h.trans ha
  · rw [upd_ne q] at ha
    exact e a u ha
theorem Ex.rd {H H' : Hp} {a : Addr} {u : HO} (e : Ex H H') (h : Rd H a u) : Rd H' a u := by
  rcases h with h | ⟨o, h⟩
  · exact Or.inl (e a _ h)
  · exact Or.inr ⟨o, e a _ h⟩
theorem Ex.l {K : PySem.W.Frag} {H H' : Hp} {a : Addr} {xs : List V} (e : Ex H H') (h : SqL K H a xs) : SqL K H' a xs := by
  rcases h with h | h
  · exact Or.inl (e.rd h)
  · exact Or.inr h
theorem Ex.t {K : PySem.W.Frag} {H H' : Hp} {a : Addr} {xs : List V} (e : Ex H H') (h : SqT K H a xs) : SqT K H' a xs := by
  rcases h with h | h
  · exact Or.inl (e.rd h)
  · exact Or.inr h

mutual
inductive Rl (K : PySem.W.Frag) (Z : Sx) (F : Hp) : D → V → Prop
  | non : Rl K Z F .non .non
  | bl (b : Bool) : Rl K Z F (.bl b) (.bl b)
  | int (i : Int) : Rl K Z F (.int i) (.int i)
  | str (s : Str) : Rl K Z F (.str s) (.str s)
  | tup {a : Addr} {vs : List V} {ds : List D} : SqT K F a vs → ds.length ≤ sizeLine → RlL K Z F ds vs → Rl K Z F (.tup ds) (.ref a)
  | lst {a : Addr} {vs : List V} {ds : List D} : F a = some (.lst vs) → ds.length ≤ sizeLine → RlL K Z F ds vs → Rl K Z F (.lst ds) (.ref a)
  | dct {a : Addr} {kvs : List (Sum Int Str × D)} {kws : List (Sum Int Str × V)} : F a = some (.dK kws) → RlK K Z F kvs kws → Rl K Z F (.dct kvs) (.ref a)
  | ins {a dx : Addr} {c : Nat} {fs : List (Nat × D)} {gs : List (Str × V)} : F a = some (.ins (Z.ca c) dx gs) → F dx = some (.own a) → RlF K Z F fs gs → Rl K Z F (.ins c fs) (.ref a)
  | exn {a dx : Addr} {c : Nat} {fs : List (Nat × D)} {gs : List (Str × V)} : F a = some (XO (.ref (Z.xa c)) dx a) → F dx = some (.xd gs) → RlF K Z F fs gs → Rl K Z F (.exn c fs) (.ref a)
  | scr {a : Addr} {ns : List Int} : SqL K F a (ns.map V.int) → ns.length ≤ sizeLine → Rl K Z F (.scr ns) (.ref a)
inductive RlL (K : PySem.W.Frag) (Z : Sx) (F : Hp) : List D → List V → Prop
  | nil : RlL K Z F [] []
  | cons {d : D} {v : V} {ds : List D} {vs : List V} : Rl K Z F d v → RlL K Z F ds vs → RlL K Z F (d :: ds) (v :: vs)
inductive RlK (K : PySem.W.Frag) (Z : Sx) (F : Hp) : List (Sum Int Str × D) → List (Sum Int Str × V) → Prop
  | nil : RlK K Z F [] []
  | cons {k : Sum Int Str} {d : D} {v : V} {ds : List (Sum Int Str × D)} {vs : List (Sum Int Str × V)} : Rl K Z F d v → RlK K Z F ds vs → RlK K Z F ((k, d) :: ds) ((k, v) :: vs)
inductive RlF (K : PySem.W.Frag) (Z : Sx) (F : Hp) : List (Nat × D) → List (Str × V) → Prop
  | nil : RlF K Z F [] []
  | cons {k : Nat} {d : D} {v : V} {ds : List (Nat × D)} {vs : List (Str × V)} : Rl K Z F d v → RlF K Z F ds vs → RlF K Z F ((k, d) :: ds) ((Z.nm k, v) :: vs)
end
section
variable {K : PySem.W.Frag} {Z : Sx} {F G : Hp}
mutual
theorem Rl.mono (e : Ex F G) : ∀ {d : D} {v : V}, Rl K Z F d v → Rl K Z G d v
  | _, _, .non => .non
  | _, _, .bl b => .bl b
  | _, _, .int i => .int i
  | _, _, .str s => .str s
  | _, _, .tup h n r => .tup (e.t h) n (RlL.mono e r)
  | _, _, .lst h n r => .lst (e _ _ h) n (RlL.mono e r)
  | _, _, .dct h r => .dct (e _ _ h) (RlK.mono e r)
  | _, _, .ins h h' r => .ins (e _ _ h) (e _ _ h') (RlF.mono e r)
  | _, _, .exn h h' r => .exn (e _ _ h) (e _ _ h') (RlF.mono e r)
  | _, _, .scr h n => .scr (e.l h) n
theorem RlL.mono (e : Ex F G) : ∀ {d : List D} {v : List V}, RlL K Z F d v → RlL K Z G d v
  | _, _, .nil => .nil
  | _, _, .cons h r => .cons (Rl.mono e h) (RlL.mono e r)
theorem RlK.mono (e : Ex F G) : ∀ {d : List (Sum Int Str × D)} {v : List (Sum Int Str × V)}, RlK K Z F d v → RlK K Z G d v
  | _, _, .nil => .nil
  | _, _, .cons h r => .cons (Rl.mono e h) (RlK.mono e r)
theorem RlF.mono (e : Ex F G) : ∀ {d : List (Nat × D)} {v : List (Str × V)}, RlF K Z F d v → RlF K Z G d v
  | _, _, .nil => .nil
  | _, _, .cons h r => .cons (Rl.mono e h) (RlF.mono e r)
end
theorem RlL.len : ∀ {d : List D} {v : List V}, RlL K Z F d v → d.length = v.length
  | _, _, .nil => rfl
  | _, _, .cons _ r => congrArg (· + 1) (RlL.len r)
theorem RlL.get : ∀ {d : List D} {v : List V} {i : Nat} {x : V}, RlL K Z F d v → v[i]? = some x → ∃ y, d[i]? = some y ∧ Rl K Z F y x
  | _, _, _, _, .nil, h => by simp at h
  | _, _, 0, _, .cons h _, e => by
    simp at e
    subst e
    exact ⟨_, rfl, h⟩
  | _, _, i + 1, x, .cons _ r, e => by
    obtain ⟨y, h1, h2⟩ := RlL.get (i := i) (x := x) r (by simpa using e)
    exact ⟨y, by simpa using h1, h2⟩
theorem RlL.get' : ∀ {d : List D} {v : List V} {i : Nat} {y : D}, RlL K Z F d v → d[i]? = some y → ∃ x, v[i]? = some x ∧ Rl K Z F y x
  | _, _, _, _, .nil, h => by simp at h
  | _, _, 0, _, .cons h _, e => by
    simp at e
    subst e
    exact ⟨_, rfl, h⟩
  | _, _, i + 1, x, .cons _ r, e => by
    obtain ⟨y, h1, h2⟩ := RlL.get' (i := i) (y := x) r (by simpa using e)
    exact ⟨y, by simpa using h1, h2⟩
theorem RlL.app : ∀ {d e : List D} {v w : List V}, RlL K Z F d v → RlL K Z F e w → RlL K Z F (d ++ e) (v ++ w)
  | _, _, _, _, .nil, s => s
  | _, _, _, _, .cons h r, s => .cons h (RlL.app r s)
theorem RlL.take : ∀ {d : List D} {v : List V} (n : Nat), RlL K Z F d v → RlL K Z F (d.take n) (v.take n)
  | _, _, 0, _ => .nil
  | _, _, _ + 1, .nil => .nil
  | _, _, n + 1, .cons h r => .cons h (RlL.take n r)
theorem RlL.drop : ∀ {d : List D} {v : List V} (n : Nat), RlL K Z F d v → RlL K Z F (d.drop n) (v.drop n)
  | _, _, 0, r => r
  | _, _, _ + 1, .nil => .nil
  | _, _, n + 1, .cons _ r => RlL.drop n r
theorem RlL.set : ∀ {d : List D} {v : List V} (n : Nat) {x : D} {y : V}, RlL K Z F d v → Rl K Z F x y → RlL K Z F (d.set n x) (v.set n y)
  | _, _, _, _, _, .nil, _ => .nil
  | _, _, 0, _, _, .cons _ r, s => .cons s r
  | _, _, n + 1, _, _, .cons h r, s => .cons h (RlL.set n r s)
theorem RlL.erase : ∀ {d : List D} {v : List V} (n : Nat), RlL K Z F d v → RlL K Z F (d.eraseIdx n) (v.eraseIdx n)
  | _, _, _, .nil => .nil
  | _, _, 0, .cons _ r => r
  | _, _, n + 1, .cons h r => .cons h (RlL.erase n r)
theorem RlL.dropLast {d : List D} {v : List V} (r : RlL K Z F d v) : RlL K Z F d.dropLast v.dropLast := by
  rw [List.dropLast_eq_take, List.dropLast_eq_take, r.len]
  exact r.take _
theorem RlL.rep {d : List D} {v : List V} (r : RlL K Z F d v) : ∀ k : Nat, RlL K Z F (List.replicate k d).flatten (List.replicate k v).flatten
  | 0 => .nil
  | k + 1 => by
    rw [List.replicate_succ, List.replicate_succ, List.flatten_cons, List.flatten_cons]
    exact r.app (RlL.rep r k)
theorem RlL.one {x : D} {y : V} (h : Rl K Z F x y) : RlL K Z F [x] [y] := .cons h .nil
theorem RlF.look : ∀ {fs : List (Nat × D)} {gs : List (Str × V)} {f : Nat} {x : D}, (∀ a b, Z.nm a = Z.nm b → a = b) → RlF K Z F fs gs → lkF f fs = some x → ∃ v, gs.lookup (Z.nm f) = some v ∧ Rl K Z F x v
  | _, _, _, _, _, .nil, h => by simp [lkF] at h
  | _, _, f, x, inj, .cons (k := k) (v := v) h r, e => by
    unfold lkF at e
    by_cases q : k = f
    · rw [if_pos q] at e
      cases e
      exact ⟨v, by rw [q, List.lookup_cons, beq_self_eq_true], h⟩
    · rw [if_neg q] at e
      obtain ⟨w, h1, h2⟩ := RlF.look inj r e
      refine ⟨w, ?_, h2⟩
      have : (Z.nm f == Z.nm k) = false := by
        rw [beq_eq_false_iff_ne]
        exact fun z => q (inj _ _ z).symm
      rw [List.lookup_cons, this]
      exact h1
theorem RlF.put {f : Nat} {x : D} {y : V} (inj : ∀ a b, Z.nm a = Z.nm b → a = b) (s : Rl K Z F x y) : ∀ {fs : List (Nat × D)} {gs : List (Str × V)}, RlF K Z F fs gs → RlF K Z F (putF f x fs) (L2.putF (Z.nm f) y gs)
  | _, _, .nil => .cons s .nil
  | _, _, .cons (k := k) (ds := ds) (vs := vs) (v := v) h r => by
    unfold putF L2.putF
    by_cases q : k = f
    · subst q
      rw [if_pos rfl, if_pos rfl]
      exact .cons s r
    · rw [if_neg q, if_neg (fun z => q (inj _ _ z))]
      exact .cons h (RlF.put inj s r)
theorem RlF.len : ∀ {d : List (Nat × D)} {v : List (Str × V)}, RlF K Z F d v → d.length = v.length
  | _, _, .nil => rfl
  | _, _, .cons _ r => congrArg (· + 1) (RlF.len r)
end

/-! ### worlds, stores -/
/-- what is known for ever; where the store's things stand; what nothing here touches -/
structure Wd where
  F : Hp
  am : List Addr
  pn : Addr → Option HO
def Wd.le (W W' : Wd) : Prop := Ex W.F W'.F ∧ (∃ t, W'.am = W.am ++ t) ∧ W'.pn = W.pn
theorem Wd.le.refl (W : Wd) : W.le W := ⟨Ex.refl _, ⟨[], by simp⟩, rfl⟩
theorem Wd.le.trans {W W1 W2 : Wd} (a : W.le W1) (b : W1.le W2) : W.le W2 := by
  obtain ⟨h1, ⟨t1, e1⟩, p1⟩ := a
  obtain ⟨h2, ⟨t2, e2⟩, p2⟩ := b
  exact ⟨h1.trans h2, ⟨t1 ++ t2, by rw [e2, e1, List.append_assoc]⟩, p2.trans p1⟩
theorem Wd.le.at {W W' : Wd} (a : W.le W') {n : Nat} {p : Addr} (h : W.am[n]? = some p) : W'.am[n]? = some p := by
  obtain ⟨_, ⟨t, e⟩, _⟩ := a
  rw [e, List.getElem?_append_left (List.getElem?_eq_some_iff.mp h).1]
  exact h
theorem Wd.le.know {W : Wd} {G : Hp} (e : Ex W.F G) : W.le ⟨G, W.am, W.pn⟩ := ⟨e, ⟨[], by simp⟩, rfl⟩
def Rv (K : PySem.W.Frag) (Z : Sx) (W : Wd) : Vl → V → Prop
  | .d x, v => Rl K Z W.F x v
  | .ref n, v => ∃ a, W.am[n]? = some a ∧ v = .ref a
theorem Rv.mono {K : PySem.W.Frag} {Z : Sx} {W W' : Wd} (a : W.le W') : ∀ {x : Vl} {v : V}, Rv K Z W x v → Rv K Z W' x v
  | .d _, _, h => Rl.mono a.1 h
  | .ref _, _, ⟨p, h, e⟩ => ⟨p, a.at h, e⟩
inductive RvL (K : PySem.W.Frag) (Z : Sx) (W : Wd) : List Vl → List V → Prop
  | nil : RvL K Z W [] []
  | cons {d : Vl} {v : V} {ds : List Vl} {vs : List V} : Rv K Z W d v → RvL K Z W ds vs → RvL K Z W (d :: ds) (v :: vs)
theorem RvL.mono {K : PySem.W.Frag} {Z : Sx} {W W' : Wd} (a : W.le W') : ∀ {x : List Vl} {v : List V}, RvL K Z W x v → RvL K Z W' x v
  | _, _, .nil => .nil
  | _, _, .cons h r => .cons (Rv.mono a h) (RvL.mono a r)
theorem RvL.len {K : PySem.W.Frag} {Z : Sx} {W : Wd} : ∀ {d : List Vl} {v : List V}, RvL K Z W d v → d.length = v.length
  | _, _, .nil => rfl
  | _, _, .cons _ r => congrArg (· + 1) (RvL.len r)
def CellOk (K : PySem.W.Frag) (Z : Sx) (F H : Hp) (a : Addr) : Cell → Prop
  | .lst ds => ∃ vs, H a = some (.lst vs) ∧ ds.length ≤ sizeLine ∧ RlL K Z F ds vs ∧ F a = none
  | .ins c fs => ∃ dx gs, H a = some (.ins (Z.ca c) dx gs) ∧ H dx = some (.own a) ∧ RlF K Z F fs gs ∧ F a = none
  | .fz x => Rl K Z F x (.ref a)
/-- neither a dict's mark nor an own look -/
structure NoX (o : HO) : Prop where
  own : ∀ x, o ≠ .own x
  ext : ∀ φ, o ≠ .ext φ
structure Sto (K : PySem.W.Frag) (Z : Sx) (W : Wd) (S : Store) (H : Hp) : Prop where
  ex : Ex W.F H
  len : S.length = W.am.length
  cell : ∀ (n : Nat) (c : Cell) (a : Addr), S[n]? = some c → W.am[n]? = some a → CellOk K Z W.F H a c
  inj : ∀ (n m : Nat) (a : Addr), W.am[n]? = some a → W.am[m]? = some a → n = m
  there : ∀ (n : Nat) (a : Addr), W.am[n]? = some a → H a ≠ none
  pin : ∀ (a : Addr) (o : HO), W.pn a = some o → H a = some o ∧ W.F a = none ∧ (∀ n : Nat, W.am[n]? ≠ some a) ∧ NoX o
  tab : ∀ p ∈ Z.tb, LamX.TabS H p.1 p.2 ∧ W.F p.1 = none ∧ W.pn p.1 = none
theorem tabS_ne {H : Hp} {P : Addr} {q : Str} (t : LamX.TabS H P q) {b : Addr} (h : H b = none) : P ≠ b := fun z => by
  obtain ⟨ps, h1, _⟩ := t
  rw [z, h] at h1
  cases h1
theorem tabS_at {H : Hp} {P : Addr} {q : Str} (t : LamX.TabS H P q) {b : Addr} {o : HO} (h : H b = some o) (n : ∀ ps, o ≠ .tbl ps) : P ≠ b := fun z => by
  obtain ⟨ps, h1, _⟩ := t
  rw [z, h] at h1
  cases h1
  exact n _ rfl
/-- what is neither a table nor a code object may change -/
theorem tabS_upd {H : Hp} {P : Addr} {q : Str} (t : LamX.TabS H P q) {b : Addr} {o : HO} (h1 : ∀ ps, H b ≠ some (.tbl ps)) (h2 : ∀ φ, H b ≠ some (.ext φ)) : LamX.TabS (upd H b o) P q := by
  obtain ⟨ps, e1, e2, e3⟩ := t
  refine ⟨ps, by rw [upd_ne (fun z => h1 ps (by rw [← z]; exact e1))]; exact e1, e2, fun pos cv hc => ?_⟩
  obtain ⟨c, f1, f2⟩ := e3 pos cv hc
  exact ⟨c, f1, by rw [upd_ne (fun z => h2 _ (by rw [← z]; exact f2))]; exact f2⟩
def EnvR (K : PySem.W.Frag) (Z : Sx) (W : Wd) (ρ : Env) (σ : L2.St) : Prop := ρ.length = σ.length ∧ ∀ (i : Nat) (v : Vl), ρ[i]? = some (some v) → ∃ u, σ[i]? = some (some u) ∧ Rv K Z W v u
section
variable {K : PySem.W.Frag} {Z : Sx} {W W' : Wd} {S : Store} {H H' : Hp} {ρ : Env} {σ : L2.St}
theorem EnvR.mono (a : W.le W') (h : EnvR K Z W ρ σ) : EnvR K Z W' ρ σ := ⟨h.1, fun i v e => let ⟨u, h1, h2⟩ := h.2 i v e; ⟨u, h1, h2.mono a⟩⟩
theorem EnvR.set {i : Nat} {v : Vl} {u : V} (h : EnvR K Z W ρ σ) (r : Rv K Z W v u) : EnvR K Z W (ρ.set i (some v)) (σ.set i (some u)) := by
  refine ⟨by simp [h.1], fun j w e => ?_⟩
  by_cases q : i = j
  · subst q
    by_cases hl : i < ρ.length
    · rw [List.getElem?_set_self hl] at e
      cases e
      exact ⟨u, by rw [List.getElem?_set_self (by rw [← h.1]; exact hl)], r⟩
    · rw [List.getElem?_eq_none (by simpa using hl)] at e
      cases e
  · rw [List.getElem?_set_ne q] at e ⊢
    exact h.2 j w e
theorem EnvR.drop {i : Nat} (h : EnvR K Z W ρ σ) : EnvR K Z W (ρ.set i none) (σ.set i none) := by
  refine ⟨by simp [h.1], fun j w e => ?_⟩
  by_cases q : i = j
  · subst q
    by_cases hl : i < ρ.length
    · rw [List.getElem?_set_self hl] at e
      cases e
    · rw [List.getElem?_eq_none (by simpa using hl)] at e
      cases e
  · rw [List.getElem?_set_ne q] at e ⊢
    exact h.2 j w e
theorem EnvR.wipe (h : EnvR K Z W ρ σ) : ∀ vs : List Nat, EnvR K Z W (Wk.wipe ρ vs) (L2.wipe σ vs)
  | [] => h
  | _ :: vs => (EnvR.wipe h vs).drop

theorem Sto.addr (s : Sto K Z W S H) {n : Nat} {c : Cell} (e : S[n]? = some c) : ∃ a, W.am[n]? = some a := by
  have h := (List.getElem?_eq_some_iff.mp e).1
  rw [s.len] at h
  exact ⟨W.am[n], List.getElem?_eq_getElem h⟩
/-- a value looked at -/
theorem Sto.vw (s : Sto K Z W S H) {v : Vl} {u : V} {x : D} (r : Rv K Z W v u) (e : Wk.vw S v = some x) : Rl K Z H x u := by
  cases v with
  | d y =>
    cases e
    exact Rl.mono s.ex r
  | ref n =>
    obtain ⟨a, ha, rfl⟩ := r
    unfold Wk.vw at e
    cases hc : S[n]? with
    | none =>
      simp only [hc] at e
      cases e
    | some c =>
      simp only [hc] at e
      have k := s.cell n c a hc ha
      cases c with
      | lst ds =>
        cases e
        obtain ⟨vs, h1, h2, h3, _⟩ := k
        exact .lst h1 h2 (RlL.mono s.ex h3)
      | ins c fs =>
        cases e
        obtain ⟨dx, gs, h1, h2, h3, _⟩ := k
        exact .ins h1 h2 (RlF.mono s.ex h3)
      | fz y =>
        cases e
        exact Rl.mono s.ex k
/-- the heap has grown by what the store does not hold -/
theorem Sto.grow (s : Sto K Z W S H) {p : Addr} {o : HO} (hp : H p = none) : Sto K Z W S (upd H p o) := by
  refine ⟨s.ex.trans (Ex.new hp), s.len, fun n c a hc ha => ?_, s.inj, fun n a ha => ?_, fun a xs hx => ?_, fun q hm => ⟨(s.tab q hm).1.ext (Ex.new hp), (s.tab q hm).2⟩⟩
  · have k := s.cell n c a hc ha
    have ne : a ≠ p := fun q => s.there n a ha (q ▸ hp)
    cases c with
    | lst ds =>
      obtain ⟨vs, h1, h2, h3, h4⟩ := k
      exact ⟨vs, by rw [upd_ne ne]; exact h1, h2, h3, h4⟩
    | ins c fs =>
      obtain ⟨dx, gs, h1, h2, h3, h4⟩ := k
      exact ⟨dx, gs, by rw [upd_ne ne]; exact h1, by rw [upd_ne (ne_of_none h2 hp)]; exact h2, h3, h4⟩
    | fz y => exact k
  · by_cases q : a = p
    · rw [q, upd_same]
      exact fun z => nomatch z
    · rw [upd_ne q]
      exact s.there n a ha
  · obtain ⟨h1, h2, h3⟩ := s.pin a xs hx
    exact ⟨by rw [upd_ne (ne_of_none h1 hp)]; exact h1, h2, h3⟩
/-- what stands is known from now on -/
theorem Sto.know (s : Sto K Z W S H) {G : Hp} (e : Ex W.F G) (e' : Ex G H) (hn : ∀ (n : Nat) (c : Cell) (a : Addr), S[n]? = some c → W.am[n]? = some a → (∀ x, c ≠ .fz x) → G a = none) (hp : ∀ (a : Addr) (xs : HO), W.pn a = some xs → G a = none)
    (ht : ∀ p ∈ Z.tb, G p.1 = none) : Sto K Z ⟨G, W.am, W.pn⟩ S H := by
  refine ⟨e', s.len, fun n c a hc ha => ?_, s.inj, s.there, fun a xs hx => ⟨(s.pin a xs hx).1, hp a xs hx, (s.pin a xs hx).2.2⟩, fun p hm => ⟨(s.tab p hm).1, ht p hm, (s.tab p hm).2.2⟩⟩
  have k := s.cell n c a hc ha
  cases c with
  | lst ds =>
    obtain ⟨vs, h1, h2, h3, h4⟩ := k
    exact ⟨vs, h1, h2, RlL.mono e h3, hn n _ a hc ha fun _ z => nomatch z⟩
  | ins c fs =>
    obtain ⟨dx, gs, h1, h2, h3, h4⟩ := k
    exact ⟨dx, gs, h1, h2, RlF.mono e h3, hn n _ a hc ha fun _ z => nomatch z⟩
  | fz y => exact Rl.mono e k
/-- a new object, known at once -/
theorem Sto.new (s : Sto K Z W S H) {p : Addr} {o : HO} (hp : H p = none) : Sto K Z ⟨upd W.F p o, W.am, W.pn⟩ S (upd H p o) := by
  refine Sto.know (W := W) (s.grow hp) (Ex.new (s.ex.free hp)) s.ex.both (fun n c a hc ha hx => ?_) (fun a xs hx => ?_) (fun q hm => ?_)
  · have ne : a ≠ p := fun q => s.there n a ha (q ▸ hp)
    rw [upd_ne ne]
    have k := s.cell n c a hc ha
    cases c with
    | lst ds => exact k.choose_spec.2.2.2
    | ins c fs =>
      obtain ⟨_, _, _, _, _, h4⟩ := k
      exact h4
    | fz y => exact absurd rfl (hx y)
  · obtain ⟨h1, h2, _⟩ := s.pin a xs hx
    rw [upd_ne (ne_of_none h1 hp)]
    exact h2
  · rw [upd_ne (tabS_ne (s.tab q hm).1 hp)]
    exact (s.tab q hm).2.1
theorem Wd.le.new {p : Addr} {o : HO} (h : W.F p = none) : W.le ⟨upd W.F p o, W.am, W.pn⟩ := Wd.le.know (Ex.new h)
end
end Wk

set_option Elab.async false
set_option linter.all false
set_option maxRecDepth 100000
/-! WkC: freezing; readings by what the core language computes. -/
namespace Wk
open PySem PySem.Spec L2
section
variable {K : PySem.W.Frag} {Z : Sx} {W W' : Wd} {S S' : Store} {H H' : Hp} {ρ : Env} {σ : L2.St}
theorem Ex.told {F H : Hp} {p : Addr} {o : HO} (e : Ex F H) (h : H p = some o) : Ex F (upd F p o) := fun a u ha => by
  by_cases q : a = p
  · rw [q, upd_same]
    rw [q] at ha
    rw [← h, e p u ha]
  · rw [upd_ne q]
    exact ha
theorem CellOk.live {F H : Hp} {a : Addr} {c : Cell} (k : CellOk K Z F H a c) (hx : ∀ x, c ≠ .fz x) : F a = none ∧ ∀ y, H a ≠ some (.own y) := by
  cases c with
  | lst ds =>
    obtain ⟨vs, h1, h2, h3, h4⟩ := k
    exact ⟨h4, fun y z => by rw [h1] at z; cases z⟩
  | ins c fs =>
    obtain ⟨dx, gs, h1, h2, h3, h4⟩ := k
    exact ⟨h4, fun y z => by rw [h1] at z; cases z⟩
  | fz y => exact absurd rfl (hx y)
/-- a cell is put in the place of another one, nothing else -/
theorem Sto.put (s : Sto K Z W S H) {n : Nat} {c : Cell} (k : ∀ a, W.am[n]? = some a → CellOk K Z W.F H a c) : Sto K Z W (S.set n c) H := by
  refine ⟨s.ex, by rw [List.length_set]; exact s.len, fun m d a hd ha => ?_, s.inj, s.there, s.pin, s.tab⟩
  by_cases q : n = m
  · subst q
    have hl : n < S.length := by
      have := (List.getElem?_eq_some_iff.mp hd).1
      rwa [List.length_set] at this
    rw [List.getElem?_set_self hl] at hd
    cases hd
    exact k a ha
  · rw [List.getElem?_set_ne q] at hd
    exact s.cell m d a hd ha
/-- frozen -/
theorem Sto.frz (s : Sto K Z W S H) {v : Vl} {u : V} {x : D} (r : Rv K Z W v u) (e : Wk.frz v S = .ok x S') : ∃ W', W.le W' ∧ Sto K Z W' S' H ∧ Rl K Z W'.F x u ∧ W'.am = W.am := by
  cases v with
  | d y =>
    cases e
    exact ⟨W, Wd.le.refl W, s, r, rfl⟩
  | ref n =>
    obtain ⟨a, ha, rfl⟩ := r
    unfold Wk.frz at e
    cases hv : Wk.vw S (.ref n) with
    | none =>
      simp only [hv] at e
      cases e
    | some y =>
      simp only [hv] at e
      cases e
      unfold Wk.vw at hv
      cases hc : S[n]? with
      | none =>
        simp only [hc] at hv
        cases hv
      | some c =>
        simp only [hc] at hv
        have k := s.cell n c a hc ha
        have other : ∀ (G : Hp), (∀ b, b ≠ a → (∀ y, H b ≠ some (.own y)) → W.F b = none → G b = none) → ∀ (m : Nat) (d : Cell) (b : Addr), (S.set n (.fz x))[m]? = some d → W.am[m]? = some b → (∀ x, d ≠ .fz x) → G b = none := fun G hG m d b hd hb hx => by
          have hm : n ≠ m := fun q => by
            subst q
            have hl : n < S.length := (List.getElem?_eq_some_iff.mp hc).1
            rw [List.getElem?_set_self hl] at hd
            cases hd
            exact hx x rfl
          rw [List.getElem?_set_ne hm] at hd
          obtain ⟨q1, q2⟩ := (s.cell m d b hd hb).live hx
          exact hG b (fun q => hm (s.inj n m a ha (q ▸ hb))) q2 q1
        cases c with
        | lst ds =>
          cases hv
          obtain ⟨vs, h1, h2, h3, h4⟩ := k
          have e1 : Ex W.F (upd W.F a (.lst vs)) := Ex.new h4
          have e2 : Ex (upd W.F a (.lst vs)) H := s.ex.tell h1
          have rr : Rl K Z (upd W.F a (.lst vs)) (.lst ds) (.ref a) := .lst upd_same h2 (RlL.mono e1 h3)
          have sp : Sto K Z ⟨upd W.F a (.lst vs), W.am, W.pn⟩ (S.set n (.fz (.lst ds))) H := by
            have base : Sto K Z ⟨upd W.F a (.lst vs), W.am, W.pn⟩ (S.set n (.fz (.lst ds))) H := by
              refine ⟨e2, by rw [List.length_set]; exact s.len, fun m d b hd hb => ?_, s.inj, s.there, fun b xs hx => by
                obtain ⟨p1, p2, p3, p4⟩ := s.pin b xs hx
                refine ⟨p1, ?_, p3, p4⟩
                have nb : b ≠ a := fun q => p3 n (q ▸ ha)
                show upd W.F a (.lst vs) b = none
                rw [upd_ne nb]
                exact p2, fun p hm => ⟨(s.tab p hm).1, by
                show upd W.F a (.lst vs) p.1 = none
                rw [upd_ne (tabS_at (s.tab p hm).1 h1 fun _ z => nomatch z)]
                exact (s.tab p hm).2.1, (s.tab p hm).2.2⟩⟩
              by_cases q : n = m
              · subst q
                have hl : n < S.length := (List.getElem?_eq_some_iff.mp hc).1
                rw [List.getElem?_set_self hl] at hd
                cases hd
                rw [ha] at hb
                cases hb
                exact rr
              · have hd' : S[m]? = some d := by rwa [List.getElem?_set_ne q] at hd
                have k := s.cell m d b hd' hb
                have nb := other (upd W.F a (.lst vs)) (fun b hb _ hf => by rw [upd_ne hb]; exact hf) m d b hd hb
                cases d with
                | lst ds' =>
                  obtain ⟨vs', g1, g2, g3, g4⟩ := k
                  exact ⟨vs', g1, g2, RlL.mono e1 g3, nb fun _ z => nomatch z⟩
                | ins c' fs' =>
                  obtain ⟨dx', gs', g1, g2, g3, g4⟩ := k
                  exact ⟨dx', gs', g1, g2, RlF.mono e1 g3, nb fun _ z => nomatch z⟩
                | fz y' => exact Rl.mono e1 k
            exact base
          exact ⟨_, Wd.le.know e1, sp, rr, rfl⟩
        | ins c fs =>
          cases hv
          obtain ⟨dx, gs, h1, h2, h3, h4⟩ := k
          have e0 : Ex W.F (upd W.F dx (.own a)) := s.ex.told h2
          have e0' : Ex (upd W.F dx (.own a)) H := s.ex.tell h2
          have e1 : Ex W.F (upd (upd W.F dx (.own a)) a (.ins (Z.ca c) dx gs)) := e0.trans (e0'.told h1)
          have e2 : Ex (upd (upd W.F dx (.own a)) a (.ins (Z.ca c) dx gs)) H := e0'.tell h1
          have ned : dx ≠ a := fun q => by
            rw [q, h1] at h2
            cases h2
          have rr : Rl K Z (upd (upd W.F dx (.own a)) a (.ins (Z.ca c) dx gs)) (.ins c fs) (.ref a) := .ins upd_same (by rw [upd_ne ned, upd_same]) (RlF.mono e1 h3)
          refine ⟨⟨upd (upd W.F dx (.own a)) a (.ins (Z.ca c) dx gs), W.am, W.pn⟩, Wd.le.know e1, ?_, rr, rfl⟩
          refine ⟨e2, by rw [List.length_set]; exact s.len, fun m d b hd hb => ?_, s.inj, s.there, fun b xs hx => by
            obtain ⟨p1, p2, p3, p4⟩ := s.pin b xs hx
            refine ⟨p1, ?_, p3, p4⟩
            have nb : b ≠ a := fun q => p3 n (q ▸ ha)
            have nd : b ≠ dx := fun q => by
              rw [q, h2] at p1
              cases p1
              exact p4.own _ rfl
            show upd (upd W.F dx (.own a)) a (.ins (Z.ca c) dx gs) b = none
            rw [upd_ne nb, upd_ne nd]
            exact p2, fun p hm => ⟨(s.tab p hm).1, by
            show upd (upd W.F dx (.own a)) a (.ins (Z.ca c) dx gs) p.1 = none
            rw [upd_ne (tabS_at (s.tab p hm).1 h1 fun _ z => nomatch z), upd_ne (tabS_at (s.tab p hm).1 h2 fun _ z => nomatch z)]
            exact (s.tab p hm).2.1, (s.tab p hm).2.2⟩⟩
          by_cases q : n = m
          · subst q
            have hl : n < S.length := (List.getElem?_eq_some_iff.mp hc).1
            rw [List.getElem?_set_self hl] at hd
            cases hd
            rw [ha] at hb
            cases hb
            exact rr
          · have hd' : S[m]? = some d := by rwa [List.getElem?_set_ne q] at hd
            have k := s.cell m d b hd' hb
            have nb := other (upd (upd W.F dx (.own a)) a (.ins (Z.ca c) dx gs)) (fun b hb ho hf => by
              have : b ≠ dx := fun z => ho a (z ▸ h2)
              rw [upd_ne hb, upd_ne this]
              exact hf) m d b hd hb
            cases d with
            | lst ds' =>
              obtain ⟨vs', g1, g2, g3, g4⟩ := k
              exact ⟨vs', g1, g2, RlL.mono e1 g3, nb fun _ z => nomatch z⟩
            | ins c' fs' =>
              obtain ⟨dx', gs', g1, g2, g3, g4⟩ := k
              exact ⟨dx', gs', g1, g2, RlF.mono e1 g3, nb fun _ z => nomatch z⟩
            | fz y' => exact Rl.mono e1 k
        | fz y =>
          cases hv
          have e0 : S.set n (.fz x) = S := by
            refine List.ext_getElem? fun m => ?_
            by_cases q : n = m
            · subst q
              rw [List.getElem?_set_self (List.getElem?_eq_some_iff.mp hc).1, hc]
            · rw [List.getElem?_set_ne q]
          rw [e0]
          exact ⟨W, Wd.le.refl W, s, k, rfl⟩
theorem frz_noexc {v : Vl} {x : Exn} : Wk.frz v S ≠ .exc x S' := by
  intro z
  unfold Wk.frz at z
  split at z
  · cases z
  · split at z <;> cases z
theorem Sto.frzL : ∀ {vs : List Vl} {us : List V} {xs : List D} {W : Wd} {S : Store}, Sto K Z W S H → RvL K Z W vs us → Wk.frzL vs S = .ok xs S' → ∃ W', W.le W' ∧ Sto K Z W' S' H ∧ RlL K Z W'.F xs us ∧ W'.am = W.am
  | [], _, _, W, S, s, .nil, e => by
    cases e
    exact ⟨W, Wd.le.refl W, s, .nil, rfl⟩
  | v :: vs, u :: us, xs, W, S, s, .cons r rs, e => by
    unfold Wk.frzL at e
    cases h1 : Wk.frz v S with
    | exc x S1 => exact absurd h1 frz_noexc
    | bad =>
      rw [h1] at e
      cases e
    | ok x S1 =>
      rw [h1] at e
      change (Wk.frzL vs S1).bind _ = _ at e
      cases h2 : Wk.frzL vs S1 with
      | exc x S2 =>
        rw [h2] at e
        cases e
      | bad =>
        rw [h2] at e
        cases e
      | ok ys S2 =>
        rw [h2] at e
        cases e
        obtain ⟨W1, l1, s1, r1, a1⟩ := s.frz r h1
        obtain ⟨W2, l2, s2, r2, a2⟩ := Sto.frzL s1 (rs.mono l1) h2
        exact ⟨W2, l1.trans l2, s2, .cons (Rl.mono l2.1 r1) r2, a2.trans a1⟩
theorem Sto.vwL (s : Sto K Z W S H) : ∀ {vs : List Vl} {us : List V} {xs : List D}, RvL K Z W vs us → Wk.vwL S vs = some xs → RlL K Z H xs us
  | [], _, _, .nil, e => by
    cases e
    exact .nil
  | v :: vs, _, _, .cons r rs, e => by
    unfold Wk.vwL at e
    cases h1 : Wk.vw S v with
    | none =>
      simp only [h1] at e
      cases e
    | some x =>
      cases h2 : Wk.vwL S vs with
      | none =>
        simp only [h1, h2] at e
        cases e
      | some ys =>
        simp only [h1, h2] at e
        cases e
        exact .cons (s.vw r h1) (Sto.vwL s rs h2)
end

/-! ### what is wanted of an end -/
/-- how an exception lies: its class, its own dict -/
def Xr (K : PySem.W.Frag) (Z : Sx) (W : Wd) (H : Hp) (x : Exn) (cls : Value) (dd : Option Addr) : Prop :=
  cls = .ref (Z.xa x.c) ∧ ∃ d gs, dd = some d ∧ W.F d = some (.xd gs) ∧ RlF K Z W.F x.fs gs
section
variable {α β γ δ : Type} {K : PySem.W.Frag} {Z : Sx} {E : WX} {R : Wd → α → β → Prop} {R' : Wd → γ → δ → Prop} {W W' : Wd} {σ : L2.St}
def Po (K : PySem.W.Frag) (Z : Sx) (E : WX) (R : Wd → α → β → Prop) (W : Wd) (σ : L2.St) (Q : β → Hp → Prop) : Res α → Prop
  | .ok v S' => ∀ (W' : Wd) (u : β) (H' : Hp), W.le W' → Sto K Z W' S' H' → R W' v u → Q u H'
  | .exc x S' => ∀ (W' : Wd) (cls : Value) (dd : Option Addr) (H' : Hp), W.le W' → Sto K Z W' S' H' → Xr K Z W' H' x cls dd → E cls dd σ H'
  | .bad => False
theorem Po.mono {Q : β → Hp → Prop} {r : Res α} (l : W.le W') (h : Po K Z E R W σ Q r) : Po K Z E R W' σ Q r := by
  cases r with
  | ok v S => exact fun W1 u H l1 => h W1 u H (l.trans l1)
  | exc x S => exact fun W1 c d H l1 => h W1 c d H (l.trans l1)
  | bad => exact h
theorem Po.imp {Q Q' : β → Hp → Prop} {r : Res α} (h : Po K Z E R W σ Q r) (i : ∀ u H, Q u H → Q' u H) : Po K Z E R W σ Q' r := by
  cases r with
  | ok v S => exact fun W1 u H l1 s p => i u H (h W1 u H l1 s p)
  | exc x S => exact h
  | bad => exact h
/-- what stands behind the first part -/
def Bh (K : PySem.W.Frag) (Z : Sx) (R : Wd → α → β → Prop) (W : Wd) (b : β) (H1 : Hp) (P : Wd → α → Store → Prop) : Prop := ∃ W1 a S1, W.le W1 ∧ Sto K Z W1 S1 H1 ∧ R W1 a b ∧ P W1 a S1
theorem Po.bind {Q : δ → Hp → Prop} {r : Res α} {k : α → Store → Res γ} (h : Po K Z E R' W σ Q (r.bind k)) :
    Po K Z E R W σ (fun b H1 => Bh K Z R W b H1 fun W1 a S1 => Po K Z E R' W1 σ Q (k a S1)) r := by
  cases r with
  | ok v S => exact fun W1 b H1 l s p => ⟨W1, v, S, l, s, p, Po.mono l h⟩
  | exc x S => exact h
  | bad => exact h
/-- an expression's reading by what it computes -/
def rdE (K : PySem.W.Frag) (Z : Sx) (E : WX) (m : Env → Store → Res Vl) : TE := fun σ H Q => ∃ W ρ S, EnvR K Z W ρ σ ∧ Sto K Z W S H ∧ Po K Z E (Rv K Z) W σ Q (m ρ S)
def rdT (K : PySem.W.Frag) (Z : Sx) (E : WX) (m : Env → Store → Res Bool) : TT := fun σ H Q => ∃ W ρ S, EnvR K Z W ρ σ ∧ Sto K Z W S H ∧ Po K Z E (fun _ a b => a = b) W σ Q (m ρ S)
def rdA (K : PySem.W.Frag) (Z : Sx) (E : WX) (m : Env → Store → Res (List Vl)) : TA := fun σ H Q => ∃ W ρ S, EnvR K Z W ρ σ ∧ Sto K Z W S H ∧ Po K Z E (RvL K Z) W σ Q (m ρ S)
end
theorem PE.imp {X : Cx} {e : Expr} {t t' : TE} (h : PE X e t) (i : ∀ σ H Q, t' σ H Q → t σ H Q) : PE X e t' := ⟨fun pins s σ H Q I q => h.run pins s σ H Q I (i σ H Q q)⟩
theorem PT.imp {X : Cx} {e : Expr} {t t' : TT} (h : PT X e t) (i : ∀ σ H Q, t' σ H Q → t σ H Q) : PT X e t' := ⟨fun pins s σ H Q I q => h.run pins s σ H Q I (i σ H Q q)⟩
theorem PA.imp {X : Cx} {e : List Expr} {t t' : TA} (h : PA X e t) (i : ∀ σ H Q, t' σ H Q → t σ H Q) : PA X e t' := ⟨fun pos pins s σ H Q I q => h.run pos pins s σ H Q I (i σ H Q q)⟩
theorem PS.imp {X : Cx} {e : Stmt} {t t' : TS} (h : PS X e t) (i : ∀ D σ H, t' D σ H → t D σ H) : PS X e t' := ⟨fun pins s σ H D I q => h.run pins s σ H D I (i D σ H q)⟩
theorem PSs.imp {X : Cx} {e : List Stmt} {t t' : TS} (h : PSs X e t) (i : ∀ D σ H, t' D σ H → t D σ H) : PSs X e t' := ⟨fun pins s σ H D I q => h.run pins s σ H D I (i D σ H q)⟩
end Wk

set_option Elab.async false
set_option linter.all false
set_option maxRecDepth 100000
set_option maxHeartbeats 1000000
/-! WkD: operators. -/
namespace Wk
open PySem PySem.Spec L2
open PyProof.Rows hiding St

/-- a value looked at: what it is itself stands now, what is in it is known -/
inductive Tv (K : PySem.W.Frag) (Z : Sx) (F H : Hp) : D → V → Prop
  | non : Tv K Z F H .non .non
  | bl (b : Bool) : Tv K Z F H (.bl b) (.bl b)
  | int (i : Int) : Tv K Z F H (.int i) (.int i)
  | str (s : Str) : Tv K Z F H (.str s) (.str s)
  | tup {a : Addr} {vs : List V} {ds : List D} : SqT K F a vs → ds.length ≤ sizeLine → RlL K Z F ds vs → Tv K Z F H (.tup ds) (.ref a)
  | lst {a : Addr} {vs : List V} {ds : List D} : H a = some (.lst vs) → ds.length ≤ sizeLine → RlL K Z F ds vs → Tv K Z F H (.lst ds) (.ref a)
  | dct {a : Addr} {kvs : List (Sum Int Str × D)} {kws : List (Sum Int Str × V)} : F a = some (.dK kws) → RlK K Z F kvs kws → Tv K Z F H (.dct kvs) (.ref a)
  | ins {a dx : Addr} {c : Nat} {fs : List (Nat × D)} {gs : List (Str × V)} : H a = some (.ins (Z.ca c) dx gs) → H dx = some (.own a) → RlF K Z F fs gs → Tv K Z F H (.ins c fs) (.ref a)
  | exn {a dx : Addr} {c : Nat} {fs : List (Nat × D)} {gs : List (Str × V)} : F a = some (XO (.ref (Z.xa c)) dx a) → F dx = some (.xd gs) → RlF K Z F fs gs → Tv K Z F H (.exn c fs) (.ref a)
  | scr {a : Addr} {ns : List Int} : SqL K F a (ns.map V.int) → ns.length ≤ sizeLine → Tv K Z F H (.scr ns) (.ref a)
section
variable {K : PySem.W.Frag} {Z : Sx} {W W' : Wd} {S S' : Store} {F G H H' : Hp} {ρ : Env} {σ : L2.St}
theorem Rl.tv {d : D} {v : V} (e : Ex F H) (r : Rl K Z F d v) : Tv K Z F H d v := by
  cases r with
  | non => exact .non
  | bl b => exact .bl b
  | int i => exact .int i
  | str s => exact .str s
  | tup h n r => exact .tup h n r
  | lst h n r => exact .lst (e _ _ h) n r
  | dct h r => exact .dct h r
  | ins h h' r => exact .ins (e _ _ h) (e _ _ h') r
  | exn h h' r => exact .exn h h' r
  | scr h n => exact .scr h n
theorem Sto.tv (s : Sto K Z W S H) {v : Vl} {u : V} {x : D} (r : Rv K Z W v u) (e : Wk.vw S v = some x) : Tv K Z W.F H x u := by
  cases v with
  | d y =>
    cases e
    exact Rl.tv s.ex r
  | ref n =>
    obtain ⟨a, ha, rfl⟩ := r
    unfold Wk.vw at e
    cases hc : S[n]? with
    | none =>
      simp only [hc] at e
      cases e
    | some c =>
      simp only [hc] at e
      have k := s.cell n c a hc ha
      cases c with
      | lst ds =>
        cases e
        obtain ⟨vs, h1, h2, h3, _⟩ := k
        exact .lst h1 h2 h3
      | ins c fs =>
        cases e
        obtain ⟨dx, gs, h1, h2, h3, _⟩ := k
        exact .ins h1 h2 h3
      | fz y =>
        cases e
        exact Rl.tv s.ex k
/-- the knowledge grows, the heap too -/
theorem Tv.mono {d : D} {v : V} (e : Ex F G) (e' : Ex H H') (r : Tv K Z F H d v) : Tv K Z G H' d v := by
  cases r with
  | non => exact .non
  | bl b => exact .bl b
  | int i => exact .int i
  | str s => exact .str s
  | tup h n r => exact .tup (e.t h) n (RlL.mono e r)
  | lst h n r => exact .lst (e' _ _ h) n (RlL.mono e r)
  | dct h r => exact .dct (e _ _ h) (RlK.mono e r)
  | ins h h' r => exact .ins (e' _ _ h) (e' _ _ h') (RlF.mono e r)
  | exn h h' r => exact .exn (e _ _ h) (e _ _ h') (RlF.mono e r)
  | scr h n => exact .scr (e.l h) n
mutual
theorem Rl.dp : ∀ {d : D} {v : V} {p : PyData}, Rl K Z F d v → Wk.py d = some p → Dp K F v p
  | _, _, _, .non, e => by
    simp only [Wk.py] at e
    cases e
    exact .non
  | _, _, _, .bl b, e => by
    simp only [Wk.py] at e
    cases e
    exact .bl b
  | _, _, _, .int i, e => by
    simp only [Wk.py] at e
    cases e
    exact .int i
  | _, _, _, .str s, e => by
    simp only [Wk.py] at e
    cases e
    exact .str s
  | .tup ds, _, _, .tup h n r, e => by
    simp only [Wk.py] at e
    cases q : Wk.pyL ds with
    | none =>
      rw [q] at e
      cases e
    | some ps =>
      rw [q] at e
      cases e
      exact .tup h (RlL.dp r q)
  | .lst ds, _, _, .lst h n r, e => by
    simp only [Wk.py] at e
    cases q : Wk.pyL ds with
    | none =>
      rw [q] at e
      cases e
    | some ps =>
      rw [q] at e
      cases e
      exact .lst (SqL.of h) (RlL.dp r q)
  | _, _, _, .dct _ _, e => by
    simp only [Wk.py] at e
    cases e
  | _, _, _, .ins _ _ _, e => by
    simp only [Wk.py] at e
    cases e
  | _, _, _, .exn _ _ _, e => by
    simp only [Wk.py] at e
    cases e
  | _, _, _, .scr _ _, e => by
    simp only [Wk.py] at e
    cases e
theorem RlL.dp : ∀ {d : List D} {v : List V} {p : List PyData}, RlL K Z F d v → Wk.pyL d = some p → DpAll K F v p
  | _, _, _, .nil, e => by
    simp only [Wk.pyL] at e
    cases e
    exact .nil
  | d :: ds, _, _, .cons h r, e => by
    simp only [Wk.pyL] at e
    cases q1 : Wk.py d with
    | none =>
      rw [q1] at e
      cases e
    | some a =>
      cases q2 : Wk.pyL ds with
      | none =>
        rw [q1, q2] at e
        cases e
      | some as =>
        rw [q1, q2] at e
        cases e
        exact .cons (Rl.dp h q1) (RlL.dp r q2)
end
mutual
theorem dp_mono (e : Ex F G) : ∀ {v : V} {p : PyData}, Dp K F v p → Dp K G v p
  | _, _, .non => .non
  | _, _, .bl b => .bl b
  | _, _, .int i => .int i
  | _, _, .str s => .str s
  | _, _, .lst h r => .lst (e.l h) (dpL_mono e r)
  | _, _, .tup h r => .tup (e.t h) (dpL_mono e r)
theorem dpL_mono (e : Ex F G) : ∀ {v : List V} {p : List PyData}, DpAll K F v p → DpAll K G v p
  | _, _, .nil => .nil
  | _, _, .cons h r => .cons (dp_mono e h) (dpL_mono e r)
end
theorem Tv.dp {d : D} {v : V} {p : PyData} (ex : Ex F H) (t : Tv K Z F H d v) (e : Wk.py d = some p) : Dp K H v p := by
  cases t with
  | non =>
    simp only [Wk.py] at e
    cases e
    exact .non
  | bl b =>
    simp only [Wk.py] at e
    cases e
    exact .bl b
  | int i =>
    simp only [Wk.py] at e
    cases e
    exact .int i
  | str s =>
    simp only [Wk.py] at e
    cases e
    exact .str s
  | tup h n r => exact dp_mono ex (Rl.dp (.tup h n r) e)
  | lst h n r =>
    rename_i a vs ds
    simp only [Wk.py] at e
    cases q : Wk.pyL ds with
    | none =>
      rw [q] at e
      cases e
    | some ps =>
      rw [q] at e
      cases e
      exact .lst (SqL.of h) (dpL_mono ex (RlL.dp r q))
  | dct _ _ =>
    simp only [Wk.py] at e
    cases e
  | ins _ _ _ =>
    simp only [Wk.py] at e
    cases e
  | exn _ _ _ =>
    simp only [Wk.py] at e
    cases e
  | scr _ _ =>
    simp only [Wk.py] at e
    cases e
end

/-! ### t * n of any tuple, n from 1 -/
theorem tuple_mul1 (l : Addr) (items : Array Value) (n : Nat) (dd : Option Addr) (sl : Array (Option Value)) (x : Int) (u : Tok) (c0 : (decide (x < -(2 ^ 63)) || decide (x ≥ 2 ^ 63)) = false) (c1 : (items.isEmpty || x == 1) = true) :
    Meets (Builtin.«tuple.__mul__» ⟨[.ref l, .int x u], []⟩) (fun _ R s => s.heap.get? l = some { cls := .type "tuple", dict := dd, data := .seq items n, slots := sl } ∧ R (.ok (.ret (Value.ref l))) s) :=
  .of_wp fun prog w A R s h => by
    obtain ⟨hp, g, d, tk, os⟩ := s
    obtain ⟨hl, h⟩ := h
    have f1 := AutoSeq1.idx_int
    wp_walk using wpAny_loadPart' hl
    repeat (first
      | (refine wpAny_ite_false (decide_eq_false (by rw [c0]; exact Bool.false_ne_true)) ?_; wp_walk using wpAny_loadPart' hl)
      | (refine wpAny_ite_true (decide_eq_true (by rw [c1])) ?_; wp_walk using wpAny_loadPart' hl))
    exact ⟨_, rfl, h⟩
section
variable {X : Cx}
def rMulT (K : PySem.W.Frag) : R2 := fun x y H Q => ∃ l k xs, x = .ref l ∧ y = .int k ∧ SqT K H l xs ∧ 1 ≤ k ∧ k ≤ 1000 ∧ xs.length ≤ 1000 ∧
  (k = 1 ∨ xs = [] → Q (.ref l) H) ∧ (¬ (k = 1 ∨ xs = []) → ∀ p, H p = none → Q (.ref p) (upd H p (.tup (List.replicate k.toNat xs).flatten)))
theorem op_mulT : OpR X (binaryOp .Mult) (rMulT X.K) := by
  intro pins s σ H x y v u Q I rx ry h
  obtain ⟨l, k, xs, rfl, rfl, hT, h1, h2, hz, q1, q2⟩ := h
  by_cases hc : k = 1 ∨ xs = []
  · cases rx
    obtain ⟨t, rfl⟩ := ry
    obtain ⟨its, r, ⟨⟨cls, dd, data, sl⟩, ho, hcl, n, hd⟩, hs⟩ := I.tuple hT
    simp only at hcl hd
    subst hcl hd
    have c0 : (decide (k < -(2 ^ 63)) || decide (k ≥ 2 ^ 63)) = false := by
      rw [decide_eq_false (by omega), decide_eq_false (by omega)] <;> rfl
    have c1 : (its.toArray.isEmpty || k == 1) = true := by
      rcases hc with e | e
      · rw [e]
        simp
      · subst e
        cases r
        rfl
    exact wpAny_binaryOp_repeat_ref (T := "tuple") (U := "int") (by decide) ⟨_, ho, rfl⟩ (fun s' => typeIs_int s' k t) noFill_tuple_mul F.fills_int_mul F.slot_int_rmul repeat_tuple F.slot_int_index.lookup
      (call_meets F.slot_int_rmul (typeIs_int s k t) F.entry_int_rmul (F.args_int_rmul_2 _ _) (int_rmul_tuple k t l its.toArray n dd sl)
        ⟨ho, rfl, ⟨_, ho, rfl⟩, call_meets F.slot_tuple_mul ⟨_, ho, rfl⟩ F.entry_tuple_mul (F.args_tuple_mul_2 _ _) (tuple_mul1 l its.toArray n dd sl k t c0 c1) ⟨ho, ⟨.ref l, H, I, rfl, q1 hc⟩⟩⟩)
  · exact op_repT pins s σ H _ _ v u Q I rx ry ⟨l, k, xs, rfl, rfl, hT, fun e => hc (.inr e), by
      have : k ≠ 1 := fun e => hc (.inl e)
      omega, h2, hz, q2 hc⟩
end
/-! ### what an operation of data wants -/
/-- the result is given, whatever was made -/
def Gv (K : PySem.W.Frag) (Z : Sx) (W : Wd) (S : Store) (d : D) (Q : VK) : Prop := ∀ (W' : Wd) (u : V) (H' : Hp), W.le W' → Sto K Z W' S H' → Rl K Z W'.F d u → Q u H'
def rData (K : PySem.W.Frag) (Z : Sx) (f : D → D → Option D) : R2 := fun x y H Q => ∃ W S a b d, Sto K Z W S H ∧ Tv K Z W.F H a x ∧ Tv K Z W.F H b y ∧ f a b = some d ∧ Gv K Z W S d Q
section
variable {K : PySem.W.Frag} {Z : Sx} {W : Wd} {S : Store} {H : Hp} {Q : VK}
theorem Gv.now {d : D} {u : V} (g : Gv K Z W S d Q) (s : Sto K Z W S H) (r : Rl K Z W.F d u) : Q u H := g W u H (Wd.le.refl W) s r
theorem Gv.tup {ds : List D} {vs : List V} (g : Gv K Z W S (.tup ds) Q) (s : Sto K Z W S H) (hz : ds.length ≤ sizeLine) (r : RlL K Z W.F ds vs) : ∀ p, H p = none → Q (.ref p) (upd H p (.tup vs)) := fun p hp => by
  have e := Ex.new (o := HO.tup vs) (s.ex.free hp)
  exact g ⟨upd W.F p (.tup vs), W.am, W.pn⟩ (.ref p) _ (Wd.le.new (s.ex.free hp)) (s.new hp) (.tup (SqT.of upd_same) hz (RlL.mono e r))
theorem Gv.lst {ds : List D} {vs : List V} (g : Gv K Z W S (.lst ds) Q) (s : Sto K Z W S H) (hz : ds.length ≤ sizeLine) (r : RlL K Z W.F ds vs) : ∀ p, H p = none → Q (.ref p) (upd H p (.lst vs)) := fun p hp => by
  have e := Ex.new (o := HO.lst vs) (s.ex.free hp)
  exact g ⟨upd W.F p (.lst vs), W.am, W.pn⟩ (.ref p) _ (Wd.le.new (s.ex.free hp)) (s.new hp) (.lst upd_same hz (RlL.mono e r))
end
def opS : Op → Operator
  | .add => .Add | .sub => .Sub | .mul => .Mult | .mod => .Mod | .fdiv => .FloorDiv | .pow => .Pow
theorem small64_ok {i : Int} (h : small64 i = true) : -(2 ^ 64) < i ∧ i < 2 ^ 64 := of_decide_eq_true h
theorem op_bin {X : Cx} {Z : Sx} (o : Op) : OpR X (binaryOp (opS o)) (rData X.K Z (binop o)) := by
  intro pins s σ H x y v u Q I rx ry h
  obtain ⟨W, S, a, b, d, st, ta, tb, e, g⟩ := h
  cases o with
  | add =>
    cases ta with
    | int i =>
      cases tb with
      | int j =>
        simp only [binop] at e
        cases e
        exact op_add pins s σ H _ _ v u Q I rx ry ⟨i, j, rfl, rfl, g.now st (.int _)⟩
      | _ => simp [binop] at e
    | str i =>
      cases tb with
      | str j =>
        simp only [binop] at e
        split at e
        · rename_i hz
          cases e
          exact op_add_str pins s σ H _ _ v u Q I rx ry ⟨i, j, rfl, rfl, hz, g.now st (.str _)⟩
        · cases e
      | _ => simp [binop] at e
    | tup h n r =>
      rename_i a1 vs1 ds1
      cases tb with
      | tup h' n' r' =>
        rename_i a2 vs2 ds2
        simp only [binop] at e
        split at e
        · rename_i hz
          cases e
          have l1 := r.len
          have l2 := r'.len
          refine op_catA pins s σ H _ _ v u Q I rx ry ⟨_, _, vs1, vs2, rfl, rfl, st.ex.t h, st.ex.t h', by omega, fun e0 => ?_, fun e0 e1 => ?_, fun e0 e1 => ?_⟩
          · subst e0
            cases r
            exact g.now st (.tup h' n' r')
          · subst e1
            cases r'
            rw [List.append_nil] at g
            exact g.now st (.tup h n r)
          · exact g.tup st (by rw [List.length_append]; exact hz) (r.app r')
        · cases e
      | _ => simp [binop] at e
    | lst h n r =>
      rename_i a1 vs1 ds1
      cases tb with
      | lst h' n' r' =>
        rename_i a2 vs2 ds2
        simp only [binop] at e
        split at e
        · rename_i hz
          cases e
          have l1 := r.len
          have l2 := r'.len
          exact op_cat pins s σ H _ _ v u Q I rx ry ⟨_, _, vs1, vs2, rfl, rfl, h, h', by omega, g.lst st (by rw [List.length_append]; exact hz) (r.app r')⟩
        · cases e
      | _ => simp [binop] at e
    | _ => simp [binop] at e
  | sub =>
    cases ta with
    | int i =>
      cases tb with
      | int j =>
        simp only [binop] at e
        cases e
        exact op_sub pins s σ H _ _ v u Q I rx ry ⟨i, j, rfl, rfl, g.now st (.int _)⟩
      | _ => simp [binop] at e
    | _ => simp [binop] at e
  | mul =>
    cases ta with
    | int i =>
      cases tb with
      | int j =>
        simp only [binop] at e
        split at e
        · rename_i hz
          cases e
          refine op_mul pins s σ H _ _ v u Q I rx ry ⟨i, j, rfl, rfl, ?_, g.now st (.int _)⟩
          rcases Bool.or_eq_true_iff.mp hz with q | q
          · exact .inl (small64_ok q)
          · exact .inr (small64_ok q)
        · cases e
      | _ => simp [binop] at e
    | lst h n r =>
      rename_i a1 vs1 ds1
      cases tb with
      | int j =>
        simp only [binop] at e
        split at e
        · rename_i hz
          cases e
          have l1 := r.len
          refine op_rep pins s σ H _ _ v u Q I rx ry ⟨_, j, vs1, rfl, rfl, h, by omega, by omega, by rw [← l1]; exact hz.2.2, ?_⟩
          refine g.lst st ?_ (r.rep _)
          rw [PyProof.Rows.lm_len_rep_flat, Nat.mul_comm]
          exact hz.2.2
        · cases e
      | _ => simp [binop] at e
    | tup h n r =>
      rename_i a1 vs1 ds1
      cases tb with
      | int j =>
        simp only [binop] at e
        split at e
        · rename_i hz
          cases e
          have l1 := r.len
          refine op_mulT pins s σ H _ _ v u Q I rx ry ⟨_, j, vs1, rfl, rfl, st.ex.t h, hz.1, hz.2.1, by omega, fun q => ?_, fun q => ?_⟩
          · have e2 : (List.replicate j.toNat ds1).flatten = ds1 := by
              rcases q with q | q
              · rw [q]
                simp
              · subst q
                cases r
                simp
            rw [e2] at g
            exact g.now st (.tup h n r)
          · refine g.tup st ?_ (r.rep _)
            rw [PyProof.Rows.lm_len_rep_flat, sizeLine_eq]
            have a1 : j.toNat * ds1.length ≤ 1000 * 1000 := Nat.mul_le_mul (by omega) (by omega)
            omega
        · cases e
      | _ => simp [binop] at e
    | _ => simp [binop] at e
  | mod =>
    cases ta with
    | int i =>
      cases tb with
      | int j =>
        simp only [binop] at e
        split at e
        · rename_i hz
          cases e
          exact op_mod pins s σ H _ _ v u Q I rx ry ⟨i, j, rfl, rfl, hz, g.now st (.int _)⟩
        · cases e
      | _ => simp [binop] at e
    | _ => simp [binop] at e
  | fdiv =>
    cases ta with
    | int i =>
      cases tb with
      | int j =>
        simp only [binop] at e
        split at e
        · rename_i hz
          cases e
          exact op_fdiv pins s σ H _ _ v u Q I rx ry ⟨i, j, rfl, rfl, hz, g.now st (.int _)⟩
        · cases e
      | _ => simp [binop] at e
    | _ => simp [binop] at e
  | pow =>
    cases ta with
    | int i =>
      cases tb with
      | int j =>
        simp only [binop] at e
        split at e
        · rename_i hz
          cases e
          exact op_pow pins s σ H _ _ v u Q I rx ry ⟨i, j, rfl, rfl, hz, g.now st (.int _)⟩
        · cases e
      | _ => simp [binop] at e
    | _ => simp [binop] at e
end Wk

set_option Elab.async false
set_option linter.all false
set_option maxRecDepth 100000
set_option maxHeartbeats 1000000
/-! WkE: comparisons of data, subscripts, slices, isinstance, built-in functions. -/
namespace Wk
open PySem PySem.Spec L2
open PyProof.Rows hiding St

def coS : Co → CmpOp
  | .lt => .Lt | .le => .LtE | .gt => .Gt | .ge => .GtE | .eq => .Eq | .ne => .NotEq | .isN => .Is | .notN => .IsNot | .isT => .Is | .notT => .IsNot | .in_ => .In | .notin => .NotIn
section
variable {K : PySem.W.Frag} {Z : Sx} {F H : Hp}
theorem intsOf_vals : ∀ {ds : List D} {vs : List V} {ns : List Int}, RlL K Z F ds vs → intsOf ds = some ns → vs = ns.map V.int
  | [], _, _, .nil, e => by
    cases e
    rfl
  | .int i :: r, _, ns, .cons h t, e => by
    cases h
    simp only [intsOf] at e
    cases q : intsOf r with
    | none =>
      rw [q] at e
      cases e
    | some ms =>
      rw [q] at e
      cases e
      rw [intsOf_vals t q]
      rfl
  | .non :: _, _, _, _, e => by simp [intsOf] at e
  | .bl _ :: _, _, _, _, e => by simp [intsOf] at e
  | .str _ :: _, _, _, _, e => by simp [intsOf] at e
  | .tup _ :: _, _, _, _, e => by simp [intsOf] at e
  | .lst _ :: _, _, _, _, e => by simp [intsOf] at e
  | .dct _ :: _, _, _, _, e => by simp [intsOf] at e
  | .ins _ _ :: _, _, _, _, e => by simp [intsOf] at e
theorem blsOf_vals : ∀ {ds : List D} {vs : List V} {ns : List Bool}, RlL K Z F ds vs → blsOf ds = some ns → vs = ns.map V.bl
  | [], _, _, .nil, e => by
    cases e
    rfl
  | .bl i :: r, _, ns, .cons h t, e => by
    cases h
    simp only [blsOf] at e
    cases q : blsOf r with
    | none =>
      rw [q] at e
      cases e
    | some ms =>
      rw [q] at e
      cases e
      rw [blsOf_vals t q]
      rfl
  | .non :: _, _, _, _, e => by simp [blsOf] at e
  | .int _ :: _, _, _, _, e => by simp [blsOf] at e
  | .str _ :: _, _, _, _, e => by simp [blsOf] at e
  | .tup _ :: _, _, _, _, e => by simp [blsOf] at e
  | .lst _ :: _, _, _, _, e => by simp [blsOf] at e
  | .dct _ :: _, _, _, _, e => by simp [blsOf] at e
  | .ins _ _ :: _, _, _, _, e => by simp [blsOf] at e
theorem flatD_V {d : D} {v : V} (h : flatD d = true) (r : Rl K Z F d v) : flatV v = true := by
  cases r <;> first | rfl | (simp [flatD] at h)
theorem flatD_L : ∀ {ds : List D} {vs : List V}, ds.all flatD = true → RlL K Z F ds vs → vs.all flatV = true
  | _, _, _, .nil => rfl
  | _, _, h, .cons r t => by
    rw [List.all_cons, Bool.and_eq_true] at h
    rw [List.all_cons, flatD_V h.1 r, flatD_L h.2 t]
    rfl
/-- == of flat values by their data -/
theorem eqV_py {x y : D} {u v : V} {a b : PyData} (hx : flatD x = true) (hy : flatD y = true) (rx : Rl K Z F x u) (ry : Rl K Z F y v) (ea : py x = some a) (eb : py y = some b) : eqV v u = PyData.eqv b a := by
  cases rx <;> first | (simp [flatD] at hx; done) | skip
  all_goals (simp only [py] at ea; cases ea)
  all_goals (cases ry <;> first | (simp [flatD] at hy; done) | skip)
  all_goals (simp only [py] at eb; cases eb)
  all_goals (simp only [PyData.eqv, eqV])
  all_goals first | rfl | skip
end
/-! ### comparisons of data -/
def rCmp (K : PySem.W.Frag) (Z : Sx) (o : Co) : R2 := fun x y H Q => ∃ W S a b r, Sto K Z W S H ∧ Tv K Z W.F H a x ∧ Tv K Z W.F H b y ∧ cmpop o a b = some r ∧ Q (.bl r) H
section
variable {K : PySem.W.Frag} {Z : Sx} {F H : Hp}
theorem Tv.nonIff {d : D} {v : V} (t : Tv K Z F H d v) : decide (v = .non) = isNon d := by
  cases t <;> simp [isNon]
theorem Tv.sameTrue {d : D} {v : V} {u : Value} (t : Tv K Z F H d v) (r : RelV v u) : isSame u (.bool true) = pure (isTru d) := by
  cases t with
  | non =>
    cases r
    rfl
  | bl b =>
    cases r
    cases b <;> rfl
  | int i =>
    obtain ⟨t, rfl⟩ := r
    rfl
  | str i =>
    obtain ⟨t, rfl⟩ := r
    rfl
  | tup _ _ _ =>
    cases r
    rfl
  | lst _ _ _ =>
    cases r
    rfl
  | dct _ _ =>
    cases r
    rfl
  | ins _ _ _ =>
    cases r
    rfl
  | exn _ _ _ =>
    cases r
    rfl
  | scr _ _ =>
    cases r
    rfl
theorem eqD_some {x y : D} {r : Bool} (e : eqD x y = some r) : ∃ a b, py x = some a ∧ py y = some b ∧ SeqAt.shaped a = true ∧ SeqAt.shaped b = true ∧ r = PyData.eqv a b := by
  unfold eqD at e
  split at e
  · rename_i a b ha hb
    split at e
    · rename_i h
      rw [Bool.and_eq_true] at h
      cases e
      exact ⟨a, b, ha, hb, h.1, h.2, rfl⟩
    · cases e
  · cases e
theorem any_py {x : D} {v : V} {a : PyData} (hx : flatD x = true) (rx : Rl K Z F x v) (ea : py x = some a) : ∀ {ys : List D} {vs : List V} {bs : List PyData}, ys.all flatD = true → RlL K Z F ys vs → pyL ys = some bs → inV v vs = bs.any fun z => PyData.eqv z a
  | [], _, _, _, .nil, e => by
    simp only [pyL] at e
    cases e
    rfl
  | y :: ys, _, _, h, .cons r t, e => by
    rw [List.all_cons, Bool.and_eq_true] at h
    simp only [pyL] at e
    cases q1 : py y with
    | none =>
      rw [q1] at e
      cases e
    | some b =>
      cases q2 : pyL ys with
      | none =>
        rw [q1, q2] at e
        cases e
      | some bs =>
        rw [q1, q2] at e
        cases e
        unfold inV
        rw [List.any_cons, List.any_cons, eqV_py hx h.1 rx r ea q1]
        have := any_py hx rx ea h.2 t q2
        unfold inV at this
        rw [this]
theorem inD_some {x y : D} {r : Bool} (e : inD x y = some r) : (∃ ys a bs, y = .lst ys ∧ py x = some a ∧ pyL ys = some bs ∧ SeqAt.shaped a = true ∧ SeqAt.shaped (.list bs) = true ∧ r = bs.any fun z => PyData.eqv z a) ∨
    (∃ ys a bs, y = .tup ys ∧ py x = some a ∧ pyL ys = some bs ∧ flatD x = true ∧ ys.all flatD = true ∧ r = bs.any fun z => PyData.eqv z a) := by
  unfold inD at e
  split at e
  · rename_i ys
    split at e
    · rename_i a bs ha hb
      split at e
      · rename_i h
        rw [Bool.and_eq_true] at h
        cases e
        exact .inl ⟨ys, a, bs, rfl, ha, hb, h.1, h.2, rfl⟩
      · cases e
    · cases e
  · rename_i ys
    split at e
    · rename_i a bs ha hb
      split at e
      · rename_i h
        rw [Bool.and_eq_true] at h
        cases e
        exact .inr ⟨ys, a, bs, rfl, ha, hb, h.1, h.2, rfl⟩
      · cases e
    · cases e
  · cases e
theorem flat_rl {x : D} {v : V} (hx : flatD x = true) (t : Tv K Z F H x v) : Rl K Z F x v := by
  cases t <;> first | (simp [flatD] at hx; done) | constructor
end
theorem cmp_data {X : Cx} {Z : Sx} (o : Co) (hu : X.A.units + 65 < cLine) : OpR X (compareOp (coS o)) (rCmp X.K Z o) := by
  intro pins s σ H x y v u Q I rx ry h
  obtain ⟨W, S, a, b, r, st, ta, tb, e, g⟩ := h
  cases o with
  | lt =>
    cases ta with
    | int i =>
      cases tb with
      | int j =>
        simp only [cmpop] at e
        cases e
        exact op_lt pins s σ H _ _ v u Q I rx ry ⟨i, j, rfl, rfl, g⟩
      | _ => simp [cmpop] at e
    | tup h n r1 =>
      cases tb with
      | tup h' n' r2 =>
        simp only [cmpop] at e
        split at e
        · rename_i ns ms e1 e2
          cases e
          have v1 := intsOf_vals r1 e1
          have v2 := intsOf_vals r2 e2
          subst v1 v2
          exact op_ltT (by omega) pins s σ H _ _ v u Q I rx ry ⟨_, _, ns, ms, rfl, rfl, st.ex.t h, st.ex.t h', g⟩
        · cases e
      | _ => simp [cmpop] at e
    | _ => simp [cmpop] at e
  | le =>
    cases ta with
    | int i =>
      cases tb with
      | int j =>
        simp only [cmpop] at e
        cases e
        exact op_le pins s σ H _ _ v u Q I rx ry ⟨i, j, rfl, rfl, g⟩
      | _ => simp [cmpop] at e
    | _ => simp [cmpop] at e
  | gt =>
    cases ta with
    | int i =>
      cases tb with
      | int j =>
        simp only [cmpop] at e
        cases e
        exact op_gt pins s σ H _ _ v u Q I rx ry ⟨i, j, rfl, rfl, g⟩
      | _ => simp [cmpop] at e
    | _ => simp [cmpop] at e
  | ge =>
    cases ta with
    | int i =>
      cases tb with
      | int j =>
        simp only [cmpop] at e
        cases e
        exact op_ge pins s σ H _ _ v u Q I rx ry ⟨i, j, rfl, rfl, g⟩
      | _ => simp [cmpop] at e
    | _ => simp [cmpop] at e
  | eq =>
    have e' : eqD a b = some r := by
      unfold cmpop at e
      exact e
    obtain ⟨p, q, hp, hq, sp, sq, rfl⟩ := eqD_some e'
    exact op_eqD (by omega) pins s σ H _ _ v u Q I rx ry ⟨p, q, ta.dp st.ex hp, tb.dp st.ex hq, sp, sq, g⟩
  | ne =>
    have e' : (eqD a b).map (!·) = some r := by
      unfold cmpop at e
      exact e
    obtain ⟨r', e2, rfl⟩ := Option.map_eq_some_iff.mp e'
    obtain ⟨p, q, hp, hq, sp, sq, rfl⟩ := eqD_some e2
    exact op_neD (by omega) pins s σ H _ _ v u Q I rx ry ⟨p, q, ta.dp st.ex hp, tb.dp st.ex hq, sp, sq, g⟩
  | isN =>
    cases tb with
    | non =>
      have e' : some (isNon a) = some r := by
        unfold cmpop at e
        exact e
      refine op_isN pins s σ H _ _ v u Q I rx ry ⟨rfl, ?_⟩
      rw [ta.nonIff, Option.some.inj e']
      exact g
    | _ => simp [cmpop] at e
  | notN =>
    cases tb with
    | non =>
      have e' : some (!isNon a) = some r := by
        unfold cmpop at e
        exact e
      refine op_notN pins s σ H _ _ v u Q I rx ry ⟨rfl, ?_⟩
      rw [ta.nonIff, Option.some.inj e']
      exact g
    | _ => simp [cmpop] at e
  | isT =>
    cases tb with
    | bl c =>
      cases c with
      | true =>
        have e' : some (isTru a) = some r := by
          unfold cmpop at e
          exact e
        cases (show u = Value.bool true from ry)
        show wpAny _ _ (isSame v (.bool true) >>= fun b => pure (Value.bool b)) _ _ _
        rw [ta.sameTrue rx, Option.some.inj e']
        exact wpAny_bind (wpAny_pure (wpAny_pure ⟨.bl r, H, I, rfl, g⟩))
      | false => simp [cmpop] at e
    | _ => simp [cmpop] at e
  | notT =>
    cases tb with
    | bl c =>
      cases c with
      | true =>
        have e' : some (!isTru a) = some r := by
          unfold cmpop at e
          exact e
        cases (show u = Value.bool true from ry)
        show wpAny _ _ (isSame v (.bool true) >>= fun b => pure (Value.bool (!b))) _ _ _
        rw [ta.sameTrue rx]
        refine wpAny_bind (wpAny_pure (wpAny_pure ⟨.bl r, H, I, ?_, g⟩))
        show Value.bool _ = Value.bool _
        rw [Option.some.inj e']
      | false => simp [cmpop] at e
    | _ => simp [cmpop] at e
  | in_ =>
    have e' : inD a b = some r := by
      unfold cmpop at e
      exact e
    rcases inD_some e' with ⟨ys, p, bs, rfl, hp, hb, sp, sb, rfl⟩ | ⟨ys, p, bs, rfl, hp, hb, fx, fy, rfl⟩
    · exact op_inD hu pins s σ H _ _ v u Q I rx ry ⟨p, bs, ta.dp st.ex hp, tb.dp st.ex (by simp only [py, hb]; rfl), sp, sb, g⟩
    · have rl := flat_rl fx ta
      cases tb with
      | tup h n r2 =>
        refine op_in_seq pins s σ H _ _ v u Q I rx ry ⟨_, _, rfl, .inr (st.ex.t h), flatD_V fx rl, flatD_L fy r2, ?_⟩
        show Q (.bl (if false = true then _ else _)) H
        rw [if_neg Bool.false_ne_true, any_py fx rl hp fy r2 hb]
        exact g
  | notin =>
    have e' : (inD a b).map (!·) = some r := by
      unfold cmpop at e
      exact e
    obtain ⟨r', e2, rfl⟩ := Option.map_eq_some_iff.mp e'
    rcases inD_some e2 with ⟨ys, p, bs, rfl, hp, hb, sp, sb, rfl⟩ | ⟨ys, p, bs, rfl, hp, hb, fx, fy, rfl⟩
    · exact op_notInD hu pins s σ H _ _ v u Q I rx ry ⟨p, bs, ta.dp st.ex hp, tb.dp st.ex (by simp only [py, hb]; rfl), sp, sb, g⟩
    · have rl := flat_rl fx ta
      cases tb with
      | tup h n r2 =>
        refine op_notIn_seq pins s σ H _ _ v u Q I rx ry ⟨_, _, rfl, .inr (st.ex.t h), flatD_V fx rl, flatD_L fy r2, ?_⟩
        show Q (.bl (if true = true then _ else _)) H
        rw [if_pos rfl, any_py fx rl hp fy r2 hb]
        exact g

/-! ### subscripts, slices -/
def rIxD (K : PySem.W.Frag) (Z : Sx) : R2 := fun x y H Q => ∃ W S a b d, Sto K Z W S H ∧ Tv K Z W.F H a x ∧ Tv K Z W.F H b y ∧ ixop a b = some d ∧ Gv K Z W S d Q
section
variable {K : PySem.W.Frag} {Z : Sx} {F H : Hp}
theorem RlL.atI {ds : List D} {vs : List V} {i : Int} {d : D} (r : RlL K Z F ds vs) (e : L2.atI ds i = some d) : ∃ v, L2.atI vs i = some v ∧ Rl K Z F d v := by
  unfold L2.atI at e ⊢
  rw [← r.len]
  cases q : ixN ds.length i with
  | none =>
    rw [q] at e
    cases e
  | some j =>
    rw [q] at e
    exact r.get' e
theorem RlK.look {k : Sum Int Str} {d : D} : ∀ {kvs : List (Sum Int Str × D)} {kws : List (Sum Int Str × V)}, RlK K Z F kvs kws → lookK k kvs = some d → ∃ v, valV kws k = some v ∧ Rl K Z F d v
  | _, _, .nil, e => by simp [lookK] at e
  | _, _, .cons (k := k') h r, e => by
    unfold lookK at e
    by_cases q : k' = k
    · rw [if_pos q] at e
      cases e
      refine ⟨_, ?_, h⟩
      unfold valV
      rw [List.find?_cons]
      simp [q]
    · rw [if_neg q] at e
      obtain ⟨v, h1, h2⟩ := RlK.look r e
      refine ⟨v, ?_, h2⟩
      unfold valV at h1 ⊢
      rw [List.find?_cons]
      simp [q]
      simpa using h1
end

theorem ix_dict {X : Cx} (hu : X.A.units + 1 < cLine) : IxR X (fun x y H Q => ∃ a v, x = .ref a ∧ DGet H a y (some v) ∧ Q v H) := by
  intro value slice pins s σ H x y v u Q I rx ry h hs
  obtain ⟨a, z, rfl, g, q⟩ := h
  cases (show v = Value.ref a from rx)
  exact tail_any (dict_typeIs I g) PySem.F.slot_dict_getitem.lookup (d_getItem hu I g ry fun w' s3 I3 rw' => ⟨z, H, I3, rw', q⟩) hs
theorem ix_data {X : Cx} {Z : Sx} (hu : X.A.units + 1 < cLine) : IxR X (rIxD X.K Z) := by
  intro value slice pins s σ H x y v u Q I rx ry h hs
  obtain ⟨W, S, a, b, d, st, ta, tb, e, g⟩ := h
  cases ta with
  | lst h n r =>
    cases tb with
    | int i =>
      simp only [ixop] at e
      obtain ⟨z, h1, h2⟩ := r.atI e
      exact ix_list value slice pins s σ H _ _ v u Q I rx ry ⟨_, _, i, z, rfl, rfl, SqL.of h, h1, g.now st h2⟩ hs
    | _ => simp [ixop] at e
  | tup h n r =>
    cases tb with
    | int i =>
      simp only [ixop] at e
      obtain ⟨z, h1, h2⟩ := r.atI e
      exact ix_tup value slice pins s σ H _ _ v u Q I rx ry ⟨_, _, i, z, rfl, rfl, st.ex.t h, h1, g.now st h2⟩ hs
    | _ => simp [ixop] at e
  | str t =>
    cases tb with
    | int i =>
      simp only [ixop] at e
      split at e
      · rename_i hz
        obtain ⟨c, h1, rfl⟩ := Option.map_eq_some_iff.mp e
        exact ix_str value slice pins s σ H _ _ v u Q I rx ry ⟨t, i, c, rfl, rfl, hz, h1, g.now st (.str _)⟩ hs
      · cases e
    | _ => simp [ixop] at e
  | dct h r =>
    cases tb with
    | str t =>
      simp only [ixop] at e
      obtain ⟨z, h1, h2⟩ := r.look e
      refine ix_dict hu value slice pins s σ H _ _ v u Q I rx ry ⟨_, z, rfl, ?_, g.now st h2⟩ hs
      rw [← h1]
      exact DGet.k (k := Sum.inr t) (st.ex _ _ h)
    | int t =>
      simp only [ixop] at e
      obtain ⟨z, h1, h2⟩ := r.look e
      refine ix_dict hu value slice pins s σ H _ _ v u Q I rx ry ⟨_, z, rfl, ?_, g.now st h2⟩ hs
      rw [← h1]
      exact DGet.k (k := Sum.inl t) (st.ex _ _ h)
    | _ => simp [ixop] at e
  | _ => simp [ixop] at e
theorem rlL_ints {K : PySem.W.Frag} {Z : Sx} {F : Hp} : ∀ ns : List Int, RlL K Z F (ns.map D.int) (ns.map V.int)
  | [] => .nil
  | n :: ns => .cons (.int n) (rlL_ints ns)
def rCutD (K : PySem.W.Frag) (Z : Sx) : V → Option Int → Option Int → Hp → VK → Prop := fun x lo hi H Q => ∃ W S a d, Sto K Z W S H ∧ Tv K Z W.F H a x ∧ cutop a lo hi = some d ∧ Gv K Z W S d Q
theorem cutD_len (ds : List D) (lo hi : Option Int) : (cutD ds lo hi).length ≤ ds.length := by
  unfold cutD
  rw [List.length_take, List.length_drop]
  omega
theorem cut_rl {K : PySem.W.Frag} {Z : Sx} {F : Hp} {ds : List D} {vs : List V} (r : RlL K Z F ds vs) (lo hi : Option Int) : RlL K Z F (cutD ds lo hi) (cutV vs lo hi) := by
  unfold cutD cutV
  rw [r.len]
  exact (r.drop _).take _
theorem cut_data {X : Cx} {Z : Sx} : SlR X (rCutD X.K Z) := by
  intro pins s σ H x v vl vu lo hi sl Q I rx hs pl pu h
  obtain ⟨W, S, a, d, st, ta, e, g⟩ := h
  cases ta with
  | lst h n r =>
    simp only [cutop] at e
    cases e
    exact sl_list pins s σ H _ v vl vu lo hi sl Q I rx hs pl pu ⟨_, _, rfl, SqL.of h, g.lst st (Nat.le_trans (cutD_len _ _ _) n) (cut_rl r lo hi)⟩
  | tup h n r =>
    simp only [cutop] at e
    cases e
    refine sl_tupA pins s σ H _ v vl vu lo hi sl Q I rx hs pl pu ⟨_, _, rfl, st.ex.t h, fun q => ?_, fun _ => g.tup st (Nat.le_trans (cutD_len _ _ _) n) (cut_rl r lo hi)⟩
    rename_i a1 vs1 ds1
    have e2 : cutD ds1 lo hi = ds1 := by
      unfold cutD
      rw [r.len, q.1, q.2, List.drop_zero, Nat.sub_zero, ← r.len, List.take_length]
    rw [e2] at g
    exact g.now st (.tup h n r)
  | scr h n =>
    simp only [cutop] at e
    cases e
    exact sl_list pins s σ H _ v vl vu lo hi sl Q I rx hs pl pu ⟨_, _, rfl, st.ex.l h, g.lst st (Nat.le_trans (cutD_len _ _ _) (by rw [List.length_map]; exact n)) (cut_rl (rlL_ints _) lo hi)⟩
  | _ => simp [cutop] at e

/-! ### built-in functions -/
inductive TvL (K : PySem.W.Frag) (Z : Sx) (F H : Hp) : List D → List V → Prop
  | nil : TvL K Z F H [] []
  | cons {d : D} {v : V} {ds : List D} {vs : List V} : Tv K Z F H d v → TvL K Z F H ds vs → TvL K Z F H (d :: ds) (v :: vs)
theorem Sto.tvL {K : PySem.W.Frag} {Z : Sx} {W : Wd} {S : Store} {H : Hp} (s : Sto K Z W S H) : ∀ {vs : List Vl} {us : List V} {xs : List D}, RvL K Z W vs us → Wk.vwL S vs = some xs → TvL K Z W.F H xs us
  | [], _, _, .nil, e => by
    cases e
    exact .nil
  | v :: vs, _, _, .cons r rs, e => by
    unfold Wk.vwL at e
    cases h1 : Wk.vw S v with
    | none =>
      simp only [h1] at e
      cases e
    | some x =>
      cases h2 : Wk.vwL S vs with
      | none =>
        simp only [h1, h2] at e
        cases e
      | some ys =>
        simp only [h1, h2] at e
        cases e
        exact .cons (s.tv r h1) (Sto.tvL s rs h2)
def rBi (K : PySem.W.Frag) (Z : Sx) (P : Pg) (b : Bi) : List V → Hp → VK → Prop := fun vs H Q => ∃ W S xs d, Sto K Z W S H ∧ TvL K Z W.F H xs vs ∧ biop P b xs = some d ∧ Gv K Z W S d Q

def biTy : Bi → Option Value
  | .len => some (.builtin "len") | .list => some (.type "list") | .tuple => some (.type "tuple") | .int => some (.type "int") | .abs => some (.builtin "abs") | .min => some (.builtin "min") | .max => some (.builtin "max")
  | .all => some (.builtin "all") | .any => some (.builtin "any") | .bool => some (.type "bool") | .repr => some (.builtin "repr") | _ => none
theorem bi_data {X : Cx} {Z : Sx} {P : Pg} (b : Bi) {f : Value} (hf : biTy b = some f) (hc : X.calm = true) (hu : X.A.units + 70 < cLine) (hg : X.A.guards = some []) : CallR X f (rBi X.K Z P b) := by
  intro pins s σ H vs us Q I r h
  obtain ⟨W, S, xs, d, st, tv, e, g⟩ := h
  cases b with
  | len =>
    cases hf
    cases tv with
    | nil => simp [biop] at e
    | cons t1 t2 =>
      cases t2 with
      | cons t3 t4 => cases t1 <;> simp [biop] at e
      | nil =>
        cases t1 with
        | lst h n rr =>
          simp only [biop] at e
          cases e
          rw [rr.len] at g
          exact call_len_seq pins s σ H _ us Q I r ⟨_, _, rfl, .inl (SqL.of h), g.now st (.int _)⟩
        | tup h n rr =>
          simp only [biop] at e
          cases e
          rw [rr.len] at g
          exact call_len_seq pins s σ H _ us Q I r ⟨_, _, rfl, .inr (st.ex.t h), g.now st (.int _)⟩
        | str t =>
          simp only [biop] at e
          split at e
          · rename_i hz
            cases e
            exact call_len_str pins s σ H _ us Q I r ⟨t, rfl, hz, g.now st (.int _)⟩
          · cases e
        | _ => simp [biop] at e
  | list =>
    cases hf
    cases tv with
    | nil => simp [biop] at e
    | cons t1 t2 =>
      cases t2 with
      | cons t3 t4 => cases t1 <;> simp [biop] at e
      | nil =>
        cases t1 with
        | lst h n rr =>
          simp only [biop] at e
          cases e
          exact call_list_of pins s σ H _ us Q I r ⟨_, _, rfl, .inl (SqL.of h), g.lst st n rr⟩
        | tup h n rr =>
          simp only [biop] at e
          cases e
          exact call_list_of pins s σ H _ us Q I r ⟨_, _, rfl, .inr (st.ex.t h), g.lst st n rr⟩
        | _ => simp [biop] at e
  | tuple =>
    cases hf
    cases tv with
    | nil => simp [biop] at e
    | cons t1 t2 =>
      cases t2 with
      | cons t3 t4 => cases t1 <;> simp [biop] at e
      | nil =>
        cases t1 with
        | lst h n rr =>
          simp only [biop] at e
          cases e
          exact call_tuple_of pins s σ H _ us Q I r ⟨_, _, rfl, .inl ⟨SqL.of h, g.tup st n rr⟩⟩
        | tup h n rr =>
          simp only [biop] at e
          cases e
          exact call_tuple_of pins s σ H _ us Q I r ⟨_, _, rfl, .inr ⟨st.ex.t h, g.now st (.tup h n rr)⟩⟩
        | _ => simp [biop] at e
  | int =>
    cases hf
    cases tv with
    | nil => simp [biop] at e
    | cons t1 t2 =>
      cases t2 with
      | cons t3 t4 => cases t1 <;> simp [biop] at e
      | nil =>
        cases t1 with
        | int i =>
          simp only [biop] at e
          cases e
          exact call_int1 pins s σ H _ us Q I r (.inl ⟨i, rfl, g.now st (.int _)⟩)
        | bl i =>
          simp only [biop] at e
          cases e
          exact call_int1 pins s σ H _ us Q I r (.inr ⟨i, rfl, g.now st (.int _)⟩)
        | _ => simp [biop] at e
  | bool =>
    cases hf
    cases tv with
    | nil => simp [biop] at e
    | cons t1 t2 =>
      cases t2 with
      | cons t3 t4 => cases t1 <;> simp [biop] at e
      | nil =>
        cases t1 with
        | int i =>
          simp only [biop] at e
          cases e
          exact call_bool1 pins s σ H _ us Q I r (.inl ⟨i, rfl, g.now st (.bl _)⟩)
        | bl i =>
          simp only [biop] at e
          cases e
          exact call_bool1 pins s σ H _ us Q I r (.inr ⟨i, rfl, g.now st (.bl _)⟩)
        | _ => simp [biop] at e
  | abs =>
    cases hf
    cases tv with
    | nil => simp [biop] at e
    | cons t1 t2 =>
      cases t2 with
      | cons t3 t4 => cases t1 <;> simp [biop] at e
      | nil =>
        cases t1 with
        | int i =>
          simp only [biop] at e
          cases e
          exact call_abs pins s σ H _ us Q I r ⟨i, rfl, g.now st (.int _)⟩
        | _ => simp [biop] at e
  | min =>
    cases hf
    cases tv with
    | nil => simp [biop] at e
    | cons t1 t2 =>
      cases t2 with
      | nil => cases t1 <;> simp [biop] at e
      | cons t3 t4 =>
        cases t4 with
        | cons t5 t6 => cases t1 <;> cases t3 <;> simp [biop] at e
        | nil =>
          cases t1 with
          | int i =>
            cases t3 with
            | int j =>
              simp only [biop] at e
              cases e
              exact call_min2 hc pins s σ H _ us Q I r ⟨i, j, rfl, g.now st (.int _)⟩
            | _ => simp [biop] at e
          | _ => simp [biop] at e
  | max =>
    cases hf
    cases tv with
    | nil => simp [biop] at e
    | cons t1 t2 =>
      cases t2 with
      | nil => cases t1 <;> simp [biop] at e
      | cons t3 t4 =>
        cases t4 with
        | cons t5 t6 => cases t1 <;> cases t3 <;> simp [biop] at e
        | nil =>
          cases t1 with
          | int i =>
            cases t3 with
            | int j =>
              simp only [biop] at e
              cases e
              exact call_max2 hc pins s σ H _ us Q I r ⟨i, j, rfl, g.now st (.int _)⟩
            | _ => simp [biop] at e
          | _ => simp [biop] at e
  | all =>
    cases hf
    cases tv with
    | nil => simp [biop] at e
    | cons t1 t2 =>
      cases t2 with
      | cons t3 t4 => cases t1 <;> simp [biop] at e
      | nil =>
        cases t1 with
        | lst h n rr =>
          simp only [biop] at e
          obtain ⟨bs, e1, rfl⟩ := Option.map_eq_some_iff.mp e
          have e2 := blsOf_vals rr e1
          subst e2
          exact cr_all hc pins s σ H _ us Q I r ⟨_, bs, rfl, SqL.of h, g.now st (.bl _)⟩
        | _ => simp [biop] at e
  | any =>
    cases hf
    cases tv with
    | nil => simp [biop] at e
    | cons t1 t2 =>
      cases t2 with
      | cons t3 t4 => cases t1 <;> simp [biop] at e
      | nil =>
        cases t1 with
        | lst h n rr =>
          simp only [biop] at e
          obtain ⟨bs, e1, rfl⟩ := Option.map_eq_some_iff.mp e
          have e2 := blsOf_vals rr e1
          subst e2
          exact cr_any hc pins s σ H _ us Q I r ⟨_, bs, rfl, SqL.of h, g.now st (.bl _)⟩
        | _ => simp [biop] at e
  | repr =>
    cases hf
    cases tv with
    | nil => simp [biop] at e
    | cons t1 t2 =>
      cases t2 with
      | cons t3 t4 => cases t1 <;> simp [biop] at e
      | nil =>
        simp only [biop] at e
        split at e
        · rename_i a ha
          split at e
          · rename_i hok
            cases e
            simp only [Bool.and_eq_true, decide_eq_true_eq] at hok
            obtain ⟨⟨h1, h2⟩, h3⟩ := hok
            obtain ⟨u, rfl, rv⟩ := vals1 r
            obtain ⟨as, rd⟩ := Dp.reads I a _ u (t1.dp st.ex ha) rv
            have hdep := SeqAt.depth_of_shaped h1
            have hno := PyData.noDict_hsm (as := as) (PyData.hasDict_of_canLay a (SeqAt.canLay_of_shaped h1))
            have hq := g.now st (Rl.str (K := X.K) (Z := Z) (F := W.F) a.shown)
            cases rd with
            | none => exact PySem.P.repr_of_none ⟨.str _, H, I.tok _, ⟨_, rfl⟩, hq⟩
            | bool b => exact PySem.P.repr_of_bool ⟨.str _, H, I.tok _, ⟨_, rfl⟩, hq⟩
            | int i t =>
              simp only [PyData.showable, decide_eq_true_eq] at h2
              exact PySem.P.repr_of_int h2 ⟨.str _, H, I.tok _, ⟨_, rfl⟩, hq⟩
            | str x t => exact PySem.P.repr_of_str ⟨.str _, H, I.tok _, ⟨_, rfl⟩, hq⟩ (by simpa only [PyData.shown] using h3)
            | list q1 q2 q3 q4 => exact repr_of_reads' (.list q1 q2 q3 q4) h2 hno hg (by omega) (fun _ _ q => q) (fun h' u tk k => ⟨.str _, H, I.kept k, ⟨_, rfl⟩, hq⟩) h3
            | tuple q1 q2 q3 q4 => exact repr_of_reads' (.tuple q1 q2 q3 q4) h2 hno hg (by omega) (fun _ _ q => q) (fun h' u tk k => ⟨.str _, H, I.kept k, ⟨_, rfl⟩, hq⟩) h3
            | dict q1 q2 q3 q4 q5 => exact repr_of_reads' (.dict q1 q2 q3 q4 q5) h2 hno hg (by omega) (fun _ _ q => q) (fun h' u tk k => ⟨.str _, H, I.kept k, ⟨_, rfl⟩, hq⟩) h3
          · cases e
        · cases e
  | _ => cases hf
end Wk

set_option Elab.async false
set_option linter.all false
set_option maxRecDepth 100000
set_option maxHeartbeats 1000000
/-! WkBind: how positional values, keywords and defaults come to plain parameters. -/
namespace Wk
open PySem PySem.Spec L2
abbrev Al := List (Str × Value)
theorem look_app (n : Str) : ∀ (L M : Al), (L ++ M).lookup n = match L.lookup n with | some v => some v | none => M.lookup n
  | [], M => rfl
  | (k, v) :: L, M => by
    rw [List.cons_append, List.lookup_cons, List.lookup_cons]
    by_cases h : (n == k) = true
    · simp only [h]
    · rw [Bool.not_eq_true] at h
      simp only [h]
      exact look_app n L M
theorem look_single (n k : Str) (v : Value) : ([(k, v)] : Al).lookup n = if n = k then some v else none := by
  rw [List.lookup_cons]
  by_cases h : n = k
  · rw [if_pos h, h, beq_self_eq_true]
  · rw [if_neg h, beq_eq_false_iff_ne.mpr h]
    rfl
theorem kwloop {ps : List Str} {F : Str × Value → Al × Al → Sem (ForInStep (Al × Al))} (hF : ∀ q st, ps.contains q.1 = true → (List.lookup q.1 st.1).isSome = false → F q st = pure (.yield (st.1 ++ [(q.1, q.2)], st.2))) :
    ∀ (kw L : Al), (∀ q ∈ kw, q.1 ∈ ps) → (∀ q ∈ kw, L.lookup q.1 = none) → (kw.map (·.1)).Nodup → forIn kw (L, ([] : Al)) F = (pure (L ++ kw, []) : Sem (Al × Al))
  | [], L, _, _, _ => by
    rw [List.append_nil]
    rfl
  | q :: kw, L, h1, h2, h3 => by
    rw [List.forIn_cons, hF q _ (by simpa using h1 q List.mem_cons_self) (by rw [h2 q List.mem_cons_self]; rfl)]
    show forIn kw (L ++ [(q.1, q.2)], ([] : Al)) F = _
    rw [List.map_cons, List.nodup_cons] at h3
    rw [kwloop hF kw _ (fun r hr => h1 r (List.mem_cons_of_mem _ hr)) (fun r hr => ?_) h3.2, List.append_assoc]
    · rfl
    · rw [look_app, h2 r (List.mem_cons_of_mem _ hr), look_single]
      have : r.1 ≠ q.1 := fun e => h3.1 (e ▸ List.mem_map_of_mem hr)
      simp only [if_neg this]
def addD (L : Al) (q : Str × Value) : Al := if (L.lookup q.1).isNone then L ++ [(q.1, q.2)] else L
theorem dfloop {G : Str × Value → Al → Sem (ForInStep Al)} (hG : ∀ q st, G q st = if (List.lookup q.1 st).isNone = true then pure (.yield (st ++ [(q.1, q.2)])) else pure (.yield st)) :
    ∀ (ds L : Al), forIn ds L G = (pure (ds.foldl addD L) : Sem Al)
  | [], L => rfl
  | q :: ds, L => by
    rw [List.forIn_cons, hG, List.foldl_cons]
    unfold addD
    split
    · exact dfloop hG ds _
    · exact dfloop hG ds _
theorem look_addD (n : Str) : ∀ (ds L : Al), (ds.foldl addD L).lookup n = match L.lookup n with | some v => some v | none => ds.lookup n
  | [], L => by
    cases h : L.lookup n <;> simp [h]
  | q :: ds, L => by
    rw [List.foldl_cons, look_addD n ds]
    unfold addD
    by_cases h : (L.lookup q.1).isNone = true
    · rw [if_pos h, look_app, look_single]
      cases hL : L.lookup n with
      | some v => rfl
      | none =>
        by_cases e : n = q.1
        · simp only [if_pos e]
          rw [List.lookup_cons, e, beq_self_eq_true]
        · simp only [if_neg e]
          rw [List.lookup_cons, beq_eq_false_iff_ne.mpr e]
    · rw [if_neg h]
      cases hL : L.lookup n with
      | some v => rfl
      | none =>
        have e : n ≠ q.1 := fun e => h (by rw [← e, hL]; rfl)
        simp only
        rw [List.lookup_cons, beq_eq_false_iff_ne.mpr e]
/-- the value of a parameter -/
def bindV (ps : List Str) (us : List Value) (kw : Al) (its : List Value) (n : Str) : Option Value := match (ps.zip us ++ kw).lookup n with
  | some v => some v
  | none => ((ps.drop (ps.length - its.length)).zip its).lookup n
theorem filter_all {ps : List Str} {f : Str → Option Value} (h : ∀ n ∈ ps, ∃ v, f n = some v) : ps.filterMap (fun n => (f n).map fun v => (n, v)) = ps.map fun n => (n, (f n).getD .none) := by
  induction ps with
  | nil => rfl
  | cons p ps ih =>
    obtain ⟨v, hv⟩ := h p List.mem_cons_self
    rw [List.filterMap_cons, hv]
    simp only [Option.map_some, List.map_cons, hv, Option.getD_some]
    rw [ih fun n hn => h n (List.mem_cons_of_mem _ hn)]
theorem bind_plain {fd : FuncData} {ps : List Str} {us its : List Value} {kw : Al} {r : Option (Array Value)} (h1 : fd.params.posonlyargs = []) (h2 : fd.params.args.map (·.arg) = ps) (h3 : fd.params.kwonlyargs = []) (h4 : fd.params.vararg = none) (h5 : fd.params.kwarg = none)
    (hu : us.length ≤ ps.length) (hk : ∀ q ∈ kw, q.1 ∈ ps) (hkn : (kw.map (·.1)).Nodup) (hku : ∀ q ∈ kw, (ps.zip us).lookup q.1 = none) (hi : its.length ≤ ps.length) (hr : (r.getD #[]).toList = its)
    (hall : ∀ n ∈ ps, ∃ v, bindV ps us kw its n = some v) (hmiss : ∀ n ∈ ps.take (ps.length - its.length), ((ps.zip us ++ kw).lookup n).isSome = true)
    {K : PySem.W.Frag} {s : Shared} (X : K.In s.heap) (hd : fd.defaults = .none ∧ r = none ∨ ∃ T o n, fd.defaults = .ref T ∧ K.lookup T = some o ∧ o.data = .seq its.toArray n ∧ r = some its.toArray) :
    BindsTo s fd ⟨us, kw⟩ (ps.map fun n => (n, (bindV ps us kw its n).getD .none)) := by
  refine BindsTo.of_looks fun M => ?_
  unfold bindArgs
  simp only [h1, h2, h3, h4, h5, List.map_nil, List.nil_append, List.append_nil, List.contains_nil, Bool.or_false, Option.isSome_none, Bool.false_eq_true, if_false, Option.isNone_none, Bool.and_true]
  rw [kwloop (ps := ps) (fun q st q1 q2 => by rw [if_pos q1, if_neg (by rw [q2]; exact Bool.false_ne_true)]) kw _ hk hku hkn]
  rw [pure_bind]
  have rest : ∀ (k : Option (Array Value) → Sem (List (Str × Value))), k r = pure (ps.map fun n => (n, (bindV ps us kw its n).getD .none)) → PySem.W.Looks M s.heap (seqItems? fd.defaults >>= k) (ps.map fun n => (n, (bindV ps us kw its n).getD .none)) := fun k hk => by
    rcases hd with ⟨e1, e2⟩ | ⟨T, o, n, e1, e2, e3, e4⟩
    · rw [e1]
      subst e2
      exact PySem.W.Looks.of_pure (by show k none = _; exact hk)
    · rw [e1]
      rw [e4] at hk
      exact looks_items X e2 e3 (.of_pure hk)
  refine rest _ ?_
  simp only [hr]
  have e0 : its.length - ps.length = 0 := by omega
  rw [if_neg (by simp only [decide_eq_true_eq]; omega), e0, List.drop_zero]
  have em : (List.filter (fun n => (List.lookup n (ps.zip us ++ kw)).isNone) (List.take (ps.length - its.length) ps)).isEmpty = true := by
    rw [List.isEmpty_iff, List.filter_eq_nil_iff]
    intro n hn
    have := hmiss n hn
    cases hh : List.lookup n (ps.zip us ++ kw) with
    | none =>
      rw [hh] at this
      cases this
    | some v => simp
  rw [em]
  simp only [Bool.not_true, Bool.false_eq_true, if_false]
  rw [dfloop (fun q st => rfl)]
  simp only [pure_bind, List.isEmpty_nil, List.forIn_nil, Bool.not_true, Bool.false_eq_true, if_false]
  have fin : ps.filterMap (fun n => (List.lookup n (((ps.drop (ps.length - its.length)).zip its).foldl addD (ps.zip us ++ kw))).map fun v => (n, v)) = ps.map fun n => (n, (bindV ps us kw its n).getD .none) := by
    have e : (fun n => List.lookup n (((ps.drop (ps.length - its.length)).zip its).foldl addD (ps.zip us ++ kw))) = bindV ps us kw its := by
      funext n
      rw [look_addD]
      rfl
    have := filter_all (f := bindV ps us kw its) hall
    rw [← e] at this ⊢
    exact this
  rw [fin]

/-! ### the values in the parameters' order -/
theorem pick_lt {α : Type} {np : Nat} {as : List α} {ks : List (Nat × α)} {ds : List α} {i : Nat} (h : i < as.length) : pick np as ks ds i = some as[i] := by
  unfold pick
  rw [List.getElem?_eq_getElem h]
theorem arrI_len {α : Type} {np : Nat} {as : List α} {ks : List (Nat × α)} {ds : List α} : ∀ {r i : Nat} {ws : List α}, arrI np as ks ds i r = some ws → ws.length = r
  | 0, _, _, e => by
    cases e
    rfl
  | r + 1, i, ws, e => by
    unfold arrI at e
    cases h : pick np as ks ds i with
    | none =>
      simp only [h] at e
      cases e
    | some v =>
      simp only [h] at e
      obtain ⟨t, e1, rfl⟩ := Option.map_eq_some_iff.mp e
      exact congrArg (· + 1) (arrI_len e1)
theorem arrI_get {α : Type} {np : Nat} {as : List α} {ks : List (Nat × α)} {ds : List α} : ∀ {r i : Nat} {ws : List α} (j : Nat), arrI np as ks ds i r = some ws → j < r → ∃ v, ws[j]? = some v ∧ pick np as ks ds (i + j) = some v
  | 0, _, _, _, _, h => absurd h (Nat.not_lt_zero _)
  | r + 1, i, ws, j, e, hj => by
    unfold arrI at e
    cases h : pick np as ks ds i with
    | none =>
      simp only [h] at e
      cases e
    | some v =>
      simp only [h] at e
      obtain ⟨t, e1, rfl⟩ := Option.map_eq_some_iff.mp e
      cases j with
      | zero => exact ⟨v, rfl, h⟩
      | succ j =>
        obtain ⟨w, h1, h2⟩ := arrI_get j e1 (by omega)
        exact ⟨w, by simpa using h1, by rw [← h2]; congr 1; omega⟩
theorem look_rel {α β : Type} {R : α → β → Prop} (i : Nat) {ks : List (Nat × α)} {ls : List (Nat × β)} (h2 : Paired (fun (p : Nat × α) (q : Nat × β) => p.1 = q.1 ∧ R p.2 q.2) ks ls) : (∀ v, ks.lookup i = some v → ∃ u, ls.lookup i = some u ∧ R v u) ∧ (ks.lookup i = none → ls.lookup i = none) := by
  induction h2 with
  | nil => exact ⟨fun v z => by simp at z, fun _ => rfl⟩
  | @cons p q t u a _ ih =>
    obtain ⟨k, v⟩ := p
    obtain ⟨k', v'⟩ := q
    obtain ⟨e1, e2⟩ := a
    simp only at e1 e2
    subst e1
    rw [List.lookup_cons, List.lookup_cons]
    cases (i == k) with
    | true => exact ⟨fun w z => by cases z; exact ⟨_, rfl, e2⟩, fun z => by cases z⟩
    | false => exact ih
theorem nodup_inj {α β : Type} {f : α → β} : ∀ {l : List α}, l.Nodup → (∀ a ∈ l, ∀ b ∈ l, f a = f b → a = b) → (l.map f).Nodup
  | [], _, _ => List.nodup_nil
  | a :: l, nd, h => by
    rw [List.nodup_cons] at nd
    rw [List.map_cons, List.nodup_cons]
    refine ⟨fun hm => ?_, nodup_inj nd.2 fun x hx y hy => h x (List.mem_cons_of_mem _ hx) y (List.mem_cons_of_mem _ hy)⟩
    obtain ⟨b, hb, e⟩ := List.mem_map.mp hm
    exact nd.1 (h b (List.mem_cons_of_mem _ hb) a List.mem_cons_self e ▸ hb)
/-- related values, related in the parameters' order -/
theorem arrI_rel {α β : Type} {R : α → β → Prop} {np : Nat} {as : List α} {bs : List β} {ks : List (Nat × α)} {ls : List (Nat × β)} {ds : List α} {es : List β} (h1 : Paired R as bs) (h2 : Paired (fun (p : Nat × α) (q : Nat × β) => p.1 = q.1 ∧ R p.2 q.2) ks ls) (h3 : Paired R ds es) :
    ∀ {r i : Nat} {ws : List α}, arrI np as ks ds i r = some ws → ∃ us, arrI np bs ls es i r = some us ∧ Paired R ws us
  | 0, _, _, e => by
    cases e
    exact ⟨[], rfl, .nil⟩
  | r + 1, i, ws, e => by
    have get : ∀ {as : List α} {bs : List β} (i : Nat), Paired R as bs → (∀ v, as[i]? = some v → ∃ u, bs[i]? = some u ∧ R v u) ∧ (as[i]? = none → bs[i]? = none) := by
      intro as bs i h
      induction h generalizing i with
      | nil => exact ⟨fun v z => by simp at z, fun _ => by simp⟩
      | cons a t ih =>
        cases i with
        | zero => exact ⟨fun v z => by simp at z; subst z; exact ⟨_, rfl, a⟩, fun z => by simp at z⟩
        | succ i => exact ⟨fun v z => by simpa using (ih i).1 v (by simpa using z), fun z => by simpa using (ih i).2 (by simpa using z)⟩
    have look := look_rel i h2
    have hl : ds.length = es.length := Paired.length h3
    have pk : ∀ v, pick np as ks ds i = some v → ∃ u, pick np bs ls es i = some u ∧ R v u := fun v hv => by
      unfold pick at hv ⊢
      cases ha : as[i]? with
      | some x =>
        simp only [ha] at hv
        cases hv
        obtain ⟨u, g1, g2⟩ := (get i h1).1 _ ha
        exact ⟨u, by simp only [g1], g2⟩
      | none =>
        simp only [ha] at hv
        simp only [(get i h1).2 ha]
        cases hk : ks.lookup i with
        | some x =>
          simp only [hk] at hv
          cases hv
          obtain ⟨u, g1, g2⟩ := look.1 _ hk
          exact ⟨u, by simp only [g1], g2⟩
        | none =>
          simp only [hk] at hv
          simp only [look.2 hk]
          rw [← hl]
          split at hv
          · rename_i hn
            rw [if_pos hn]
            exact (get _ h3).1 v hv
          · cases hv
    unfold arrI at e
    cases h : pick np as ks ds i with
    | none =>
      simp only [h] at e
      cases e
    | some v =>
      simp only [h] at e
      obtain ⟨t, e1, rfl⟩ := Option.map_eq_some_iff.mp e
      obtain ⟨u, g1, g2⟩ := pk v h
      obtain ⟨us, g3, g4⟩ := arrI_rel h1 h2 h3 e1
      refine ⟨u :: us, ?_, .cons g2 g4⟩
      unfold arrI
      simp only [g1, g3]
      rfl
theorem zip_lookup {ps : List Str} : ∀ {us : List Value} {i : Nat} {n : Str}, ps.Nodup → ps[i]? = some n → (ps.zip us).lookup n = us[i]? := by
  induction ps with
  | nil => intro us i n _ h; simp at h
  | cons p ps ih =>
    intro us i n nd h
    rw [List.nodup_cons] at nd
    cases us with
    | nil => simp
    | cons u us =>
      rw [List.zip_cons_cons, List.lookup_cons]
      cases i with
      | zero =>
        simp at h
        rw [h, beq_self_eq_true]
        rfl
      | succ i =>
        have hn : n ∈ ps := List.mem_of_getElem? (by simpa using h)
        have : n ≠ p := fun e => nd.1 (e ▸ hn)
        rw [beq_eq_false_iff_ne.mpr this]
        simp only
        rw [ih nd.2 (by simpa using h)]
        simp
/-- names for numbers -/
def kwOf (ps : List Str) (ks : List (Nat × Value)) : Al := ks.map fun q => ((ps[q.1]?).getD Str.empty, q.2)
theorem kwOf_lookup {ps : List Str} (nd : ps.Nodup) {i : Nat} {n : Str} (h : ps[i]? = some n) : ∀ {ks : List (Nat × Value)}, (∀ q ∈ ks, q.1 < ps.length) → (kwOf ps ks).lookup n = ks.lookup i
  | [], _ => rfl
  | (k, v) :: ks, hk => by
    have hk1 : k < ps.length := hk (k, v) List.mem_cons_self
    show List.lookup n (((ps[k]?).getD Str.empty, v) :: kwOf ps ks) = _
    rw [List.lookup_cons, List.lookup_cons, kwOf_lookup nd h fun q hq => hk q (List.mem_cons_of_mem _ hq), List.getElem?_eq_getElem hk1, Option.getD_some]
    have : (n == ps[k]) = (i == k) := by
      obtain ⟨hi, e⟩ := List.getElem?_eq_some_iff.mp h
      rw [← e, Bool.eq_iff_iff, beq_iff_eq, beq_iff_eq]
      exact ⟨fun z => (List.getElem_inj nd).mp z, fun z => by subst z; rfl⟩
    rw [this]
/-- what is bound, by the parameters' numbers -/
theorem bindV_pick {ps : List Str} (nd : ps.Nodup) {us its : List Value} {ks : List (Nat × Value)} {i : Nat} {n : Str} (h : ps[i]? = some n) (hk : ∀ q ∈ ks, q.1 < ps.length) (hi : its.length ≤ ps.length) : bindV ps us (kwOf ps ks) its n = pick ps.length us ks its i := by
  unfold bindV pick
  have hi' := (List.getElem?_eq_some_iff.mp h).1
  rw [look_app, zip_lookup nd h, kwOf_lookup nd h hk]
  cases us[i]? with
  | some v => rfl
  | none =>
    simp only
    cases ks.lookup i with
    | some v => rfl
    | none =>
      simp only
      by_cases hh : ps.length ≤ i + its.length
      · rw [if_pos hh, zip_lookup (i := i + its.length - ps.length) (nd.sublist (List.drop_sublist _ _))]
        rw [List.getElem?_drop, ← h]
        congr 1
        omega
      · rw [if_neg hh]
        have : n ∉ ps.drop (ps.length - its.length) := fun hm => by
          obtain ⟨j, hj, e⟩ := List.mem_iff_getElem.mp hm
          rw [List.getElem_drop] at e
          obtain ⟨_, e2⟩ := List.getElem?_eq_some_iff.mp h
          have := (List.getElem_inj nd).mp (e.trans e2.symm)
          omega
        cases hl : ((ps.drop (ps.length - its.length)).zip its).lookup n with
        | none => rfl
        | some v => exact absurd (List.of_mem_zip (PySem.mem_of_lookup hl)).1 this
/-- THE RULE: a call's values, by the parameters' numbers -/
theorem bind_arr {fd : FuncData} {ps : List Str} {us its ws : List Value} {ks : List (Nat × Value)} {r : Option (Array Value)} (h1 : fd.params.posonlyargs = []) (h2 : fd.params.args.map (·.arg) = ps) (h3 : fd.params.kwonlyargs = []) (h4 : fd.params.vararg = none) (h5 : fd.params.kwarg = none)
    (nd : ps.Nodup) (hu : us.length ≤ ps.length) (hk : ∀ q ∈ ks, us.length ≤ q.1 ∧ q.1 < ps.length) (hkn : (ks.map (·.1)).Nodup) (hi : its.length ≤ ps.length) (hr : (r.getD #[]).toList = its)
    (hw : arrI ps.length us ks its 0 ps.length = some ws)
    {K : PySem.W.Frag} {s : Shared} (X : K.In s.heap) (hd : fd.defaults = .none ∧ r = none ∨ ∃ T o n, fd.defaults = .ref T ∧ K.lookup T = some o ∧ o.data = .seq its.toArray n ∧ r = some its.toArray) :
    BindsTo s fd ⟨us, kwOf ps ks⟩ (ps.zip ws) := by
  have hk' : ∀ q ∈ ks, q.1 < ps.length := fun q hq => (hk q hq).2
  have nm : ∀ (q : Nat × Value) (hq : q ∈ ks), (ps[q.1]?).getD Str.empty = ps[q.1]'(hk' q hq) := fun q hq => by rw [List.getElem?_eq_getElem (hk' q hq)]; rfl
  have pk : ∀ (i : Nat) (n : Str), ps[i]? = some n → ∃ v, ws[i]? = some v ∧ bindV ps us (kwOf ps ks) its n = some v := fun i n h => by
    obtain ⟨v, g1, g2⟩ := arrI_get i hw (List.getElem?_eq_some_iff.mp h).1
    rw [Nat.zero_add] at g2
    exact ⟨v, g1, by rw [bindV_pick nd h hk' hi, g2]⟩
  have e : (ps.map fun n => (n, (bindV ps us (kwOf ps ks) its n).getD .none)) = ps.zip ws := by
    have lw : ws.length = ps.length := arrI_len hw
    refine List.ext_getElem (by rw [List.length_map, List.length_zip, lw, Nat.min_self]) fun i g1 g2 => ?_
    rw [List.length_map] at g1
    rw [List.getElem_map, List.getElem_zip]
    obtain ⟨v, e1, e2⟩ := pk i _ (List.getElem?_eq_getElem g1)
    obtain ⟨g3, e3⟩ := List.getElem?_eq_some_iff.mp e1
    rw [e2, Option.getD_some, e3]
  rw [← e]
  refine bind_plain h1 h2 h3 h4 h5 hu (fun q hq => ?_) ?_ (fun q hq => ?_) hi hr (fun n hn => ?_) (fun n hn => ?_) X hd
  · obtain ⟨p, hp, rfl⟩ := List.mem_map.mp hq
    show (ps[p.1]?).getD Str.empty ∈ ps
    rw [nm p hp]
    exact List.getElem_mem _
  · show ((ks.map fun q => ((ps[q.1]?).getD Str.empty, q.2)).map (·.1)).Nodup
    rw [List.map_map]
    have : (ks.map fun q => (ps[q.1]?).getD Str.empty) = (ks.map (·.1)).map fun i => (ps[i]?).getD Str.empty := by rw [List.map_map]; rfl
    show (ks.map fun q => (ps[q.1]?).getD Str.empty).Nodup
    rw [this]
    refine nodup_inj hkn fun i hi j hj z => ?_
    obtain ⟨p, hp, rfl⟩ := List.mem_map.mp hi
    obtain ⟨q, hq, rfl⟩ := List.mem_map.mp hj
    rw [nm p hp, nm q hq] at z
    exact (List.getElem_inj nd).mp z
  · obtain ⟨p, hp, rfl⟩ := List.mem_map.mp hq
    have h : ps[p.1]? = some ((ps[p.1]?).getD Str.empty) := by rw [nm p hp, List.getElem?_eq_getElem (hk' p hp)]
    rw [zip_lookup nd h]
    exact List.getElem?_eq_none (hk p hp).1
  · obtain ⟨i, hi, rfl⟩ := List.mem_iff_getElem.mp hn
    obtain ⟨v, _, g⟩ := pk i _ (List.getElem?_eq_getElem hi)
    exact ⟨v, g⟩
  · obtain ⟨i, hi', e⟩ := List.mem_iff_getElem.mp hn
    rw [List.length_take] at hi'
    rw [List.getElem_take] at e
    have h : ps[i]? = some n := by rw [← e]; exact List.getElem?_eq_getElem (by omega)
    obtain ⟨v, _, g⟩ := pk i n h
    unfold bindV at g
    cases hl : (ps.zip us ++ kwOf ps ks).lookup n with
    | some v => rfl
    | none =>
      simp only [hl] at g
      have : n ∉ ps.drop (ps.length - its.length) := fun hm => by
        obtain ⟨j, hj, e3⟩ := List.mem_iff_getElem.mp hm
        rw [List.getElem_drop] at e3
        have := (List.getElem_inj nd).mp (e3.trans e.symm)
        omega
      exact absurd (List.of_mem_zip (PySem.mem_of_lookup g)).1 this
end Wk

set_option Elab.async false
set_option linter.all false
set_option maxRecDepth 100000
set_option maxHeartbeats 1000000
/-! WkF: functions of the text by what they compute; calls. -/
namespace Wk
open PySem PySem.Spec L2
open PyProof.Rows hiding St

/-! ### syntax: no stars, named keywords -/
def starE : Expr → Bool
  | .Starred _ _ => true
  | _ => false
theorem star_cons {e : Expr} (h : starE e = false) (es : List Expr) (env : PySem.Env) : starEach (e :: es) env = (false, eval e env) :: starEach es env := by
  cases e <;> first | rfl | (simp [starE] at h)
theorem star_plain {env : PySem.Env} {pos : Pos} : ∀ {es : List Expr}, (∀ e ∈ es, starE e = false) → (backTo pos (starEach es env)).any (·.1) = false
  | [], _ => rfl
  | e :: es, h => by
    rw [star_cons (h e List.mem_cons_self)]
    show (false || (backTo pos (starEach es env)).any (·.1)) = false
    rw [star_plain fun x hx => h x (List.mem_cons_of_mem _ hx)]
    rfl
theorem star_all {env : PySem.Env} {pos : Pos} : ∀ {es : List Expr}, (∀ e ∈ es, starE e = false) → (backTo pos (starEach es env)).all (!·.1) = true
  | [], _ => rfl
  | e :: es, h => by
    rw [star_cons (h e List.mem_cons_self)]
    show (!false && (backTo pos (starEach es env)).all (!·.1)) = true
    rw [star_all fun x hx => h x (List.mem_cons_of_mem _ hx)]
    rfl
theorem kw_all {env : PySem.Env} {pos : Pos} : ∀ {ks : List Keyword}, (∀ q ∈ ks, q.arg.isSome = true) → (backToKw pos (keywordEach ks env)).all (·.1.isSome) = true
  | [], _ => rfl
  | ⟨n, e, p⟩ :: ks, h => by
    show (n.isSome && (backToKw pos (keywordEach ks env)).all (·.1.isSome)) = true
    rw [kw_all fun x hx => h x (List.mem_cons_of_mem _ hx), h ⟨n, e, p⟩ List.mem_cons_self]
    rfl
theorem kw_none {env : PySem.Env} {pos : Pos} : ∀ {ks : List Keyword}, (∀ q ∈ ks, q.arg.isSome = true) → (backToKw pos (keywordEach ks env)).any (·.1.isNone) = false
  | [], _ => rfl
  | ⟨n, e, p⟩ :: ks, h => by
    show (n.isNone || (backToKw pos (keywordEach ks env)).any (·.1.isNone)) = false
    have h1 := h ⟨n, e, p⟩ List.mem_cons_self
    rw [kw_none fun x hx => h x (List.mem_cons_of_mem _ hx)]
    cases n with
    | none => cases h1
    | some x => rfl
theorem kw_names {env : PySem.Env} {pos : Pos} : ∀ {ks : List Keyword}, (backToKw pos (keywordEach ks env)).filterMap (·.1) = ks.filterMap (·.arg)
  | [] => rfl
  | ⟨n, e, p⟩ :: ks => by
    have ih := kw_names (env := env) (pos := pos) (ks := ks)
    show List.filterMap (·.1) ((n, do let v ← eval e env; standAt pos; pure v) :: backToKw pos (keywordEach ks env)) = _
    cases n with
    | none =>
      show List.filterMap (·.1) (backToKw pos (keywordEach ks env)) = List.filterMap (·.arg) (⟨none, e, p⟩ :: ks)
      rw [ih]
      rfl
    | some x =>
      show x :: List.filterMap (·.1) (backToKw pos (keywordEach ks env)) = List.filterMap (·.arg) (⟨some x, e, p⟩ :: ks)
      rw [ih]
      rfl
theorem kw_len {env : PySem.Env} {pos : Pos} : ∀ {ks : List Keyword}, (backToKw pos (keywordEach ks env)).length = ks.length
  | [] => rfl
  | ⟨n, e, p⟩ :: ks => congrArg (· + 1) (kw_len (env := env) (pos := pos) (ks := ks))
theorem star_len {env : PySem.Env} {pos : Pos} : ∀ {es : List Expr}, (backTo pos (starEach es env)).length = es.length
  | [] => rfl
  | e :: es => by
    have ih := star_len (env := env) (pos := pos) (es := es)
    cases e <;> exact congrArg (· + 1) ih

/-! ### a call's node -/
theorem evalArgs_nil2 {M : Model} {A : Around} {E : Value → Shared → Prop} {s : Shared} {f : Value} {keywords : List (Option Str × Sem Value)} {Q : Args → Shared → Prop} (hall : keywords.all (·.1.isSome) = true)
    (h : wpAny M A (spliced []) (fun vs s1 => wpAny M A (evalAll (keywords.map (·.2))) (fun ks s2 => Q ⟨vs, (keywords.filterMap (·.1)).zip ks⟩ s2) E s1) E s) : wpAny M A (evalArgs f true [] keywords) Q E s := by
  unfold evalArgs
  show wpAny M A (spliced [] >>= _) Q E s
  refine wpAny_bind (wpAny_mono h (fun vs s1 h1 => ?_) fun _ _ z => z)
  refine wpAny_bind (wpAny_pure ?_)
  refine wpAny_holding ?_
  rw [if_pos hall]
  refine wpAny_bind (wpAny_mono h1 (fun ks s2 h2 => ?_) fun _ _ z => z)
  exact wpAny_bind (wpAny_pure (wpAny_pure h2))
section
variable {X : Cx} {es : List Expr} {kws : List Keyword} {t tk : TA} {pos : Pos}
theorem call_any {pins : List (Addr × Obj)} {s : Shared} {σ : L2.St} {H : Hp} {Q : Value → Shared → Prop} {R : List V → List V → Hp → Prop} {f : Value} {first : List Value} (I : Inv X pins σ H s) (hk : PySem.W.keepIn X.K f = true)
    (hs : ∀ e ∈ es, starE e = false) (hn : ∀ q ∈ kws, q.arg.isSome = true) (ha : PA X es t) (hkw : PK X kws tk) (h : t σ H fun vs H1 => tk σ H1 fun zs H2 => R vs zs H2)
    (go : ∀ s2 us ws vs zs H2, Inv X pins σ H2 s2 → Vals vs us → Vals zs ws → R vs zs H2 → wpAny (model X.prog X.w) X.A (call f (first ++ us) ((kws.filterMap (·.arg)).zip ws)) Q X.xe s2) :
    wpAny (model X.prog X.w) X.A (callWith pos f first (backTo pos (starEach es X.env)) (backToKw pos (keywordEach kws X.env))) Q X.xe s := by
  refine PySem.W.callWith_of (by rw [star_plain hs, kw_none hn]; rfl) (PySem.W.keeps_K hk) ?_
  have inner : wpAny (model X.prog X.w) X.A (spliced (backTo pos (starEach es X.env))) (fun us s1 => wpAny (model X.prog X.w) X.A (evalAll ((backToKw pos (keywordEach kws X.env)).map (·.2)))
      (fun ws s2 => X.K.In s2.heap ∧ wpAny (model X.prog X.w) X.A (call f (first ++ us) (((backToKw pos (keywordEach kws X.env)).filterMap (·.1)).zip ws)) Q X.xe s2) X.xe s1) X.xe s := by
    refine thn (ha.run pos pins s σ H _ I h) fun us s1 ⟨vs, H1, I1, r, q⟩ => ?_
    refine thn (hkw.run pos pins s1 σ H1 _ I1 q) fun ws s2 ⟨zs, H2, I2, rz, q2⟩ => ⟨I2.kIn, ?_⟩
    rw [kw_names]
    exact go s2 us ws vs zs H2 I2 r rz q2
  cases es with
  | nil =>
    exact evalArgs_nil2 (kw_all hn) inner
  | cons e es => exact evalArgs_kw2 (kw_all hn) inner (star_cons (hs e List.mem_cons_self) es X.env)
end

/-! ### functions -/
/-- a def as the walk may call it: the stack lets everything be shown -/
structure FnG (P : Program) (w : World) (K : PySem.W.Frag) (mg : Str → Option Value) (base : Heap) (k : Nat) (f : Addr) (fd : FuncData) (ps : List Str) (sp : Sp) : Prop where
  len : ∀ vs H Q E, sp vs H Q E → vs.length = ps.length
  run : ∀ (A : Around) (outer : List PySem.Env) (s : Shared) (H : Hp) (args : Args) (us : List Value) (vs : List V) (Q : VK) (E : XK), Room k A → A.guards = some [] → Env0 P w K mg base A outer s H → BindsTo s fd args (ps.zip us) → Vals vs us → sp vs H Q E →
    codeAny (model P w) A (.call (.ref f) args) (CR (L2.CX P w) outer P w H s Q E) s
theorem FnG.mono {P : Program} {w : World} {K : PySem.W.Frag} {mg : Str → Option Value} {base : Heap} {j k : Nat} {f : Addr} {fd : FuncData} {ps : List Str} {sp : Sp} (F : FnG P w K mg base j f fd ps sp) (h : j ≤ k) : FnG P w K mg base k f fd ps sp :=
  ⟨F.len, fun A outer s H args us vs Q E hr => F.run A outer s H args us vs Q E (hr.mono h)⟩
/-- what the walk knows of a def's object -/
structure FnS (K : PySem.W.Frag) (Z : Sx) (d : FDef) (a : Addr) (fd : FuncData) (ps : List Str) : Prop where
  kp : PySem.W.keepIn K (.ref a) = true
  p1 : fd.params.posonlyargs = []
  p2 : fd.params.args.map (·.arg) = ps
  p3 : fd.params.kwonlyargs = []
  p4 : fd.params.vararg = none
  p5 : fd.params.kwarg = none
  nd : ps.Nodup
  np : ps.length = d.pars
  dfl : ∃ (its : List Value) (r : Option (Array Value)) (dvs : List V), its.length ≤ ps.length ∧ (r.getD #[]).toList = its ∧
    (fd.defaults = .none ∧ r = none ∨ ∃ T o n, fd.defaults = .ref T ∧ K.lookup T = some o ∧ o.data = .seq its.toArray n ∧ r = some its.toArray) ∧ Vals dvs its ∧ ∀ F, RlL K Z F d.dfl dvs
/-- what a def promises: what its call computes -/
def spI (K : PySem.W.Frag) (Z : Sx) (n : Nat) (c : List Vl → Store → Res Vl) : Sp := fun vs H Q E => vs.length = n ∧ ∃ W S us, Sto K Z W S H ∧ RvL K Z W us vs ∧ Po K Z (fun cls dd _ H => E cls dd H) (Rv K Z) W [] Q (c us S)
theorem Po.sig {K : PySem.W.Frag} {Z : Sx} {E E' : WX} {W : Wd} {σ σ' : L2.St} {α β : Type} {R : Wd → α → β → Prop} {Q : β → Hp → Prop} {r : Res α} (h : Po K Z E R W σ Q r) (i : ∀ c d H, E c d σ H → E' c d σ' H) : Po K Z E' R W σ' Q r := by
  cases r with
  | ok v S => exact h
  | exc x S => exact fun W1 c d H l s q => i c d H (h W1 c d H l s q)
  | bad => exact h
theorem rvL_paired {K : PySem.W.Frag} {Z : Sx} {W : Wd} : ∀ {us : List Vl} {vs : List V}, RvL K Z W us vs → Paired (Rv K Z W) us vs
  | _, _, .nil => .nil
  | _, _, .cons h r => .cons h (rvL_paired r)
theorem paired_rvL {K : PySem.W.Frag} {Z : Sx} {W : Wd} : ∀ {us : List Vl} {vs : List V}, Paired (Rv K Z W) us vs → RvL K Z W us vs
  | _, _, .nil => .nil
  | _, _, .cons h r => .cons h (paired_rvL r)
theorem dfl_paired {K : PySem.W.Frag} {Z : Sx} {W : Wd} : ∀ {ds : List D} {vs : List V}, RlL K Z W.F ds vs → Paired (Rv K Z W) (ds.map Vl.d) vs
  | _, _, .nil => .nil
  | _, _, .cons h r => .cons h (dfl_paired r)
section
variable {X : Cx} {Z : Sx} {d : FDef} {a : Addr} {fd : FuncData} {ps : List Str} {k : Nat} {c : List Vl → Store → Res Vl}
/-- numbered keywords' values -/
inductive RvK (K : PySem.W.Frag) (Z : Sx) (W : Wd) : List (Nat × Vl) → List V → Prop
  | nil : RvK K Z W [] []
  | cons {i : Nat} {d : Vl} {v : V} {ds : List (Nat × Vl)} {vs : List V} : Rv K Z W d v → RvK K Z W ds vs → RvK K Z W ((i, d) :: ds) (v :: vs)
theorem RvK.mono {K : PySem.W.Frag} {W W' : Wd} (l : W.le W') : ∀ {ks : List (Nat × Vl)} {vs : List V}, RvK K Z W ks vs → RvK K Z W' ks vs
  | _, _, .nil => .nil
  | _, _, .cons h r => .cons (h.mono l) (RvK.mono l r)
theorem RvK.len {K : PySem.W.Frag} {W : Wd} : ∀ {ks : List (Nat × Vl)} {vs : List V}, RvK K Z W ks vs → ks.length = vs.length
  | _, _, .nil => rfl
  | _, _, .cons _ r => congrArg (· + 1) (RvK.len r)
theorem rvK_paired {K : PySem.W.Frag} {W : Wd} : ∀ {ks : List (Nat × Vl)} {vs : List V}, RvK K Z W ks vs → Paired (fun (p : Nat × Vl) (q : Nat × V) => p.1 = q.1 ∧ Rv K Z W p.2 q.2) ks ((ks.map (·.1)).zip vs)
  | _, _, .nil => .nil
  | _, _, .cons h r => .cons ⟨rfl, h⟩ (rvK_paired r)
theorem vals_kw {is : List Nat} : ∀ {vs : List V} {us : List Value}, Vals vs us → Paired (fun (p : Nat × V) (q : Nat × Value) => p.1 = q.1 ∧ RelV p.2 q.2) (is.zip vs) (is.zip us) := by
  induction is with
  | nil => intro vs us _; exact .nil
  | cons i is ih =>
    intro vs us r
    cases r with
    | nil => exact .nil
    | cons h t => exact .cons ⟨rfl, h⟩ (ih t)
theorem zip_names {f : Nat → Str} : ∀ {is : List Nat} {ws : List Value}, (is.zip ws).map (fun q => (f q.1, q.2)) = (is.map f).zip ws
  | [], _ => rfl
  | _ :: _, [] => rfl
  | i :: is, w :: ws => congrArg ((f i, w) :: ·) (zip_names (is := is) (ws := ws))
/-- THE CALL: a def runs on values in its parameters' order -/
theorem run_g {pins : List (Addr × Obj)} {s : Shared} {σ : L2.St} {H : Hp} {Q : VK} {E : WX} {us ws : List Value} {vs zs : List V} {ms : List Vl} {ns : List (Nat × Vl)} {names : List Str} {W : Wd} {S : Store} {ls : List Vl}
    (tk : Takes X E) (F : FnG X.prog X.w X.K X.mg X.base k a fd ps (spI X.K Z d.pars c)) (T : FnS X.K Z d a fd ps) {A : Around} (hA : A.frames = X.A.frames) (hr : Room k A) (hg : A.guards = some []) (I : Inv X pins σ H s) (r : Vals vs us) (rz : Vals zs ws)
    (st : Sto X.K Z W S H) (r1 : RvL X.K Z W ms vs) (r2 : RvK X.K Z W ns zs) (hls : argsOf d.pars d.dfl ms ns = some ls) (hm : ms.length ≤ d.pars) (hn : ∀ q ∈ ns, ms.length ≤ q.1 ∧ q.1 < d.pars) (hnn : (ns.map (·.1)).Nodup)
    (hnm : names = (ns.map (·.1)).map fun i => (ps[i]?).getD Str.empty) (h : Po X.K Z E (Rv X.K Z) W σ Q (c ls S)) :
    wpAny (model X.prog X.w) A (call (.ref a) us (names.zip ws)) (EP X pins σ Q) X.xe s := by
  obtain ⟨its, ro, dvs, hi, hr', hd, rd, rl⟩ := T.dfl
  have p1 := rvL_paired r1
  have p2 := rvK_paired r2
  have p3 : Paired (Rv X.K Z W) (d.dfl.map Vl.d) dvs := dfl_paired (rl W.F)
  obtain ⟨vv, g1, g2⟩ := arrI_rel p1 p2 p3 hls
  obtain ⟨ww, g3, g4⟩ := arrI_rel r (vals_kw (is := ns.map (·.1)) rz) rd g1
  have hlen : ms.length = us.length := r1.len.trans r.length
  have hz : ns.length = ws.length := r2.len.trans rz.length
  have fst : ((ns.map (·.1)).zip ws).map (·.1) = ns.map (·.1) := by
    rw [List.map_fst_zip (by rw [List.length_map, hz]; exact Nat.le_refl _)]
  have hb := bind_arr (s := s) (us := us) (ks := (ns.map (·.1)).zip ws) (ws := ww) (r := ro) (its := its) T.p1 T.p2 T.p3 T.p4 T.p5 T.nd (by rw [T.np, ← hlen]; exact hm) (fun q hq => by
      have hq1 : q.1 ∈ ns.map (·.1) := by rw [← fst]; exact List.mem_map_of_mem hq
      obtain ⟨p, hp, e⟩ := List.mem_map.mp hq1
      rw [T.np, ← hlen, ← e]
      exact hn p hp) (by rw [fst]; exact hnn) hi hr' (by rw [T.np]; exact g3) I.kIn hd
  have ek : kwOf ps ((ns.map (·.1)).zip ws) = names.zip ws := by
    unfold kwOf
    rw [hnm]
    exact zip_names (f := fun i => (ps[i]?).getD Str.empty)
  rw [ek] at hb
  have l1 := arrI_len g1
  refine wpAny_call (codeAny_mono (F.run A X.stack s H ⟨us, names.zip ws⟩ ww vv Q (fun cls dd H => E cls dd σ H) hr hg ⟨hA.trans I.env0.frames, I.env0.mod, I.env0.bs, I.env0.bsz, I.env0.funs, I.env0.frf, I.env0.hok, I.env0.bare⟩ hb g4 ⟨l1, W, S, ls, st, paired_rvL g2, Po.sig h fun _ _ _ q => q⟩) fun r s' hq => ?_)
  cases r with
  | error e => exact tk e s' (XE.of_call I (fun _ _ _ q => q) hq)
  | ok fl =>
    cases fl with
    | ret u => exact I.after hq
    | next => exact False.elim hq
    | brk => exact False.elim hq
    | cont => exact False.elim hq
end

/-! ### a new instance -/
section
variable {X : Cx} {Z : Sx} {d : FDef} {a : Addr} {fd : FuncData} {ps : List Str} {k : Nat} {c : List Vl → Store → Res Vl}
/-- one more cell -/
theorem Sto.add {K : PySem.W.Frag} {W : Wd} {S : Store} {H : Hp} (s : Sto K Z W S H) {x : Addr} {cl : Cell} (hx : H x ≠ none) (na : ∀ n : Nat, W.am[n]? ≠ some x) (np : W.pn x = none) (k : CellOk K Z W.F H x cl) : Sto K Z ⟨W.F, W.am ++ [x], W.pn⟩ (S ++ [cl]) H := by
  have old : ∀ (m : Nat) (b : Addr), (W.am ++ [x])[m]? = some b → W.am[m]? = some b ∨ (m = W.am.length ∧ b = x) := fun m b e => by
    by_cases hm : m < W.am.length
    · rw [List.getElem?_append_left hm] at e
      exact .inl e
    · rw [List.getElem?_append_right (by omega)] at e
      have : m - W.am.length = 0 := by
        have := (List.getElem?_eq_some_iff.mp e).1
        simp at this
        omega
      rw [this] at e
      simp at e
      exact .inr ⟨by omega, e.symm⟩
  refine ⟨s.ex, by rw [List.length_append, List.length_append, s.len]; rfl, fun m d b hd hb => ?_, fun m m' b e e' => ?_, fun m b e => ?_, fun b xs hb => ⟨(s.pin b xs hb).1, (s.pin b xs hb).2.1, fun m e => ?_, (s.pin b xs hb).2.2.2⟩, s.tab⟩
  · rcases old m b hb with h1 | ⟨h1, h2⟩
    · have hm : m < S.length := by rw [s.len]; exact (List.getElem?_eq_some_iff.mp h1).1
      rw [List.getElem?_append_left hm] at hd
      exact s.cell m d b hd h1
    · subst h2
      rw [h1, ← s.len, List.getElem?_append_right (Nat.le_refl _)] at hd
      simp at hd
      subst hd
      exact k
  · rcases old m b e with h1 | ⟨h1, h2⟩ <;> rcases old m' b e' with h3 | ⟨h3, h4⟩
    · exact s.inj m m' b h1 h3
    · exact absurd (h4 ▸ h1) (na m)
    · exact absurd (h2 ▸ h3) (na m')
    · omega
  · rcases old m b e with h1 | ⟨h1, h2⟩
    · exact s.there m b h1
    · rw [h2]
      exact hx
  · rcases old m b e with h1 | ⟨h1, h2⟩
    · exact (s.pin b xs hb).2.2.1 m h1
    · rw [h2, np] at hb
      cases hb
/-- the store with a new instance in it -/
theorem Sto.made {K : PySem.W.Frag} {W : Wd} {S : Store} {H : Hp} (s : Sto K Z W S H) {x dx : Addr} (n : Nat) (hx : H x = none) (hd : H dx = none) (ne : dx ≠ x) :
    Sto K Z ⟨W.F, W.am ++ [x], W.pn⟩ (S ++ [.ins n []]) (upd (upd H dx (.own x)) x (.ins (Z.ca n) dx [])) := by
  have g1 := s.grow (o := HO.own x) hd
  have hx' : upd H dx (.own x) x = none := by rw [upd_ne ne.symm]; exact hx
  have g2 := g1.grow (o := HO.ins (Z.ca n) dx []) hx'
  refine g2.add (by rw [upd_same]; exact fun z => nomatch z) (fun m e => s.there m x e hx) ?_ ⟨dx, [], upd_same, by rw [upd_ne ne, upd_same], .nil, s.ex.free hx⟩
  cases e : W.pn x with
  | none => rfl
  | some xs =>
    have := (s.pin x xs e).1
    rw [hx] at this
    cases this
/-- the store cut back to what it was -/
theorem Sto.cut {K : PySem.W.Frag} {W W' : Wd} {S S' : Store} {H' : Hp} (s' : Sto K Z W' S' H') (hl : S.length = W.am.length) (l : W.le W') : Sto K Z ⟨W'.F, W.am, W.pn⟩ (S'.take S.length) H' := by
  obtain ⟨e, ⟨t, ea⟩, pe⟩ := l
  have le : W.am.length ≤ W'.am.length := by rw [ea, List.length_append]; omega
  have at' : ∀ (n : Nat) (a : Addr), W.am[n]? = some a → W'.am[n]? = some a := fun n a h => by
    rw [ea, List.getElem?_append_left (List.getElem?_eq_some_iff.mp h).1]
    exact h
  refine ⟨s'.ex, by rw [List.length_take, hl, s'.len]; exact Nat.min_eq_left le, fun n c a hc ha => ?_, fun n m a h1 h2 => s'.inj n m a (at' n a h1) (at' m a h2), fun n a h => s'.there n a (at' n a h), fun b xs hb => by
    rw [← pe] at hb
    exact ⟨(s'.pin b xs hb).1, (s'.pin b xs hb).2.1, fun n e => (s'.pin b xs hb).2.2.1 n (at' n b e), (s'.pin b xs hb).2.2.2⟩, fun p hm => by
    obtain ⟨t1, t2, t3⟩ := s'.tab p hm
    exact ⟨t1, t2, by rw [← pe]; exact t3⟩⟩
  have hn := (List.getElem?_eq_some_iff.mp hc).1
  rw [List.length_take] at hn
  rw [List.getElem?_take_of_lt (by omega)] at hc
  exact s'.cell n c a hc (at' n a ha)
/-- C(..) -/
theorem run_mk {pins : List (Addr × Obj)} {s : Shared} {σ : L2.St} {H : Hp} {Q : VK} {E : WX} {us ws : List Value} {vs zs : List V} {ms : List Vl} {ns : List (Nat × Vl)} {names : List Str} {W : Wd} {S : Store} {ls : List Vl} {n : Nat} {P : Pg} {cl : Cl} {f : Nat}
    (M : Mk X.K (Z.ca n) a) (hf : (P.cls[n]?).bind (·.init) = some f) (hc : c = cl f none) (inj : ∀ a b, Z.nm a = Z.nm b → a = b)
    (tk : Takes X E) (F : FnG X.prog X.w X.K X.mg X.base k a fd ps (spI X.K Z d.pars c)) (T : FnS X.K Z d a fd ps) (hr : Room (k + 1) X.A) (hg : X.A.guards = some []) (I : Inv X pins σ H s) (r : Vals vs us) (rz : Vals zs ws)
    (st : Sto X.K Z W S H) (r1 : RvL X.K Z W ms vs) (r2 : RvK X.K Z W ns zs) (hls : argsOf d.pars d.dfl (.ref S.length :: ms) ns = some ls) (hm : ms.length + 1 ≤ d.pars) (hn : ∀ q ∈ ns, ms.length + 1 ≤ q.1 ∧ q.1 < d.pars) (hnn : (ns.map (·.1)).Nodup)
    (hnm : names = (ns.map (·.1)).map fun i => (ps[i]?).getD Str.empty) (h : Po X.K Z E (Rv X.K Z) W σ Q (mkM P cl n ls S)) :
    wpAny (model X.prog X.w) X.A (call (.ref (Z.ca n)) us (names.zip ws)) (EP X pins σ Q) X.xe s := by
  obtain ⟨its, ro, dvs, hi, hr', hd, rd, rl⟩ := T.dfl
  have hx := I.hok.fresh (Nat.le_succ s.heap.objs.size)
  have hdx := I.hok.fresh (Nat.le_refl s.heap.objs.size)
  have nxd : s.heap.objs.size ≠ s.heap.objs.size + 1 := Nat.ne_of_lt (Nat.lt_succ_self _)
  have I2 := Inv.made (C := Z.ca n) I
  have st2 := st.made n hx hdx nxd
  have lW : W.le ⟨W.F, W.am ++ [s.heap.objs.size + 1], W.pn⟩ := ⟨Ex.refl _, ⟨_, rfl⟩, rfl⟩
  have rself : Rv X.K Z ⟨W.F, W.am ++ [s.heap.objs.size + 1], W.pn⟩ (.ref S.length) (.ref (s.heap.objs.size + 1)) := ⟨_, by rw [st.len, List.getElem?_append_right (Nat.le_refl _)]; simp, rfl⟩
  have r1' : RvL X.K Z ⟨W.F, W.am ++ [s.heap.objs.size + 1], W.pn⟩ (.ref S.length :: ms) (.ref (s.heap.objs.size + 1) :: vs) := .cons rself (r1.mono lW)
  have rr : Vals (V.ref (s.heap.objs.size + 1) :: vs) (Value.ref (s.heap.objs.size + 1) :: us) := .cons rfl r
  have p1 := rvL_paired r1'
  have p2 := rvK_paired (r2.mono lW)
  have p3 : Paired (Rv X.K Z ⟨W.F, W.am ++ [s.heap.objs.size + 1], W.pn⟩) (d.dfl.map Vl.d) dvs := dfl_paired (rl W.F)
  obtain ⟨vv, g1, g2⟩ := arrI_rel p1 p2 p3 hls
  obtain ⟨ww, g3, g4⟩ := arrI_rel rr (vals_kw (is := ns.map (·.1)) rz) rd g1
  have hlen : ms.length = us.length := r1.len.trans r.length
  have hz : ns.length = ws.length := r2.len.trans rz.length
  have fst : ((ns.map (·.1)).zip ws).map (·.1) = ns.map (·.1) := by
    rw [List.map_fst_zip (by rw [List.length_map, hz]; exact Nat.le_refl _)]
  have hb := bind_arr (s := { s with heap := (s.heap.push { cls := .type "dict", data := .dict #[] }).push (PySem.W.instObj (Z.ca n) s.heap.objs.size) }) (us := Value.ref (s.heap.objs.size + 1) :: us) (ks := (ns.map (·.1)).zip ws) (ws := ww) (r := ro) (its := its) T.p1 T.p2 T.p3 T.p4 T.p5 T.nd (by rw [T.np, List.length_cons, ← hlen]; exact hm) (fun q hq => by
      have hq1 : q.1 ∈ ns.map (·.1) := by rw [← fst]; exact List.mem_map_of_mem hq
      obtain ⟨p, hp, e⟩ := List.mem_map.mp hq1
      rw [T.np, List.length_cons, ← hlen, ← e]
      exact hn p hp) (by rw [fst]; exact hnn) hi hr' (by rw [T.np]; exact g3) I2.kIn hd
  have ek : kwOf ps ((ns.map (·.1)).zip ws) = names.zip ws := by
    unfold kwOf
    rw [hnm]
    exact zip_names (f := fun i => (ps[i]?).getD Str.empty)
  rw [ek] at hb
  have l1 := arrI_len g1
  -- what the maker makes of __init__'s end
  have hP : Po X.K Z (fun cls dd _ H => E cls dd σ H) (Rv X.K Z) ⟨W.F, W.am ++ [s.heap.objs.size + 1], W.pn⟩ [] (fun v H2 => v = .non ∧ Q (.ref (s.heap.objs.size + 1)) H2) (c ls (S ++ [.ins n []])) := by
    unfold mkM at h
    simp only [hf] at h
    rw [← hc] at h
    cases e : c ls (S ++ [.ins n []]) with
    | bad =>
      rw [e] at h
      exact h
    | exc x S1 =>
      rw [e] at h
      exact fun W1 cls dd H1 l1 s1 q => h W1 cls dd H1 (lW.trans l1) s1 q
    | ok v S1 =>
      rw [e] at h
      simp only [Res.bind] at h
      intro W1 u H1 l1 s1 ru
      split at h
      · rename_i c' fs hS
        cases (show Rl X.K Z W1.F .non u from ru)
        refine ⟨rfl, ?_⟩
        have a1 : W1.am[S.length]? = some (s.heap.objs.size + 1) := (l1.at (by rw [st.len, List.getElem?_append_right (Nat.le_refl _)]; simp))
        obtain ⟨W2, l2, s2, r2', am2⟩ := s1.frz (v := .ref S.length) (u := .ref (s.heap.objs.size + 1)) (x := .ins c' fs) (S' := S1.set S.length (.fz (.ins c' fs))) ⟨_, a1, rfl⟩ (by
          unfold Wk.frz Wk.vw
          simp only [hS])
        have cutS := s2.cut (S := S) (W := W) st.len (lW.trans (l1.trans l2))
        have et : (S1.set S.length (Cell.fz (.ins c' fs))).take S.length = S1.take S.length := by
          rw [List.take_set_of_le (Nat.le_refl _)]
        rw [et] at cutS
        exact h ⟨W2.F, W.am, W.pn⟩ _ H1 ⟨(lW.trans (l1.trans l2)).1, ⟨[], by simp⟩, rfl⟩ cutS r2'
      · exact h.elim
  have hsp : spI X.K Z d.pars c vv (upd (upd H s.heap.objs.size (.own (s.heap.objs.size + 1))) (s.heap.objs.size + 1) (.ins (Z.ca n) s.heap.objs.size [])) (fun v H2 => v = .non ∧ Q (.ref (s.heap.objs.size + 1)) H2) (fun cls dd H => E cls dd σ H) :=
    ⟨l1, ⟨W.F, W.am ++ [s.heap.objs.size + 1], W.pn⟩, S ++ [.ins n []], ls, st2, paired_rvL g2, hP⟩
  refine wpAny_call (make_map (f := a) I.kIn M.makes M.init (beq_iff_eq.mp M.fn) (codeAny_mono (F.run _ X.stack _ _ ⟨Value.ref (s.heap.objs.size + 1) :: us, names.zip ws⟩ ww vv _ _ (hr.make (Z.ca n) us (names.zip ws)) ?_
    (I2.env0.make (Z.ca n) us (names.zip ws)) hb g4 hsp) fun r s' hq' => ?_))
  · exact hg
  cases r with
  | error e => exact tk e s' (XE.of_call I2 (fun _ _ _ q => q) hq')
  | ok fl =>
    cases fl with
    | ret u =>
      obtain ⟨v, H', I3, rv, ev, q3⟩ := I2.after hq'
      subst ev
      exact ⟨rv, ⟨V.ref (s.heap.objs.size + 1), H', I3, rfl, q3⟩⟩
    | next => exact False.elim hq'
    | brk => exact False.elim hq'
    | cont => exact False.elim hq'
end
end Wk

set_option Elab.async false
set_option linter.all false
set_option maxRecDepth 100000
set_option maxHeartbeats 1000000
/-! WkG: what a loop or a comprehension walks. -/
namespace Wk
open PySem PySem.Spec L2
open PyProof.Rows hiding St

theorem Res.bind_assoc {α β γ : Type} (r : Res α) (k : α → Store → Res β) (l : β → Store → Res γ) : (r.bind k).bind l = r.bind fun a S => (k a S).bind l := by
  cases r <;> rfl
theorem PI.imp {X : Cx} {tg e : Expr} {t t' : TI} (h : PI X tg e t) (i : ∀ σ H Q, t' σ H Q → t σ H Q) : PI X tg e t' := ⟨fun pins s σ H R I q => h.run pins s σ H R I (i σ H R q)⟩
/-- the items, in their order, wherever what is known stands -/
def Walks (K : PySem.W.Frag) (Z : Sx) (F : Hp) (its : List D) (J : It) : Prop :=
  ∀ (W : Wd) (S : Store) (H : Hp), Ex F W.F → Sto K Z W S H → ∀ i : Nat, (i < its.length → J.go i H ∧ ∀ x H', J.yld i H x H' → ∃ W' d, its[i]? = some d ∧ W.le W' ∧ Sto K Z W' S H' ∧ Rl K Z W'.F d x) ∧ (its.length ≤ i → J.stop i H)
def rdI (K : PySem.W.Frag) (Z : Sx) (E : WX) (m : Env → Store → Res (List D)) : TI := fun σ H R => ∃ W ρ S, EnvR K Z W ρ σ ∧ Sto K Z W S H ∧ Po K Z E (fun W its J => Walks K Z W.F its J) W σ R (m ρ S)
section
variable {K : PySem.W.Frag} {Z : Sx} {W : Wd} {S : Store} {H : Hp} {σ : L2.St} {E : WX} {R : It → Hp → Prop} {F : Hp}
theorem ofO_po {α β : Type} {P : Wd → α → β → Prop} {Q : β → Hp → Prop} {o : Option α} (h : Po K Z E P W σ Q (ofO o S)) : ∃ a, o = some a ∧ Po K Z E P W σ Q (.ok a S) := by
  cases o with
  | none => exact h.elim
  | some a => exact ⟨a, rfl, h⟩
theorem frz_po {β : Type} {α : Type} {P : Wd → α → β → Prop} {Q : β → Hp → Prop} {v : Vl} {u : V} {k : D → Store → Res α} (st : Sto K Z W S H) (r : Rv K Z W v u) (h : Po K Z E P W σ Q ((frz v S).bind k)) :
    ∃ W' S' x, W.le W' ∧ W'.am = W.am ∧ Sto K Z W' S' H ∧ Rl K Z W'.F x u ∧ Po K Z E P W' σ Q (k x S') := by
  cases e : frz v S with
  | bad =>
    rw [e] at h
    exact h.elim
  | exc x S1 => exact absurd e frz_noexc
  | ok x S1 =>
    rw [e] at h
    obtain ⟨W', l, s', r', am⟩ := st.frz r e
    exact ⟨W', S1, x, l, am, s', r', Po.mono l h⟩
theorem frzL_noexc {x : Exn} {S' : Store} : ∀ {vs : List Vl} {S : Store}, Wk.frzL vs S ≠ .exc x S'
  | [], S, z => by cases z
  | v :: vs, S, z => by
    unfold Wk.frzL at z
    cases h1 : Wk.frz v S with
    | exc x S1 => exact frz_noexc h1
    | bad =>
      rw [h1] at z
      cases z
    | ok a S1 =>
      rw [h1] at z
      change (Wk.frzL vs S1).bind _ = _ at z
      cases h2 : Wk.frzL vs S1 with
      | exc x S2 => exact frzL_noexc h2
      | bad =>
        rw [h2] at z
        cases z
      | ok b S2 =>
        rw [h2] at z
        cases z
theorem frzL_po {β : Type} {α : Type} {P : Wd → α → β → Prop} {Q : β → Hp → Prop} {vs : List Vl} {us : List V} {k : List D → Store → Res α} (st : Sto K Z W S H) (r : RvL K Z W vs us) (h : Po K Z E P W σ Q ((frzL vs S).bind k)) :
    ∃ W' S' xs, W.le W' ∧ W'.am = W.am ∧ Sto K Z W' S' H ∧ RlL K Z W'.F xs us ∧ Po K Z E P W' σ Q (k xs S') := by
  cases e : frzL vs S with
  | bad =>
    rw [e] at h
    exact h.elim
  | exc x S1 => exact absurd e frzL_noexc
  | ok x S1 =>
    rw [e] at h
    obtain ⟨W', l, s', r', am⟩ := st.frzL r e
    exact ⟨W', S1, x, l, am, s', r', Po.mono l h⟩
/-- the arguments of what is walked, frozen -/
theorem itR_po {k : ItK} {vs : List Vl} {us : List V} (st : Sto K Z W S H) (r : RvL K Z W vs us)
    (h : Po K Z E (fun W its J => Walks K Z W.F its J) W σ R ((frzL vs S).bind fun xs S => ofO (items k xs) S)) :
    ∃ W' S' xs its, W.le W' ∧ Sto K Z W' S' H ∧ RlL K Z W'.F xs us ∧ items k xs = some its ∧ ∀ J, Walks K Z W'.F its J → R J H := by
  obtain ⟨W', S', xs, l, am, s', r', q⟩ := frzL_po st r h
  obtain ⟨its, e, q⟩ := ofO_po q
  exact ⟨W', S', xs, its, l, s', r', e, fun J w => q W' J H (Wd.le.refl _) s' w⟩

theorem RlL.at {ds : List D} {vs : List V} (r : RlL K Z F ds vs) {i : Nat} {x : V} (e : vs[i]? = some x) : ∃ d, ds[i]? = some d ∧ Rl K Z F d x := r.get e
theorem walks_list {a : Addr} {vs : List V} {ds : List D} (h : F a = some (.lst vs)) (r : RlL K Z F ds vs) : Walks K Z F ds (Itl K a) := by
  intro W S H e st i
  have q : SqL K H a vs := SqL.of (st.ex _ _ (e _ _ h))
  refine ⟨fun hi => ?_, fun hi => ⟨vs, q, by rw [← r.len]; exact hi⟩⟩
  rw [r.len] at hi
  refine ⟨⟨vs, vs[i], q, List.getElem?_eq_getElem hi⟩, fun x H' y => ?_⟩
  obtain ⟨e1, e2⟩ := y
  subst e1
  obtain ⟨d, d1, d2⟩ := r.at (e2 vs q)
  exact ⟨W, d, d1, Wd.le.refl W, st, Rl.mono e d2⟩
theorem walks_tup {a : Addr} {vs : List V} {ds : List D} (h : SqT K F a vs) (r : RlL K Z F ds vs) : Walks K Z F ds (Itt K a) := by
  intro W S H e st i
  have q : SqT K H a vs := (e.trans st.ex).t h
  refine ⟨fun hi => ?_, fun hi => ⟨vs, q, by rw [← r.len]; exact hi⟩⟩
  rw [r.len] at hi
  refine ⟨⟨vs, vs[i], q, List.getElem?_eq_getElem hi⟩, fun x H' y => ?_⟩
  obtain ⟨e1, e2⟩ := y
  subst e1
  obtain ⟨d, d1, d2⟩ := r.at (e2 vs q)
  exact ⟨W, d, d1, Wd.le.refl W, st, Rl.mono e d2⟩
theorem rngD_len (lo : Int) (n : Nat) : (rngD lo n).length = n := by
  unfold rngD
  rw [List.length_map, List.length_range]
theorem walks_rng (lo : Int) (n : Nat) : Walks K Z F (rngD lo n) (Itr lo n) := by
  intro W S H e st i
  rw [rngD_len]
  refine ⟨fun hi => ⟨hi, fun x H' y => ?_⟩, fun hi => hi⟩
  obtain ⟨e1, e2⟩ := y
  subst e1 e2
  refine ⟨W, .int (lo + i), ?_, Wd.le.refl W, st, .int _⟩
  unfold rngD
  rw [List.getElem?_map, List.getElem?_range hi]
  rfl
theorem zipD_at : ∀ {xs ys : List D} {i : Nat} {x y : D}, xs[i]? = some x → ys[i]? = some y → (zipD xs ys)[i]? = some (.tup [x, y])
  | x :: xs, y :: ys, 0, _, _, h1, h2 => by
    simp at h1 h2
    subst h1 h2
    rfl
  | x :: xs, y :: ys, i + 1, _, _, h1, h2 => by
    simp at h1 h2
    show (zipD xs ys)[i]? = _
    exact zipD_at h1 h2
  | [], _, _, _, _, h1, _ => by simp at h1
  | _ :: _, [], _, _, _, _, h2 => by simp at h2
theorem zipD_len : ∀ (xs ys : List D), (zipD xs ys).length = min xs.length ys.length
  | [], _ => by simp [zipD]
  | _ :: _, [] => by simp [zipD]
  | x :: xs, y :: ys => by
    simp only [zipD, List.length_cons, zipD_len xs ys]
    omega
theorem enumD_len : ∀ (n : Nat) (xs : List D), (enumD n xs).length = xs.length
  | _, [] => rfl
  | n, x :: xs => by simp [enumD, enumD_len (n + 1) xs]
theorem enumD_at : ∀ {xs : List D} {n i : Nat} {x : D}, xs[i]? = some x → (enumD n xs)[i]? = some (.tup [.int ((n + i : Nat) : Int), x])
  | x :: xs, n, 0, _, h => by
    simp at h
    subst h
    rfl
  | x :: xs, n, i + 1, _, h => by
    simp at h
    show (enumD (n + 1) xs)[i]? = _
    rw [enumD_at h]
    have : n + 1 + i = n + (i + 1) := by omega
    rw [this]
  | [], _, _, _, h => by simp at h
/-- a new pair -/
theorem pair_new {x y : V} {d e : D} {T : Addr} (st : Sto K Z W S H) (hT : H T = none) (r1 : Rl K Z W.F d x) (r2 : Rl K Z W.F e y) : ∃ W', W.le W' ∧ Sto K Z W' S (upd H T (.tup [x, y])) ∧ Rl K Z W'.F (.tup [d, e]) (.ref T) := by
  have hf := st.ex.free hT
  have ex := Ex.new (o := HO.tup [x, y]) hf
  exact ⟨⟨upd W.F T (.tup [x, y]), W.am, W.pn⟩, Wd.le.new hf, st.new hT, .tup (SqT.of upd_same) (by show 2 ≤ sizeLine; decide) (.cons (Rl.mono ex r1) (.cons (Rl.mono ex r2) .nil))⟩
theorem walks_zipL {a b : Addr} {vs ws : List V} {ds es : List D} (h : F a = some (.lst vs)) (h' : F b = some (.lst ws)) (r : RlL K Z F ds vs) (r' : RlL K Z F es ws) : Walks K Z F (zipD ds es) (Itz K a b) := by
  intro W S H e st i
  have q : SqL K H a vs := SqL.of (st.ex _ _ (e _ _ h))
  have q' : SqL K H b ws := SqL.of (st.ex _ _ (e _ _ h'))
  have l1 := r.len
  have l2 := r'.len
  rw [zipD_len]
  refine ⟨fun hi => ?_, fun hi => ⟨vs, ws, q, q', by omega⟩⟩
  have i1 : i < vs.length := by omega
  have i2 : i < ws.length := by omega
  refine ⟨⟨vs, ws, vs[i], ws[i], q, q', List.getElem?_eq_getElem i1, List.getElem?_eq_getElem i2⟩, fun x H' y => ?_⟩
  obtain ⟨T, x1, y1, e1, hT, e2, f1, f2⟩ := y
  subst e1 e2
  obtain ⟨d, d1, d2⟩ := r.at (f1 vs q)
  obtain ⟨d', d1', d2'⟩ := r'.at (f2 ws q')
  obtain ⟨W', l, st', rr⟩ := pair_new st hT (Rl.mono e d2) (Rl.mono e d2')
  exact ⟨W', _, zipD_at d1 d1', l, st', rr⟩
theorem walks_zipT {a b : Addr} {vs ws : List V} {ds es : List D} (h : SqT K F a vs) (h' : SqT K F b ws) (r : RlL K Z F ds vs) (r' : RlL K Z F es ws) : Walks K Z F (zipD ds es) (RZ.ItzT K a b) := by
  intro W S H e st i
  have q : SqT K H a vs := (e.trans st.ex).t h
  have q' : SqT K H b ws := (e.trans st.ex).t h'
  have l1 := r.len
  have l2 := r'.len
  rw [zipD_len]
  refine ⟨fun hi => ?_, fun hi => ⟨vs, ws, q, q', by omega⟩⟩
  have i1 : i < vs.length := by omega
  have i2 : i < ws.length := by omega
  refine ⟨⟨vs, ws, vs[i], ws[i], q, q', List.getElem?_eq_getElem i1, List.getElem?_eq_getElem i2⟩, fun x H' y => ?_⟩
  obtain ⟨T, x1, y1, e1, hT, e2, f1, f2⟩ := y
  subst e1 e2
  obtain ⟨d, d1, d2⟩ := r.at (f1 vs q)
  obtain ⟨d', d1', d2'⟩ := r'.at (f2 ws q')
  obtain ⟨W', l, st', rr⟩ := pair_new st hT (Rl.mono e d2) (Rl.mono e d2')
  exact ⟨W', _, zipD_at d1 d1', l, st', rr⟩
theorem walks_enumL {a : Addr} {vs : List V} {ds : List D} (h : F a = some (.lst vs)) (r : RlL K Z F ds vs) : Walks K Z F (enumD 0 ds) (Ite K a) := by
  intro W S H e st i
  have q : SqL K H a vs := SqL.of (st.ex _ _ (e _ _ h))
  rw [enumD_len]
  refine ⟨fun hi => ?_, fun hi => ⟨vs, q, by rw [← r.len]; exact hi⟩⟩
  rw [r.len] at hi
  refine ⟨⟨vs, vs[i], q, List.getElem?_eq_getElem hi⟩, fun x H' y => ?_⟩
  obtain ⟨T, x1, e1, hT, e2, f1⟩ := y
  subst e1 e2
  obtain ⟨d, d1, d2⟩ := r.at (f1 vs q)
  obtain ⟨W', l, st', rr⟩ := pair_new st hT (.int (i : Nat)) (Rl.mono e d2)
  exact ⟨W', _, by rw [enumD_at d1, Nat.zero_add], l, st', rr⟩

/-! ### enumerate of a tuple -/
def ItEt (K : PySem.W.Frag) (a : Addr) : It :=
  ⟨fun i H => ∃ (xs : List V) (x : V), SqT K H a xs ∧ xs[i]? = some x, fun i H v H' => ∃ T x, v = .ref T ∧ H T = none ∧ H' = upd H T (.tup [.int (i : Nat), x]) ∧ ∀ xs, SqT K H a xs → xs[i]? = some x, fun i H => ∃ xs : List V, SqT K H a xs ∧ xs.length ≤ i⟩
theorem turn_enumT {P : Program} {w : World} {elts : List Expr} {kk : Nat} {tpos : Pos} (a e it : Addr) :
    Turn P w K (.Tuple elts kk tpos) (ItEt K a) [e, it] e (fun i h => (∃ old, IsEnum h e it ((i : Nat) : Int) old) ∧ h.IsTupleIter it a i ∧ e ≠ it ∧ a ≠ it ∧ a ≠ e) where
  mem := by simp
  obj := fun i h st b hb => by
    obtain ⟨⟨old, he⟩, ⟨o, ho, hc, hd⟩, _⟩ := st
    have e' : b = e ∨ b = it := by simpa using hb
    rcases e' with z | z
    · rw [z]; exact ⟨_, he, fun v q => nomatch q⟩
    · rw [z]; exact ⟨o, ho, fun v q => by rw [hd] at q; cases q⟩
  keep := fun i h h' st k => let ⟨⟨old, he⟩, hi, hne⟩ := st; ⟨⟨old, k e (by simp) _ he⟩, hi.at fun o q => k it (by simp) o q, hne⟩
  item := by
    intro X hP hw hK hc i pins s σ H E I hf st hg
    subst hP hw hK
    obtain ⟨⟨old, he⟩, hit, hne, ha1, ha2⟩ := st
    obtain ⟨xs, x, hq, hx⟩ := hg
    obtain ⟨its, rv, p, hz⟩ := I.tuple hq
    obtain ⟨u, hu, ru⟩ := rv.get hx
    have hel : e < s.heap.objs.size := Heap.lt_size he
    have hil : it < s.heap.objs.size := by obtain ⟨_, q, _⟩ := hit; exact Heap.lt_size q
    have hlt : i < its.toArray.size := by
      have := (List.getElem?_eq_some_iff.mp hu).1
      simpa using this
    refine wpAny_pyNext_enum_itemD (Draws.tuple (A := X.A.in1) (I.ok.hd hc) it a ha1 its.toArray) he ⟨hit, show s.heap.IsTuple a its.toArray from p⟩ hlt hne (by simp [hne, Ne.symm ha2]) fun y h' tk hy ho hst' hT hsz hk => ?_
    have ey : y = u := by
      have h1 : its.toArray[i]? = some u := by simpa using hu
      rw [h1] at hy
      exact (Option.some.inj hy).symm
    subst ey
    refine ⟨_, rfl, wpAny_letOwnedTupleGo_enum (s := { s with heap := h', toks := tk + 1 }) ho fun h'' he' sb => ?_⟩
    have hT2 : h''.get? s.heap.objs.size = some { cls := .type "tuple", data := .seq #[.int i tk, y] } := (sb.2 _ (Nat.ne_of_gt hel)).trans hT
    have new : ObjOk X.prog X.w (upd H s.heap.objs.size (.tup [.int (i : Nat), x])) h'' s.heap.objs.size (.tup [.int (i : Nat), x]) :=
      ⟨by show 2 ≤ sizeLine; decide, [.int i tk, y], .cons ⟨_, rfl⟩ (.cons ru .nil), ⟨_, hT2, rfl, _, rfl⟩⟩
    have I1 : Inv X pins σ (upd H s.heap.objs.size (.tup [.int (i : Nat), x])) { s with heap := h'', toks := tk + 1 } :=
      I.turnedNew (ch := [e, it]) (fun b ob hb q => (sb.2 b (fun z => hb (by simp [z]))).trans (hk b ob (fun z => hb (by simp [z])) (fun z => hb (by simp [z])) q)) hf (Nat.le_refl _) new
    refine ⟨.ref s.heap.objs.size, _, I1, rfl, ⟨_, x, rfl, I.hok.fresh (Nat.le_refl _), rfl, fun ys hy => by rw [I.tuple_inj hy hq]; exact hx⟩, ⟨⟨y, ?_⟩, hst'.1.at fun o q => (sb.2 it (Ne.symm hne)).trans q, hne, ha1, ha2⟩, fun b hb => ?_⟩
    · have e1 : ((i + 1 : Nat) : Int) = (i : Int) + 1 := by omega
      rw [e1]; exact he'
    · have hb' : b < s.heap.objs.size := by
        have e' : b = e ∨ b = it := by simpa using hb
        rcases e' with z | z
        · rw [z]; exact hel
        · rw [z]; exact hil
      rw [upd_ne (Nat.ne_of_lt hb')]
      exact (hf b hb).1
  done := by
    intro X hP hw hK hc i pins s σ H E I hf st hg
    subst hP hw hK
    obtain ⟨⟨old, he⟩, hit, hne, ha1, ha2⟩ := st
    obtain ⟨xs, hq, hx⟩ := hg
    obtain ⟨its, rv, p, hz⟩ := I.tuple hq
    obtain ⟨f0, f1, f2, f3, f4, f5⟩ := hf it (by simp)
    have hl := rv.length
    have hT : s.TypeIs (.ref e) "enumerate" := ⟨_, he, rfl⟩
    unfold pyNext
    refine wpAny_bind (wpAny_attempt (wpAny_callSpecial?_slot (name := Str.ofString "__next__") hT F.slot_enumerate_next
      (wpAny_call_entry F.slot_enumerate_next hT F.entry_enumerate_next ?_ (F.args_enumerate_next_1 _))))
    show wpAny _ _ (field (.ref e) 2 >>= _) _ _ _
    refine wpAny_bind (wpAny_field he rfl (x := .ref it) rfl ?_)
    refine wpAny_bind (wpAny_nextOf_tuple_end (A := X.A.in1) (I.ok.hd hc) hit (show s.heap.IsTuple a its.toArray from p) (by simp; omega) fun h' x he' hx' => ?_)
    obtain ⟨o, ho, hc'⟩ := hx'
    refine wpAny_bind (wpAny_isInstance (T := "StopIteration") (b := true) ⟨o, ho, hc'⟩ isSubtype_stop ?_)
    exact wpAny_pure ⟨rfl, I.turned (t' := s.toks) (fun b o hb q => he' b o hb q) f0 f1 f3 f4 f5⟩
  self := fun A i s Q E st h => let ⟨⟨_, he⟩, _⟩ := st; wpAny_pyIter_enum he h
theorem walks_enumT {a : Addr} {vs : List V} {ds : List D} (h : SqT K F a vs) (r : RlL K Z F ds vs) : Walks K Z F (enumD 0 ds) (ItEt K a) := by
  intro W S H e st i
  have q : SqT K H a vs := (e.trans st.ex).t h
  rw [enumD_len]
  refine ⟨fun hi => ?_, fun hi => ⟨vs, q, by rw [← r.len]; exact hi⟩⟩
  rw [r.len] at hi
  refine ⟨⟨vs, vs[i], q, List.getElem?_eq_getElem hi⟩, fun x H' y => ?_⟩
  obtain ⟨T, x1, e1, hT, e2, f1⟩ := y
  subst e1 e2
  obtain ⟨d, d1, d2⟩ := r.at (f1 vs q)
  obtain ⟨W', l, st', rr⟩ := pair_new st hT (.int (i : Nat)) (Rl.mono e d2)
  exact ⟨W', _, by rw [enumD_at d1, Nat.zero_add], l, st', rr⟩
end
end Wk

set_option Elab.async false
set_option linter.all false
set_option maxRecDepth 100000
set_option maxHeartbeats 1000000
/-! WkH: targets, list comprehensions, new lists. -/
namespace Wk
open PySem PySem.Spec L2
open PyProof.Rows hiding St

/-! ### the iterables -/
theorem items_seq {xs its : List D} (h : items .seq xs = some its) : ∃ x, xs = [x] ∧ seqOf x = some its := by
  unfold items at h
  split at h <;> first | contradiction | exact ⟨_, rfl, h⟩
theorem items_rng1 {xs its : List D} (h : items .rng1 xs = some its) : ∃ j : Int, xs = [.int j] ∧ (-16777216 ≤ j ∧ j ≤ 16777216) ∧ its = rngD 0 j.toNat := by
  unfold items at h
  split at h <;> first | contradiction | (split at h; exact ⟨_, rfl, by assumption, (Option.some.inj h).symm⟩; cases h)
theorem items_rng2 {xs its : List D} (h : items .rng2 xs = some its) : ∃ i j : Int, xs = [.int i, .int j] ∧ (-16777216 ≤ i ∧ i ≤ 16777216 ∧ -16777216 ≤ j ∧ j ≤ 16777216 ∧ j - i ≤ 16777216) ∧ its = rngD i (j - i).toNat := by
  unfold items at h
  split at h <;> first | contradiction | (split at h; exact ⟨_, _, rfl, by assumption, (Option.some.inj h).symm⟩; cases h)
theorem items_zip {xs its : List D} (h : items .zip xs = some its) : (∃ a b, xs = [.lst a, .lst b] ∧ its = zipD a b) ∨ ∃ a b, xs = [.tup a, .tup b] ∧ its = zipD a b := by
  unfold items at h
  split at h <;> first | contradiction | exact .inl ⟨_, _, rfl, (Option.some.inj h).symm⟩ | exact .inr ⟨_, _, rfl, (Option.some.inj h).symm⟩
theorem items_enum {xs its : List D} (h : items .enum xs = some its) : ∃ x ys, xs = [x] ∧ seqOf x = some ys ∧ its = enumD 0 ys := by
  unfold items at h
  split at h <;> first | contradiction | (obtain ⟨ys, e1, e2⟩ := Option.map_eq_some_iff.mp h; exact ⟨_, ys, rfl, e1, e2.symm⟩)
section
variable {X : Cx} {Z : Sx} {E : WX} {tg : Expr}
theorem evL_one (P : Pg) (cl : Cl) (th : Th) (c : CE) (ρ : Env) (S : Store) : evL P cl th [c] ρ S = (evE P cl th c ρ S).bind fun v S => .ok [v] S := by
  simp only [evL]
  rfl
theorem pi_seq {e : Expr} {m : Env → Store → Res Vl} (he : PE X e (rdE X.K Z E m)) : PI X tg e (rdI X.K Z E fun ρ S => itR .seq ((m ρ S).bind fun v S => .ok [v] S)) := by
  refine ⟨fun pins s σ H R I h => ?_⟩
  obtain ⟨W, ρ, S, er, st, h⟩ := h
  unfold itR at h
  dsimp only at h
  rw [Res.bind_assoc] at h
  refine thn (he.run pins s σ H _ I ⟨W, ρ, S, er, st, Po.bind h⟩) fun v s1 ⟨x, H1, I1, r1, W1, a, S1, l1, st1, ra, q⟩ => ?_
  obtain ⟨W2, S2, xs, its, l2, st2, r2, ei, q2⟩ := itR_po (k := .seq) (vs := [a]) (us := [x]) st1 (.cons ra .nil) q
  obtain ⟨y, rfl, ei⟩ := items_seq ei
  cases r2 with
  | cons rx rr =>
    cases rr
    cases rx with
    | lst hF n r =>
      cases ei
      cases r1
      obtain ⟨vs, rv, p, hz⟩ := I1.list (SqL.of (st2.ex _ _ hF))
      refine wpAny_pyIter_list p.isList ?_
      refine ⟨s1.heap.objs.size, [s1.heap.objs.size], _, _, H1, rfl, I1.kept (t' := s1.toks) fun b o e => Heap.get?_push_of_some _ e, turn_list _ _, ⟨_, Heap.get?_push_size _ rfl, rfl, rfl⟩, fun b hb => ?_, q2 _ (walks_list hF r)⟩
      have eb : b = s1.heap.objs.size := by simpa using hb
      subst eb
      exact I1.fpOk (Nat.le_refl _) (I1.hok.fresh (Nat.le_refl _))
    | tup hF n r =>
      cases ei
      cases r1
      obtain ⟨vs, rv, p, hz⟩ := I1.tuple (st2.ex.t hF)
      refine wpAny_pyIter_tuple (show s1.heap.IsTuple _ vs.toArray from p) ?_
      refine ⟨s1.heap.objs.size, [s1.heap.objs.size], _, _, H1, rfl, I1.kept (t' := s1.toks) fun b o e => Heap.get?_push_of_some _ e, turn_tuple _ _, ⟨_, Heap.get?_push_size _ rfl, rfl, rfl⟩, fun b hb => ?_, q2 _ (walks_tup hF r)⟩
      have eb : b = s1.heap.objs.size := by simpa using hb
      subst eb
      exact I1.fpOk (Nat.le_refl _) (I1.hok.fresh (Nat.le_refl _))
    | _ => cases ei
/-- from the arguments' reading to the walk's -/
theorem rdI_args {K : PySem.W.Frag} {k : ItK} {m : Env → Store → Res (List Vl)} {σ : L2.St} {H : Hp} {R : It → Hp → Prop} {P : List V → Hp → Prop} (h : rdI K Z E (fun ρ S => itR k (m ρ S)) σ H R)
    (i : ∀ vs H1 W S xs its, Sto K Z W S H1 → RlL K Z W.F xs vs → items k xs = some its → (∀ J, Walks K Z W.F its J → R J H1) → P vs H1) : rdA K Z E m σ H P := by
  obtain ⟨W, ρ, S, er, st, h⟩ := h
  refine ⟨W, ρ, S, er, st, Po.imp (Po.bind h) fun vs H1 ⟨W1, a, S1, l1, st1, ra, q⟩ => ?_⟩
  obtain ⟨W2, S2, xs, its, l2, st2, r2, ei, q2⟩ := itR_po st1 ra q
  exact i vs H1 W2 S2 xs its st2 r2 ei q2
theorem pi_rng1 {a : Expr} {m : Env → Store → Res (List Vl)} {p pos : Pos} (hg : Gl X "range") (hm : X.mg "range" = none) (ha : PA X [a] (rdA X.K Z E m)) (hs : starE a = false) :
    PI X tg (.Call (.Name "range" p) [a] [] pos) (rdI X.K Z E fun ρ S => itR .rng1 (m ρ S)) := by
  refine PI.imp (pi_range1 hg hm ha (star_cons hs [] X.env)) fun σ H R h => rdI_args h fun vs H1 W S xs its st r e q => ?_
  obtain ⟨j, rfl, hz, rfl⟩ := items_rng1 e
  cases r with
  | cons r1 rr =>
    cases rr
    cases r1
    exact ⟨j, rfl, by omega, by omega, q _ (walks_rng 0 j.toNat)⟩
theorem pi_rng2 {a b : Expr} {m : Env → Store → Res (List Vl)} {p pos : Pos} (hg : Gl X "range") (hm : X.mg "range" = none) (ha : PA X [a, b] (rdA X.K Z E m)) (hs : starE a = false) (hs' : starE b = false) :
    PI X tg (.Call (.Name "range" p) [a, b] [] pos) (rdI X.K Z E fun ρ S => itR .rng2 (m ρ S)) := by
  refine PI.imp (pi_range2 hg hm ha (by rw [star_cons hs, star_cons hs']; rfl) (star_cons hs' [] X.env)) fun σ H R h => rdI_args h fun vs H1 W S xs its st r e q => ?_
  obtain ⟨i, j, rfl, hz, rfl⟩ := items_rng2 e
  cases r with
  | cons r1 rr =>
    cases rr with
    | cons r2 rr =>
      cases rr
      cases r1
      cases r2
      exact ⟨i, j, rfl, ⟨by omega, by omega, by omega, by omega⟩, q _ (walks_rng i (j - i).toNat)⟩
theorem pi_zipD {a b : Expr} {m : Env → Store → Res (List Vl)} {p pos tpos : Pos} {elts : List Expr} {kk : Nat} (hg : Gl X "zip") (hm : X.mg "zip" = none) (ha : PA X [a, b] (rdA X.K Z E m)) (hs : starE a = false) (hs' : starE b = false) :
    PI X (.Tuple elts kk tpos) (.Call (.Name "zip" p) [a, b] [] pos) (rdI X.K Z E fun ρ S => itR .zip (m ρ S)) := by
  refine PI.imp (RZ.pi_zipA hg hm ha (star_cons hs _ X.env) (star_plain (es := [b]) fun e he => by
    have : e = b := by simpa using he
    rw [this]
    exact hs')) fun σ H R h => rdI_args h fun vs H1 W S xs its st r e q => ?_
  rcases items_zip e with ⟨d1, d2, rfl, rfl⟩ | ⟨d1, d2, rfl, rfl⟩
  · cases r with
    | cons r1 rr =>
      cases rr with
      | cons r2 rr =>
        cases rr
        cases r1 with
        | lst h1 n1 t1 =>
          cases r2 with
          | lst h2 n2 t2 => exact ⟨_, _, _, _, rfl, .inl ⟨SqL.of (st.ex _ _ h1), SqL.of (st.ex _ _ h2), q _ (walks_zipL h1 h2 t1 t2)⟩⟩
  · cases r with
    | cons r1 rr =>
      cases rr with
      | cons r2 rr =>
        cases rr
        cases r1 with
        | tup h1 n1 t1 =>
          cases r2 with
          | tup h2 n2 t2 => exact ⟨_, _, _, _, rfl, .inr ⟨st.ex.t h1, st.ex.t h2, q _ (walks_zipT h1 h2 t1 t2)⟩⟩
end
section
open AutoSeq1 (wpAny_loadPart')
/-- enumerate's maker on a tuple -/
theorem meets_enumT (l : Addr) (its : Array Value) (n : Nat) (dct : Option Addr) (sl : Array (Option Value)) :
    Meets (Builtin.«enumerate.__new__» ⟨[.type "enumerate", .ref l], []⟩) (fun _ R s => s.heap.get? l = some { cls := .type "tuple", dict := dct, data := .seq its n, slots := sl } ∧
      R (.ok (.ret (.ref (s.heap.push { cls := .type "tuple_iterator", data := .fields #[.ref l, .int 0 0] }).objs.size))) { s with heap := (s.heap.push { cls := .type "tuple_iterator", data := .fields #[.ref l, .int 0 0] }).push { cls := .type "enumerate", data := .fields #[.none, .bool false, .ref s.heap.objs.size, rawInt 0, .none, .none] } }) :=
  .of_wp fun prog w A R s h => by
    obtain ⟨hp, g, d, tk, os⟩ := s; obtain ⟨hl, h⟩ := h
    have hsb := sub_enumerate
    have hT : Heap.IsTuple (Shared.heap ⟨hp, g, d, tk, os⟩) l its := ⟨_, hl, rfl, n, rfl⟩
    wp_walk using wpAny_loadPart' hl
    refine wpAny_stack_any fun st => wpAny_pure ?_
    split
    · rename_i c _ _ _ _ _
      cases (c == Value.type "enumerate")
      · wp_walk using wpAny_loadPart' hl, wpAny_pyIter_tuple hT
        exact ⟨_, rfl, h⟩
      · wp_walk using wpAny_loadPart' hl, wpAny_pyIter_tuple hT
        exact ⟨_, rfl, h⟩
    · wp_walk using wpAny_loadPart' hl, wpAny_pyIter_tuple hT
      exact ⟨_, rfl, h⟩
theorem call_enumT {prog : Program} {w : World} {A : Around} {E : Value → Shared → Prop} {s : Shared} {l : Addr} {its : Array Value} {Q : Value → Shared → Prop} (hL : s.heap.IsTuple l its)
    (h : ∀ h', IsEnum h' (s.heap.objs.size + 1) s.heap.objs.size 0 .none → h'.IsTupleIter s.heap.objs.size l 0 → (∀ b o, s.heap.get? b = some o → h'.get? b = some o) → Q (.ref (s.heap.objs.size + 1)) { s with heap := h' }) :
    wpAny (model prog w) A (call (.type "enumerate") [.ref l]) Q E s := by
  obtain ⟨⟨c, dct, dt, sl⟩, hl, hc, n, hd⟩ := hL
  have hc : c = .type "tuple" := hc
  have hd : dt = .seq its n := hd
  subst hc; subst hd
  refine callType_new F.called_enumerate (by decide) (F.typeCall_enumerate_1 _) (F.newCall_enumerate_1 _) (fun obj => F.args_object_init_2 obj _) F.entry_enumerate_new (meets_enumT l its n dct sl) ⟨hl, ?_⟩
  generalize hk : s.heap.push { cls := .type "tuple_iterator", data := .fields #[.ref l, .int 0 0] } = k
  have hz : k.objs.size = s.heap.objs.size + 1 := by rw [← hk]; exact Heap.size_push ..
  have hi : k.get? s.heap.objs.size = some { cls := .type "tuple_iterator", data := .fields #[.ref l, .int 0 0] } := by rw [← hk]; exact Heap.get?_push_size _ rfl
  have hold : ∀ b o, s.heap.get? b = some o → k.get? b = some o := fun b o x => by rw [← hk]; exact Heap.get?_push_of_some _ x
  show _ ∧ _
  rw [hz]
  have he : IsEnum (k.push { cls := .type "enumerate", data := .fields #[.none, .bool false, .ref s.heap.objs.size, rawInt 0, .none, .none] }) (s.heap.objs.size + 1) s.heap.objs.size 0 .none := by
    have q := Heap.get?_push_size k (o := { cls := .type "enumerate", data := .fields #[.none, .bool false, .ref s.heap.objs.size, rawInt 0, .none, .none] }) rfl
    rwa [hz] at q
  exact ⟨⟨_, he, rfl⟩, h _ he ⟨_, Heap.get?_push_of_some _ hi, rfl, rfl⟩ fun b o x => Heap.get?_push_of_some _ (hold b o x)⟩
end
section
variable {X : Cx} {Z : Sx} {E : WX}
theorem pi_enumD {a : Expr} {m : Env → Store → Res (List Vl)} {p pos tpos : Pos} {elts : List Expr} {kk : Nat} (hg : Gl X "enumerate") (hm : X.mg "enumerate" = none) (ha : PA X [a] (rdA X.K Z E m)) (hs : starE a = false) :
    PI X (.Tuple elts kk tpos) (.Call (.Name "enumerate" p) [a] [] pos) (rdI X.K Z E fun ρ S => itR .enum (m ρ S)) := by
  refine ⟨fun pins s σ H R I h => ?_⟩
  have h' := rdI_args (P := fun vs H1 => ∃ a xs, vs = [.ref a] ∧ ((SqL X.K H1 a xs ∧ R (Ite X.K a) H1) ∨ (SqT X.K H1 a xs ∧ R (ItEt X.K a) H1))) h fun vs H1 W S xs its st r e q => by
    obtain ⟨d, ys, rfl, e1, rfl⟩ := items_enum e
    cases r with
    | cons r1 rr =>
      cases rr
      cases r1 with
      | lst h1 n1 t1 =>
        cases e1
        exact ⟨_, _, rfl, .inl ⟨SqL.of (st.ex _ _ h1), q _ (walks_enumL h1 t1)⟩⟩
      | tup h1 n1 t1 =>
        cases e1
        exact ⟨_, _, rfl, .inr ⟨st.ex.t h1, q _ (walks_enumT h1 t1)⟩⟩
      | _ => cases e1
  refine Call_ (ld_blt I hg hm boot_enumerate (PyProof.Rows.callWith_type1 (thn (ha.run pos pins s σ H _ I h') fun us s1 ⟨vs, H1, I1, r1, q1⟩ => ?_) (star_cons hs [] X.env) rfl))
  obtain ⟨a, xs, ex, q1⟩ := q1
  subst ex
  obtain ⟨u0, rfl, r0⟩ := vals1 r1
  obtain rfl : u0 = Value.ref a := r0
  have fp2 : ∀ b ∈ [s1.heap.objs.size + 1, s1.heap.objs.size], FpOk X pins H1 b := fun b hb => by
    have hle : s1.heap.objs.size ≤ b := by
      rcases List.mem_cons.mp hb with z | z
      · rw [z]; exact Nat.le_add_right _ _
      · rw [List.mem_singleton.mp z]; exact Nat.le_refl _
    exact I1.fpOk hle (I1.hok.fresh hle)
  rcases q1 with ⟨hq, q⟩ | ⟨hq, q⟩
  · obtain ⟨its, rv, p', hz⟩ := I1.list hq
    refine call_enumerate_list p'.isList fun h' he hit hsz hk => wpAny_pyIter_enum he ?_
    exact ⟨_, _, _, _, H1, rfl, I1.kept (t' := s1.toks) hk, turn_enum a (s1.heap.objs.size + 1) s1.heap.objs.size, ⟨⟨.none, he⟩, hit, Nat.succ_ne_self _⟩, fp2, q⟩
  · obtain ⟨its, rv, p', hz⟩ := I1.tuple hq
    have hlt : a < s1.heap.objs.size := by
      obtain ⟨o, ho, _⟩ := id p'
      exact Heap.lt_size ho
    refine call_enumT (show s1.heap.IsTuple a its.toArray from p') fun h' he hit hk => wpAny_pyIter_enum he ?_
    exact ⟨_, _, _, _, H1, rfl, I1.kept (t' := s1.toks) hk, turn_enumT a (s1.heap.objs.size + 1) s1.heap.objs.size, ⟨⟨.none, he⟩, hit, Nat.succ_ne_self _, Nat.ne_of_lt hlt, Nat.ne_of_lt (Nat.lt_succ_of_lt hlt)⟩, fp2, q⟩
end
end Wk

set_option Elab.async false
set_option linter.all false
set_option maxRecDepth 100000
set_option maxHeartbeats 1000000
/-! WkI: targets; new lists; list comprehensions. -/
namespace Wk
open PySem PySem.Spec L2
open PyProof.Rows hiding St

/-! ### targets -/
def gNs : List Nat → TGs
  | [] => gNil
  | i :: is => gCons (gName i) (gNs is)
def gP (K : PySem.W.Frag) : Pt → TG
  | .nm i => gName i
  | .tup is => gTup K is.length (gNs is)
section
variable {K : PySem.W.Frag} {Z : Sx} {W : Wd} {S : Store} {H : Hp} {ρ ρ' : Env} {σ : L2.St}
theorem gNs_ok {Q : L2.St → Hp → Prop} (P : L2.St → Prop) : ∀ {is : List Nat} {xs : List D} {vs : List V} {ρ : Env} {σ : L2.St}, RlL K Z W.F xs vs → xs.length = is.length → EnvR K Z W ρ σ → P σ → (∀ i ∈ is, ∀ σ v, P σ → P (σ.set i (some v))) →
    (∀ σ', EnvR K Z W ((is.zip xs).foldl (fun ρ p => ρ.set p.1 (some (.d p.2))) ρ) σ' → P σ' → Q σ' H) → gNs is vs σ H Q
  | [], [], [], ρ, σ, .nil, _, er, p, _, h => ⟨rfl, h σ er p⟩
  | i :: is, x :: xs, v :: vs, ρ, σ, .cons r rr, hl, er, p, hp, h =>
    ⟨v, vs, rfl, gNs_ok P rr (by simpa using hl) (er.set (v := .d x) r) (hp i List.mem_cons_self σ v p) (fun j hj => hp j (List.mem_cons_of_mem _ hj)) h⟩
/-- a target takes an item -/
theorem gP_ok {Q : L2.St → Hp → Prop} (P : L2.St → Prop) {p : Pt} {x : D} {v : V} (st : Sto K Z W S H) (r : Rl K Z W.F x v) (er : EnvR K Z W ρ σ) (hs : setPt p x ρ = some ρ') (p0 : P σ)
    (hp : ∀ i, (match p with | .nm j => i = j | .tup is => i ∈ is) → ∀ σ v, P σ → P (σ.set i (some v))) (h : ∀ σ', EnvR K Z W ρ' σ' → P σ' → Q σ' H) : gP K p v σ H Q := by
  cases p with
  | nm i =>
    simp only [setPt] at hs
    cases hs
    exact h _ (er.set (v := .d x) r) (hp i rfl σ v p0)
  | tup is =>
    cases r with
    | tup hF n rr =>
      simp only [setPt] at hs
      split at hs
      · rename_i hl
        cases hs
        exact ⟨_, _, rfl, st.ex.t hF, by rw [← rr.len]; exact hl, gNs_ok P rr hl er p0 (fun i hi => hp i hi) h⟩
      · cases hs
    | _ => simp [setPt] at hs
end
theorem wipe_get {σ : L2.St} (j : Nat) : ∀ vs : List Nat, (L2.wipe σ vs)[j]? = if j ∈ vs then (if j < σ.length then some none else none) else σ[j]?
  | [] => by simp [L2.wipe]
  | v :: vs => by
    unfold L2.wipe
    by_cases e : v = j
    · subst e
      rw [if_pos List.mem_cons_self]
      by_cases hl : v < σ.length
      · rw [if_pos hl, List.getElem?_set_self (by rw [L2.wipe_length]; exact hl)]
      · rw [if_neg hl, List.getElem?_eq_none (by rw [List.length_set, L2.wipe_length]; omega)]
    · rw [List.getElem?_set_ne e, wipe_get j vs]
      have : j ∈ v :: vs ↔ j ∈ vs := by
        rw [List.mem_cons]
        exact ⟨fun q => q.resolve_left (Ne.symm e), .inr⟩
      simp only [this]
theorem wipe_set {σ : L2.St} {vs : List Nat} {i : Nat} (h : i ∈ vs) (v : Option V) : L2.wipe (σ.set i v) vs = L2.wipe σ vs := by
  refine List.ext_getElem? fun j => ?_
  rw [wipe_get, wipe_get, List.length_set]
  by_cases e : j ∈ vs
  · rw [if_pos e, if_pos e]
  · rw [if_neg e, if_neg e, List.getElem?_set_ne (fun q : i = j => e (q ▸ h))]
theorem wipe_wipe {σ : L2.St} {vs : List Nat} : L2.wipe (L2.wipe σ vs) vs = L2.wipe σ vs := by
  refine List.ext_getElem? fun j => ?_
  rw [wipe_get, wipe_get, L2.wipe_length]
  by_cases e : j ∈ vs
  · rw [if_pos e, if_pos e]
  · rw [if_neg e, if_neg e]
def ptIn : Pt → List Nat → Bool
  | .nm i, vs => vs.contains i
  | .tup is, vs => is.all fun i => vs.contains i

/-! ### new lists -/
/-- a new list's end: nobody knows it yet -/
def Gn (K : PySem.W.Frag) (Z : Sx) (W : Wd) (S : Store) (ds : List D) (Q : VK) : Prop :=
  ∀ (W' : Wd) (a : Addr) (vs : List V) (H' : Hp), W.le W' → Sto K Z W' S H' → H' a = some (.lst vs) → RlL K Z W'.F ds vs → W'.F a = none → (∀ n : Nat, W'.am[n]? ≠ some a) → W'.pn a = none → ds.length ≤ sizeLine → Q (.ref a) H'
def PoN (K : PySem.W.Frag) (Z : Sx) (E : WX) (W : Wd) (σ : L2.St) (Q : VK) : Res (List D) → Prop
  | .ok ds S => Gn K Z W S ds Q
  | .exc x S' => ∀ (W' : Wd) (cls : Value) (dd : Option Addr) (H' : Hp), W.le W' → Sto K Z W' S' H' → Xr K Z W' H' x cls dd → E cls dd σ H'
  | .bad => False
/-- the reading of an expression that makes a new list -/
def rdN (K : PySem.W.Frag) (Z : Sx) (E : WX) (m : Env → Store → Res (List D)) : TE := fun σ H Q => ∃ W ρ S, EnvR K Z W ρ σ ∧ Sto K Z W S H ∧ PoN K Z E W σ Q (m ρ S)
section
variable {K : PySem.W.Frag} {Z : Sx} {E : WX} {W : Wd} {S : Store} {H : Hp} {σ : L2.St} {Q : VK}
theorem Sto.told {a : Addr} {o : HO} (st : Sto K Z W S H) (ha : H a = some o) (hF : W.F a = none) (hn : ∀ n : Nat, W.am[n]? ≠ some a) (hp : W.pn a = none) (ho : ∀ ps, o ≠ .tbl ps) : Sto K Z ⟨upd W.F a o, W.am, W.pn⟩ S H := by
  refine Sto.know st (Ex.new hF) (st.ex.tell ha) (fun n c b hc hb hx => ?_) (fun b xs hb => ?_) fun p hm => ?_
  · have k := st.cell n c b hc hb
    have nb : b ≠ a := fun q => hn n (q ▸ hb)
    rw [upd_ne nb]
    exact (k.live hx).1
  · have nb : b ≠ a := fun q => by
      rw [q, hp] at hb
      cases hb
    rw [upd_ne nb]
    exact (st.pin b xs hb).2.1
  · rw [upd_ne (tabS_at (st.tab p hm).1 ha ho)]
    exact (st.tab p hm).2.1
/-- as data -/
theorem Gn.data {ds : List D} (h : Gv K Z W S (.lst ds) Q) : Gn K Z W S ds Q := fun W' a vs H' l st ha r hF hn hp hz => by
  have e := Ex.new (o := HO.lst vs) hF
  exact h ⟨upd W'.F a (.lst vs), W'.am, W'.pn⟩ (.ref a) H' (l.trans (Wd.le.know e)) (st.told ha hF hn hp fun _ z => nomatch z) (.lst upd_same hz (RlL.mono e r))
/-- as a thing of the store -/
theorem Gn.ref {ds : List D} (h : Po K Z E (Rv K Z) W σ Q (.ok (.ref S.length) (S ++ [.lst ds]))) (hl : S.length = W.am.length) : Gn K Z W S ds Q := fun W' a vs H' l st ha r hF hn hp hz => by
  refine h ⟨W'.F, W'.am ++ [a], W'.pn⟩ (.ref a) H' (l.trans ⟨Ex.refl _, ⟨_, rfl⟩, rfl⟩) (st.add (by rw [ha]; exact fun z => nomatch z) hn hp ⟨vs, ha, hz, r, hF⟩) ⟨a, ?_, rfl⟩
  rw [st.len, List.getElem?_append_right (Nat.le_refl _)]
  simp
theorem PoN.data {r : Res (List D)} (h : Po K Z E (Rv K Z) W σ Q (r.bind fun ds S => .ok (.d (.lst ds)) S)) : PoN K Z E W σ Q r := by
  cases r with
  | ok ds S => exact Gn.data fun W' u H' l st rr => h W' u H' l st rr
  | exc x S => exact h
  | bad => exact h
theorem rdN_data {m : Env → Store → Res (List D)} {σ : L2.St} {H : Hp} {Q : VK} (h : rdE K Z E (fun ρ S => (m ρ S).bind fun ds S => .ok (.d (.lst ds)) S) σ H Q) : rdN K Z E m σ H Q := by
  obtain ⟨W, ρ, S, er, st, h⟩ := h
  exact ⟨W, ρ, S, er, st, PoN.data h⟩
theorem rdN_live {m : Env → Store → Res (List D)} {σ : L2.St} {H : Hp} {Q : VK} (h : rdE K Z E (fun ρ S => (m ρ S).bind fun ds S => .ok (.ref S.length) (S ++ [.lst ds])) σ H Q) : rdN K Z E m σ H Q := by
  obtain ⟨W, ρ, S, er, st, h⟩ := h
  refine ⟨W, ρ, S, er, st, ?_⟩
  revert h
  dsimp only
  cases m ρ S with
  | ok ds S1 =>
    intro h W' a vs H' l st' ha r hF hn hp hz
    exact Gn.ref (W := W') (E := E) (σ := σ) (Po.mono l h) st'.len W' a vs H' (Wd.le.refl _) st' ha r hF hn hp hz
  | exc x S1 => exact fun h => h
  | bad => exact fun h => h
/-- a new list laid down -/
theorem Gn.lay {ds : List D} {vs : List V} (h : Gn K Z W S ds Q) (st : Sto K Z W S H) (r : RlL K Z W.F ds vs) (hz : ds.length ≤ sizeLine) : ∀ p, H p = none → Q (.ref p) (upd H p (.lst vs)) := fun p hp => by
  refine h W p vs _ (Wd.le.refl W) (st.grow hp) upd_same r (st.ex.free hp) (fun n e => st.there n p e hp) ?_ hz
  cases e : W.pn p with
  | none => rfl
  | some xs =>
    have := (st.pin p xs e).1
    rw [hp] at this
    cases this

/-! ### a list that the loop builds, pinned -/
def upn (f : Addr → Option HO) (a : Addr) (o : HO) : Addr → Option HO := fun b => if b = a then some o else f b
theorem Sto.pinNew (st : Sto K Z W S H) {p : Addr} {o : HO} (hp : H p = none) (ho : NoX o) : Sto K Z ⟨W.F, W.am, upn W.pn p o⟩ S (upd H p o) := by
  have g := st.grow (o := o) hp
  refine ⟨g.ex, g.len, g.cell, g.inj, g.there, fun a xs e => ?_, fun q hm => ⟨(g.tab q hm).1, (g.tab q hm).2.1, (if_neg (tabS_ne (st.tab q hm).1 hp)).trans (st.tab q hm).2.2⟩⟩
  dsimp only [upn] at e
  by_cases q : a = p
  · rw [if_pos q] at e
    cases e
    rw [q]
    exact ⟨upd_same, st.ex.free hp, fun n e => st.there n p e hp, ho⟩
  · rw [if_neg q] at e
    exact g.pin a xs e
theorem Sto.pinSet {F : Hp} {am : List Addr} {pn : Addr → Option HO} (st : Sto K Z ⟨F, am, pn⟩ S H) {p : Addr} {us vs : HO} (hp : pn p = some us) (ho : NoX vs) : Sto K Z ⟨F, am, upn pn p vs⟩ S (upd H p vs) := by
  obtain ⟨h1, h2, h3, h4⟩ := st.pin p us hp
  refine ⟨st.ex.mut h2, st.len, fun n c a hc ha => ?_, st.inj, fun n a ha => ?_, fun a xs e => ?_, fun q hm => ?_⟩
  · have k := st.cell n c a hc ha
    have ne : a ≠ p := fun q => h3 n (q ▸ ha)
    cases c with
    | lst ds =>
      obtain ⟨ws, k1, k2, k3, k4⟩ := k
      exact ⟨ws, by rw [upd_ne ne]; exact k1, k2, k3, k4⟩
    | ins c fs =>
      obtain ⟨dx, gs, k1, k2, k3, k4⟩ := k
      have nd : dx ≠ p := fun q => by
        rw [q, h1] at k2
        exact h4.own _ (Option.some.inj k2)
      exact ⟨dx, gs, by rw [upd_ne ne]; exact k1, by rw [upd_ne nd]; exact k2, k3, k4⟩
    | fz y => exact k
  · have ne : a ≠ p := fun q => h3 n (q ▸ ha)
    rw [upd_ne ne]
    exact st.there n a ha
  · dsimp only [upn] at e
    by_cases q : a = p
    · rw [if_pos q] at e
      cases e
      rw [q]
      exact ⟨upd_same, h2, h3, ho⟩
    · rw [if_neg q] at e
      obtain ⟨q1, q2, q3, q4⟩ := st.pin a xs e
      exact ⟨by rw [upd_ne q]; exact q1, q2, q3, q4⟩
  · obtain ⟨t1, t2, t3⟩ := st.tab q hm
    have ne : q.1 ≠ p := fun z => by
      have t3 : pn q.1 = none := t3
      rw [z, hp] at t3
      cases t3
    refine ⟨?_, t2, (if_neg ne).trans t3⟩
    obtain ⟨ps, e1, e2, e3⟩ := t1
    refine ⟨ps, by rw [upd_ne ne]; exact e1, e2, fun pos cv hc => ?_⟩
    obtain ⟨c, f1, f2⟩ := e3 pos cv hc
    have nc : c ≠ p := fun z => by
      rw [z, h1] at f2
      exact h4.ext _ (Option.some.inj f2)
    exact ⟨c, f1, by rw [upd_ne nc]; exact f2⟩
theorem Sto.pinOff {F : Hp} {am : List Addr} {pn pn' : Addr → Option HO} (st : Sto K Z ⟨F, am, pn⟩ S H) (h : ∀ a xs, pn' a = some xs → pn a = some xs) : Sto K Z ⟨F, am, pn'⟩ S H :=
  ⟨st.ex, st.len, st.cell, st.inj, st.there, fun a xs e => st.pin a xs (h a xs e), fun q hm => ⟨(st.tab q hm).1, (st.tab q hm).2.1, by
    cases e : pn' q.1 with
    | none => exact e
    | some xs =>
      have t : pn q.1 = none := (st.tab q hm).2.2
      rw [h _ _ e] at t
      cases t⟩⟩
end

/-! ### a list comprehension -/
theorem Rv.ext {K : PySem.W.Frag} {Z : Sx} {W V : Wd} (e : Ex W.F V.F) (t : ∃ t, V.am = W.am ++ t) : ∀ {v : Vl} {u : L2.V}, Rv K Z W v u → Rv K Z V v u
  | .d _, _, h => Rl.mono e h
  | .ref n, _, ⟨a, ha, hu⟩ => by
    obtain ⟨t, ht⟩ := t
    exact ⟨a, by rw [ht, List.getElem?_append_left (List.getElem?_eq_some_iff.mp ha).1]; exact ha, hu⟩
theorem EnvR.ext {K : PySem.W.Frag} {Z : Sx} {W V : Wd} {ρ : Env} {σ : L2.St} (e : Ex W.F V.F) (t : ∃ t, V.am = W.am ++ t) (h : EnvR K Z W ρ σ) : EnvR K Z V ρ σ :=
  ⟨h.1, fun i v q => let ⟨u, h1, h2⟩ := h.2 i v q; ⟨u, h1, h2.ext e t⟩⟩
/-- the list at D is what the loop has built -/
def LeP (W : Wd) (D : Addr) (vs : List V) (V : Wd) : Prop := Ex W.F V.F ∧ (∃ t, V.am = W.am ++ t) ∧ V.pn = upn W.pn D (.lst vs)
theorem LeP.le {W V V' : Wd} {D : Addr} {vs : List L2.V} (h : LeP W D vs V) (l : V.le V') : LeP W D vs V' := by
  obtain ⟨h1, ⟨t, h2⟩, h3⟩ := h
  obtain ⟨l1, ⟨t', l2⟩, l3⟩ := l
  exact ⟨h1.trans l1, ⟨t ++ t', by rw [l2, h2, List.append_assoc]⟩, l3.trans h3⟩
theorem upn_upn {f : Addr → Option HO} {a : Addr} {us vs : HO} : upn (upn f a us) a vs = upn f a vs := by
  funext b
  unfold upn
  by_cases e : b = a
  · rw [if_pos e, if_pos e]
  · rw [if_neg e, if_neg e, if_neg e]
theorem Gn.mono {K : PySem.W.Frag} {Z : Sx} {W W' : Wd} {S : Store} {ds : List D} {Q : VK} (l : W.le W') (h : Gn K Z W S ds Q) : Gn K Z W' S ds Q := fun W1 a vs H1 l1 => h W1 a vs H1 (l.trans l1)
theorem PoN.mono {K : PySem.W.Frag} {Z : Sx} {E : WX} {W W' : Wd} {σ : L2.St} {Q : VK} {r : Res (List D)} (l : W.le W') (h : PoN K Z E W σ Q r) : PoN K Z E W' σ Q r := by
  cases r with
  | ok ds S => exact Gn.mono l h
  | exc x S => exact fun W1 c d H l1 => h W1 c d H (l.trans l1)
  | bad => exact h
section
variable {K : PySem.W.Frag} {Z : Sx} {E : WX} {V0 V : Wd} {S : Store} {H : Hp} {σ : L2.St} {ρ : Env} {Q : VK} {C : Res (List D) → Prop} {D0 : Addr}
theorem frz_c {α : Type} {C : Res α → Prop} (hb : ¬ C .bad) {v : Vl} {u : L2.V} {k : D → Store → Res α} (st : Sto K Z V S H) (r : Rv K Z V v u) (h : C ((frz v S).bind k)) : ∃ W' S' x, V.le W' ∧ Sto K Z W' S' H ∧ Rl K Z W'.F x u ∧ C (k x S') := by
  cases e : frz v S with
  | bad =>
    rw [e] at h
    exact (hb h).elim
  | exc x S1 => exact absurd e frz_noexc
  | ok x S1 =>
    rw [e] at h
    obtain ⟨W', l, s', r', am⟩ := st.frz r e
    exact ⟨W', S1, x, l, s', r', h⟩
theorem nox_po {α β γ : Type} {C : Res γ → Prop} (hb : ¬ C .bad) {R : Wd → α → β → Prop} {r : Res α} {k : α → Store → Res γ} (h : C (r.nox.bind k)) (σ : L2.St) : Po K Z E R V σ (fun b H => Bh K Z R V b H fun _ a S => C (k a S)) r := by
  cases r with
  | ok a S => exact fun W' u H' l st rr => ⟨W', a, S, l, st, rr, h⟩
  | exc x S => exact (hb h).elim
  | bad => exact (hb h).elim
/-- what a turn is to reach -/
def Nxt (K : PySem.W.Frag) (Z : Sx) (V0 : Wd) (D0 : Addr) (C : Res (List D) → Prop) (H : Hp) : Prop := ∃ acc S accV V, LeP V0 D0 accV V ∧ Sto K Z V S H ∧ RlL K Z V.F acc accV ∧ acc.length ≤ sizeLine ∧ C (.ok acc S)
theorem turn_ok (hb : ¬ C .bad) {accV : List L2.V} {acc : List D} {p : Pt} {own : List Nat} {tc : Env → Store → Res Bool} {te : Env → Store → Res Vl} {d : D} {x : L2.V} (lp : LeP V0 D0 accV V) (st : Sto K Z V S H) (ra : RlL K Z V.F acc accV) (hz : acc.length ≤ sizeLine) (er : EnvR K Z V0 ρ σ)
    (hp : ptIn p own = true) (rx : Rl K Z V.F d x) (h : C (compT (setPt p d (Wk.wipe ρ own)) tc te acc S)) :
    gP K p x (L2.wipe σ own) H fun σ2 H2 => L2.wipe σ2 own = L2.wipe σ own ∧ rdT K Z E tc σ2 H2 fun b H3 =>
      if b = true then rdE K Z E te σ2 H3 fun y H4 => ∃ acc, H4 D0 = some (.lst acc) ∧ acc.length < sizeLine ∧ Nxt K Z V0 D0 C (upd H4 D0 (.lst (acc ++ [y]))) else Nxt K Z V0 D0 C H3 := by
  have er1 : EnvR K Z V (Wk.wipe ρ own) (L2.wipe σ own) := (er.ext lp.1 lp.2.1).wipe own
  cases e : setPt p d (Wk.wipe ρ own) with
  | none =>
    rw [e] at h
    exact (hb h).elim
  | some ρ1 =>
    rw [e] at h
    refine gP_ok (fun σ2 => L2.wipe σ2 own = L2.wipe σ own) st rx er1 e wipe_wipe (fun i hi σ v q => ?_) fun σ2 er2 hw => ⟨hw, ?_⟩
    · have : i ∈ own := by
        cases p with
        | nm j =>
          dsimp only at hi
          subst hi
          simpa [ptIn] using hp
        | tup is =>
          have := List.all_eq_true.mp hp i hi
          simpa using this
      rw [wipe_set this]
      exact q
    refine ⟨V, ρ1, S, er2, st, Po.imp (nox_po hb h σ2) fun b H3 ⟨V1, b', S1, l1, st1, eb, q⟩ => ?_⟩
    subst eb
    have lp1 := lp.le l1
    have ra1 := RlL.mono l1.1 ra
    have pD : V1.pn D0 = some (.lst accV) := by
      rw [lp1.2.2]
      exact if_pos rfl
    cases b' with
    | false =>
      rw [if_neg Bool.false_ne_true]
      exact ⟨acc, S1, accV, V1, lp1, st1, ra1, hz, q⟩
    | true =>
      rw [if_pos rfl]
      refine ⟨V1, ρ1, S1, er2.mono l1, st1, Po.imp (nox_po hb q σ2) fun y H4 ⟨V2, a, S2, l2, st2, rv, q2⟩ => ?_⟩
      obtain ⟨V3, S3, yd, l3, st3, ry, q3⟩ := frz_c hb st2 rv q2
      have l13 := l2.trans l3
      have pD3 : V3.pn D0 = some (.lst accV) := by rw [l13.2.2]; exact pD
      have ra3 := RlL.mono l13.1 ra1
      split at q3
      · rename_i hl
        have lp3 := lp1.le l13
        refine ⟨accV, (st3.pin D0 _ pD3).1, by rw [← ra3.len]; exact hl, acc ++ [yd], S3, accV ++ [y], ⟨V3.F, V3.am, upn V3.pn D0 (.lst (accV ++ [y]))⟩, ⟨lp3.1, lp3.2.1, by rw [lp3.2.2, upn_upn]⟩, (Sto.pinSet st3 pD3 ⟨(fun _ z => nomatch z), (fun _ z => nomatch z)⟩), ra3.app (.cons ry .nil), by rw [List.length_append]; exact hl, q3⟩
      · exact (hb q3).elim
end
end Wk

set_option Elab.async false
set_option linter.all false
set_option maxRecDepth 100000
set_option maxHeartbeats 1000000
/-! WkJ: list comprehensions' readings. -/
namespace Wk
open PySem PySem.Spec L2
open PyProof.Rows hiding St
section
variable {K : PySem.W.Frag} {Z : Sx} {E E0 : WX} {σ : L2.St} {H : Hp} {Q : VK}
theorem drop_at {α : Type} {xs : List α} {i : Nat} {x : α} (h : xs[i]? = some x) : xs.drop i = x :: xs.drop (i + 1) := by
  obtain ⟨hi, e⟩ := List.getElem?_eq_some_iff.mp h
  rw [List.drop_eq_getElem_cons hi, e]
theorem pn_none {W : Wd} {S : Store} {D : Addr} (st : Sto K Z W S H) (h : H D = none) : W.pn D = none := by
  cases e : W.pn D with
  | none => rfl
  | some xs =>
    have q := (st.pin D xs e).1
    rw [h] at q
    cases q
/-- the loop's end: the list is handed out -/
theorem lc_end {W : Wd} {D : Addr} {H0 : Hp} {S0 : Store} (st0 : Sto K Z W S0 H0) (hD : H0 D = none) {acc : List Wk.D} {S : Store} {accV : List V} {V1 : Wd} (lp : LeP W D accV V1) (st : Sto K Z V1 S H) (ra : RlL K Z V1.F acc accV) (hz : acc.length ≤ sizeLine) (h : Gn K Z W S acc Q) : Q (.ref D) H := by
  have pD : V1.pn D = some (.lst accV) := by
    rw [lp.2.2]
    exact if_pos rfl
  obtain ⟨h1, h2, h3, _⟩ := st.pin D _ pD
  have st' : Sto K Z ⟨V1.F, V1.am, W.pn⟩ S H := st.pinOff fun a xs e => by
    rw [lp.2.2]
    unfold upn
    by_cases q : a = D
    · rw [q, pn_none st0 hD] at e
      cases e
    · rw [if_neg q]
      exact e
  exact h ⟨V1.F, V1.am, W.pn⟩ D accV H ⟨lp.1, lp.2.1, rfl⟩ st' h1 ra h2 h3 (show W.pn D = none from pn_none st0 hD) hz
theorem lc_ok {mi : Env → Store → Res (List D)} {tc : Env → Store → Res Bool} {te : Env → Store → Res Vl} {p : Pt} {own : List Nat} (hp : ptIn p own = true)
    (h : rdN K Z E (fun ρ S => (mi ρ S).bind fun its S => loopD (fun x acc S => compT (setPt p x (Wk.wipe ρ own)) tc te acc S) its [] S) σ H Q) : tLc (rdI K Z E mi) (gP K p) (rdT K Z E0 tc) (rdE K Z E0 te) own σ H Q := by
  obtain ⟨W, ρ, S, er, st, h⟩ := h
  refine ⟨W, ρ, S, er, st, ?_⟩
  revert h
  dsimp only
  cases mi ρ S with
  | exc x S1 => exact fun h => h
  | bad => exact fun h => h
  | ok its S1 =>
    intro h W' J H1 l st1 wk D0 hD0
    have h : PoN K Z E W' σ Q (loopD (fun x acc S => compT (setPt p x (Wk.wipe ρ own)) tc te acc S) its [] S1) := PoN.mono l h
    have er' := er.mono l
    refine ⟨fun i m H => m = its.length - i ∧ i ≤ its.length ∧ Nxt K Z W' D0 (fun r => PoN K Z E W' σ Q (r.bind fun acc S => loopD (fun x acc S => compT (setPt p x (Wk.wipe ρ own)) tc te acc S) (its.drop i) acc S)) H,
      ⟨its.length, by simp, Nat.zero_le _, [], S1, [], ⟨W'.F, W'.am, upn W'.pn D0 (.lst [])⟩, ⟨Ex.refl _, ⟨[], by simp⟩, rfl⟩, st1.pinNew hD0 ⟨(fun _ z => nomatch z), (fun _ z => nomatch z)⟩, .nil, Nat.zero_le _, h⟩, ?_⟩
    rintro i m H ⟨rfl, hi, acc, S2, accV, V1, lp, st2, ra, hz, q⟩
    have w := wk V1 S2 H lp.1 st2 i
    by_cases hlt : i < its.length
    · obtain ⟨go, yl⟩ := w.1 hlt
      have hd := drop_at (List.getElem?_eq_getElem hlt)
      refine .inr ⟨go, fun H' => Nxt K Z W' D0 (fun r => PoN K Z E W' σ Q (r.bind fun acc S => loopD (fun x acc S => compT (setPt p x (Wk.wipe ρ own)) tc te acc S) (its.drop (i + 1)) acc S)) H', fun H' n => ⟨its.length - (i + 1), by omega, rfl, hlt, n⟩, fun x H' y => ?_⟩
      obtain ⟨V2, d, d1, l2, st3, rd⟩ := yl x H' y
      have ed : its[i] = d := by
        rw [List.getElem?_eq_getElem hlt] at d1
        exact Option.some.inj d1
      dsimp only [Res.bind] at q
      rw [hd, ed] at q
      exact turn_ok (E := E0) (fun z => z) (lp.le l2) st3 (RlL.mono l2.1 ra) hz er' hp rd q
    · have ei : i = its.length := by omega
      subst ei
      refine .inl ⟨w.2 (Nat.le_refl _), ?_⟩
      dsimp only [Res.bind] at q
      rw [List.drop_length] at q
      exact lc_end st1 hD0 lp st2 ra hz q
theorem LeP.trans {W V V' : Wd} {D : Addr} {us vs : List L2.V} (a : LeP W D us V) (b : LeP V D vs V') : LeP W D vs V' := by
  obtain ⟨a1, ⟨t, a2⟩, a3⟩ := a
  obtain ⟨b1, ⟨t', b2⟩, b3⟩ := b
  exact ⟨a1.trans b1, ⟨t ++ t', by rw [b2, a2, List.append_assoc]⟩, by rw [b3, a3, upn_upn]⟩
theorem Nxt.trans {V0 V : Wd} {D0 : Addr} {us : List L2.V} {C : Res (List D) → Prop} (a : LeP V0 D0 us V) (h : Nxt K Z V D0 C H) : Nxt K Z V0 D0 C H := by
  obtain ⟨acc, S, accV, V1, lp, r⟩ := h
  exact ⟨acc, S, accV, V1, a.trans lp, r⟩
/-- the inner loop, from one outer turn -/
theorem inner_ok {C : Res (List D) → Prop} (hb : ¬ C .bad) {V0 V : Wd} {D0 : Addr} {accV : List L2.V} {acc : List D} {S : Store} {ρ : Env} {mi : Env → Store → Res (List D)} {tc : Env → Store → Res Bool} {te : Env → Store → Res Vl} {p : Pt} {own : List Nat} (hp : ptIn p own = true)
    (lp : LeP V0 D0 accV V) (st : Sto K Z V S H) (ra : RlL K Z V.F acc accV) (hz : acc.length ≤ sizeLine) (er : EnvR K Z V ρ σ) (h : C ((mi ρ S).nox.bind fun its S => loopD (fun x acc S => compT (setPt p x (Wk.wipe ρ own)) tc te acc S) its acc S)) :
    rdI K Z E mi σ H fun J1 H4 => ∃ W1 : Nat → Nat → Hp → Prop, (∃ m, W1 0 m H4) ∧ ∀ j k H, W1 j k H →
      (J1.stop j H ∧ Nxt K Z V0 D0 C H) ∨ (J1.go j H ∧ ∃ Nx1 : Hp → Prop, (∀ H', Nx1 H' → ∃ k', k' < k ∧ W1 (j + 1) k' H') ∧ ∀ x H', J1.yld j H x H' → gP K p x (L2.wipe σ own) H' fun σ3 H5 => L2.wipe σ3 own = L2.wipe σ own ∧ rdT K Z E0 tc σ3 H5 fun b H6 =>
        if b = true then rdE K Z E0 te σ3 H6 fun y H7 => ∃ acc, H7 D0 = some (.lst acc) ∧ acc.length < sizeLine ∧ Nx1 (upd H7 D0 (.lst (acc ++ [y]))) else Nx1 H6) := by
  refine ⟨V, ρ, S, er, st, Po.imp (nox_po hb h σ) fun J1 H4 ⟨V1, its, S1, l1, st1, wk, q⟩ => ?_⟩
  have lp1 := lp.le l1
  have self : LeP V1 D0 accV V1 := ⟨Ex.refl _, ⟨[], by simp⟩, by
    funext b
    unfold upn
    by_cases e : b = D0
    · rw [if_pos e, e, lp1.2.2]
      exact if_pos rfl
    · rw [if_neg e]⟩
  refine ⟨fun j k H => k = its.length - j ∧ j ≤ its.length ∧ Nxt K Z V1 D0 (fun r => C (r.bind fun acc S => loopD (fun x acc S => compT (setPt p x (Wk.wipe ρ own)) tc te acc S) (its.drop j) acc S)) H,
    ⟨its.length, by simp, Nat.zero_le _, acc, S1, accV, V1, self, st1, RlL.mono l1.1 ra, hz, q⟩, ?_⟩
  rintro j k H ⟨rfl, hj, acc2, S2, accV2, V2, lp2, st2, ra2, hz2, q2⟩
  have w := wk V2 S2 H lp2.1 st2 j
  by_cases hlt : j < its.length
  · obtain ⟨go, yl⟩ := w.1 hlt
    have hd := drop_at (List.getElem?_eq_getElem hlt)
    refine .inr ⟨go, fun H' => Nxt K Z V1 D0 (fun r => C (r.bind fun acc S => loopD (fun x acc S => compT (setPt p x (Wk.wipe ρ own)) tc te acc S) (its.drop (j + 1)) acc S)) H', fun H' n => ⟨its.length - (j + 1), by omega, rfl, hlt, n⟩, fun x H' y => ?_⟩
    obtain ⟨V3, d, d1, l3, st3, rd⟩ := yl x H' y
    have ed : its[j] = d := by
      rw [List.getElem?_eq_getElem hlt] at d1
      exact Option.some.inj d1
    dsimp only [Res.bind] at q2
    rw [hd, ed] at q2
    exact turn_ok (E := E0) (C := fun r => C (r.bind fun acc S => loopD (fun x acc S => compT (setPt p x (Wk.wipe ρ own)) tc te acc S) (its.drop (j + 1)) acc S)) (fun z => hb z) (lp2.le l3) st3 (RlL.mono l3.1 ra2) hz2 (er.mono l1) hp rd q2
  · have ej : j = its.length := by omega
    subst ej
    dsimp only [Res.bind] at q2
    rw [List.drop_length] at q2
    exact .inl ⟨w.2 (Nat.le_refl _), Nxt.trans lp1 ⟨acc2, S2, accV2, V2, lp2, st2, ra2, hz2, q2⟩⟩
theorem lc2_ok {mi mi1 : Env → Store → Res (List D)} {tc tc1 : Env → Store → Res Bool} {te : Env → Store → Res Vl} {p p1 : Pt} {own own1 : List Nat} (hp : ptIn p own = true) (hp1 : ptIn p1 own1 = true)
    (h : rdN K Z E (fun ρ S => (mi ρ S).bind fun its S => loopD (fun x acc S => compT2 (setPt p x (Wk.wipe ρ own)) tc (fun ρ1 S => (mi1 ρ1 S).nox) (fun ρ1 x1 acc S => compT (setPt p1 x1 (Wk.wipe ρ1 own1)) tc1 te acc S) acc S) its [] S) σ H Q) :
    tLc2 (rdI K Z E mi) (gP K p) (rdT K Z E0 tc) (rdI K Z E0 mi1) (gP K p1) (rdT K Z E0 tc1) (rdE K Z E0 te) own own1 σ H Q := by
  obtain ⟨W, ρ, S, er, st, h⟩ := h
  refine ⟨W, ρ, S, er, st, ?_⟩
  revert h
  dsimp only
  cases mi ρ S with
  | exc x S1 => exact fun h => h
  | bad => exact fun h => h
  | ok its S1 =>
    obtain ⟨f, hf⟩ : ∃ f : D → List D → Store → Res (List D), f = fun x acc S => compT2 (setPt p x (Wk.wipe ρ own)) tc (fun ρ1 S => (mi1 ρ1 S).nox) (fun ρ1 x1 acc S => compT (setPt p1 x1 (Wk.wipe ρ1 own1)) tc1 te acc S) acc S := ⟨_, rfl⟩
    intro h W' J H1 l st1 wk D0 hD0
    have h : PoN K Z E W' σ Q (loopD f its [] S1) := by
      rw [hf]
      exact PoN.mono l h
    have er' := er.mono l
    refine ⟨fun i m H => m = its.length - i ∧ i ≤ its.length ∧ Nxt K Z W' D0 (fun r => PoN K Z E W' σ Q (r.bind fun acc S => loopD f (its.drop i) acc S)) H,
      ⟨its.length, by simp, Nat.zero_le _, [], S1, [], ⟨W'.F, W'.am, upn W'.pn D0 (.lst [])⟩, ⟨Ex.refl _, ⟨[], by simp⟩, rfl⟩, st1.pinNew hD0 ⟨(fun _ z => nomatch z), (fun _ z => nomatch z)⟩, .nil, Nat.zero_le _, h⟩, ?_⟩
    rintro i m H ⟨rfl, hi, acc, S2, accV, V1, lp, st2, ra, hz, q⟩
    have w := wk V1 S2 H lp.1 st2 i
    by_cases hlt : i < its.length
    · obtain ⟨go, yl⟩ := w.1 hlt
      have hd := drop_at (List.getElem?_eq_getElem hlt)
      obtain ⟨C, hC⟩ : ∃ C : Res (List D) → Prop, C = fun r => PoN K Z E W' σ Q (r.bind fun acc S => loopD f (its.drop (i + 1)) acc S) := ⟨_, rfl⟩
      have hb : ¬ C .bad := by
        rw [hC]
        exact fun z => z
      refine .inr ⟨go, fun H' => Nxt K Z W' D0 C H', fun H' n => ⟨its.length - (i + 1), by omega, rfl, hlt, by rw [hC] at n; exact n⟩, fun x H' y => ?_⟩
      obtain ⟨V2, d, d1, l2, st3, rd⟩ := yl x H' y
      have ed : its[i] = d := by
        rw [List.getElem?_eq_getElem hlt] at d1
        exact Option.some.inj d1
      dsimp only [Res.bind] at q
      rw [hd, ed] at q
      have q : C (f d acc S2) := by
        rw [hC]
        exact q
      have lp2 := lp.le l2
      have ra2 := RlL.mono l2.1 ra
      have er1 : EnvR K Z V2 (Wk.wipe ρ own) (L2.wipe σ own) := (er'.ext lp2.1 lp2.2.1).wipe own
      rw [hf] at q
      dsimp only at q
      cases e : setPt p d (Wk.wipe ρ own) with
      | none =>
        rw [e] at q
        exact (hb q).elim
      | some ρ1 =>
        rw [e] at q
        refine gP_ok (fun σ2 => L2.wipe σ2 own = L2.wipe σ own) st3 rd er1 e wipe_wipe (fun i hi σ v q => ?_) fun σ2 er2 hw => ⟨hw, ?_⟩
        · have : i ∈ own := by
            cases p with
            | nm j =>
              dsimp only at hi
              subst hi
              simpa [ptIn] using hp
            | tup is =>
              have := List.all_eq_true.mp hp i hi
              simpa using this
          rw [wipe_set this]
          exact q
        refine ⟨V2, ρ1, S2, er2, st3, Po.imp (nox_po hb q σ2) fun b H3 ⟨V3, b', S3, l3, st4, eb, q⟩ => ?_⟩
        subst eb
        cases b' with
        | false =>
          rw [if_neg Bool.false_ne_true]
          exact ⟨acc, S3, accV, V3, lp2.le l3, st4, RlL.mono l3.1 ra2, hz, q⟩
        | true =>
          rw [if_pos rfl]
          exact inner_ok hb hp1 (lp2.le l3) st4 (RlL.mono l3.1 ra2) hz (er2.mono l3) q
    · have ei : i = its.length := by omega
      subst ei
      refine .inl ⟨w.2 (Nat.le_refl _), ?_⟩
      dsimp only [Res.bind] at q
      rw [List.drop_length] at q
      exact lc_end st1 hD0 lp st2 ra hz q
end
end Wk

set_option Elab.async false
set_option linter.all false
set_option maxRecDepth 100000
set_option maxHeartbeats 4000000
/-! WkKa: a lambda without parameters, or with one that has a default; made, called. -/
namespace Wk
open PySem PySem.Spec L2 LamX
open PyProof.Rows hiding St

/-- a lambda's parameters: none, or one that is a whole number -/
def lamPar : Arguments → Option (List Str)
  | ⟨[], [], none, [], [], none, []⟩ => some []
  | ⟨[], [a], none, [], [], none, [.Constant (.int _) _ _]⟩ => some [a.arg]
  | _ => none
section
variable {X : Cx} {pins : List (Addr × Obj)} {σ : L2.St} {H : Hp} {s : Shared}
abbrev lamObj (X : Cx) (params : Arguments) (body : Expr) (scope : Scope) (dV doc pm : Value) (c' : Addr) (ctv : Value) : Obj := PySem.W.kdv_obj "<lambda>" (X.env.qual ++ "<lambda>") params (.expr body) scope (cloFrom X.env.cells scope.names []) dV doc pm c' ctv
/-- what stands after a lambda was made -/
def Made3 (X : Cx) (pins : List (Addr × Obj)) (σ : L2.St) (T : List (Addr × Str)) (P : Addr) (params : Arguments) (body : Expr) (scope : Scope) (dV : Value) (H : Hp) (h0 : Heap) (Q : Value → Shared → Prop) : Prop :=
  ∀ (f c' : Addr) (doc pm ctv : Value) (H1 : Hp) (s' : Shared), Inv X pins σ H1 s' → (∀ b o, b ≠ P → H b = some o → H1 b = some o) → Tabs T H1 → (∀ b o, b ≠ P → h0.get? b = some o → s'.heap.get? b = some o) → (∀ b, H b = none → (∃ o, h0.get? b = some o) → H1 b = none) →
      s'.heap.get? f = some (lamObj X params body scope dV doc pm c' ctv) → H1 f = none → f ∉ frs X.stack → H1 c' = some (CodeO c' (X.env.qual ++ "<lambda>")) → Q (.ref f) s'
theorem lam_tail3 {T : List (Addr × Str)} {c P : Addr} {params : Arguments} {body : Expr} {scope : Scope} {pos : Pos} {dV : Value} {E : Value → Shared → Prop} {Q : Value → Shared → Prop} (I : Inv X pins σ H s) (TB : TabB X.base X.mg c P) (hcode : X.env.code = .ref c)
    (hm : (P, X.env.qual ++ "<lambda>") ∈ T) (hu : ∀ p ∈ T, p.1 = P → p.2 = X.env.qual ++ "<lambda>") (hT : Tabs T H) (hfree : ∀ y ∈ scope.names, y.2 = .free → ∃ c, X.env.cells.lookup y.1 = some c)
    (h : Made3 X pins σ T P params body scope dV H s.heap Q) :
    wpAny (model X.prog X.w) X.A (makeTail "<lambda>" (X.env.qual ++ "<lambda>") params (.expr body) scope X.env dV .none none pos pos.line) Q E s := by
  obtain ⟨ps, hP, ht, ha⟩ := hT _ hm
  have bP : s.heap.BuiltinsAt X.mg P := TB.bm.keeps I.bk
  have hP' : s.heap.get? P = some { cls := .none, data := .fields ps } := I.hok P _ hP
  have nofr : ∀ f, s.heap.objs.size ≤ f → f ∉ frs X.stack := fun f hf z => by
    rcases List.mem_cons.mp (I.stkSub _ z) with e | e
    · have h1 := I.lt
      rw [← e] at h1
      exact Nat.lt_irrefl _ (Nat.lt_of_lt_of_le h1 hf)
    · exact I.nofs hf e
  cases hc : codeAmong pos ps.toList with
  | none =>
    refine PySem.W.kdv_makeTail (mg := X.mg) (c := c) (P := P) (ps := ps) (closure_ok hfree) I.ok.glob (I.mod.glob.keeps I.bk) hcode (TB.code.keeps I.bk) hP' ht hc TB.gP bP fun c' ctv doc h' tk hx hge hlt hrec htb => ?_
    obtain ⟨c2, oc, vs, t, e2, hoc, hd, hv⟩ := hrec
    cases e2
    have hsz : s.heap.objs.size ≤ h'.objs.size := Nat.le_trans hge (Nat.le_of_lt hlt)
    have nC : H c' = none := I.hok.fresh hge
    have I1 := inv_table (t' := tk) (more := #[rawInt pos.line, rawInt pos.col, .ref c']) (h' := h'.push (lamObj X params body scope dV doc ((X.mg "__name__").getD .none) c' ctv)) I hP
      (fun b o hb e => Heap.get?_push_of_some _ (hx b o hb e)) (Heap.get?_push_of_some _ htb) hge ⟨oc, vs, t, Heap.get?_push_of_some _ hoc, hd, hv⟩
    have hE : ∀ b o, b ≠ P → H b = some o → (upd (upd H P (.tbl (ps ++ #[rawInt pos.line, rawInt pos.col, .ref c']))) c' (CodeO c' (X.env.qual ++ "<lambda>"))) b = some o := fun b o n e => by
      rw [upd_ne (ne_of_none e nC), upd_ne n]
      exact e
    have hco : ∀ {c0 q}, H c0 = some (CodeO c0 q) → c0 ≠ P := fun {c0 q} e z => by
      rw [z, hP] at e
      exact codeO_ne ps (Option.some.inj e).symm
    have eL : (ps ++ #[rawInt pos.line, rawInt pos.col, .ref c']).toList = ps.toList ++ [rawInt pos.line, rawInt pos.col, .ref c'] := by simp
    have lt : ∀ {b o}, s.heap.get? b = some o → b ≠ c' := fun {b o} e z => by
      rw [z] at e
      exact Nat.lt_irrefl _ (Nat.lt_of_lt_of_le (Heap.lt_size e) hge)
    refine h h'.objs.size c' doc ((X.mg "__name__").getD .none) ctv _ _ I1 hE (fun p hp => ?_) (fun b o n e => Heap.get?_push_of_some _ (hx b o n e)) (fun b n ⟨o, e⟩ => ?_) (Heap.get?_push_size _ rfl) ?_ (nofr _ hsz) upd_same
    · by_cases hb : p.1 = P
      · rw [hu p hp hb, hb]
        refine ⟨_, by rw [upd_ne (ne_of_none hP nC), upd_same], by rw [eL]; exact PySem.TriplesOk_snoc _ _ _ _ ht, fun p' cv hcv => ?_⟩
        rw [eL] at hcv
        rcases among_app _ ht hcv with z | z
        · obtain ⟨c0, e1, e2⟩ := ha p' cv z
          exact ⟨c0, e1, hE _ _ (hco e2) e2⟩
        · exact ⟨c', z, upd_same⟩
      · obtain ⟨ps', a1, a2, a3⟩ := hT p hp
        refine ⟨ps', by rw [upd_ne (ne_of_none a1 nC), upd_ne hb]; exact a1, a2, fun p' cv hcv => ?_⟩
        obtain ⟨c0, e1, e2⟩ := a3 p' cv hcv
        exact ⟨c0, e1, hE _ _ (hco e2) e2⟩
    · rw [upd_ne (lt e), upd_ne (fun z => by rw [z, hP] at n; cases n)]
      exact n
    · have n1 : h'.objs.size ≠ c' := Nat.ne_of_gt hlt
      have n2 : h'.objs.size ≠ P := Nat.ne_of_gt (Nat.lt_of_lt_of_le (Heap.lt_size hP') hsz)
      rw [upd_ne n1, upd_ne n2]
      exact I.hok.fresh hsz
  | some cv =>
    obtain ⟨c', e, hco⟩ := ha pos cv hc
    subst e
    refine PySem.W.kdv_makeTailHit (mg := X.mg) (c := c) (P := P) (ps := ps) (closure_ok hfree) I.ok.glob (I.mod.glob.keeps I.bk) hcode (TB.code.keeps I.bk) hP' ht hc bP fun ctv doc h' tk hx hsz => ?_
    have I1 : Inv X pins σ H { s with heap := h'.push (lamObj X params body scope dV doc ((X.mg "__name__").getD .none) c' ctv), toks := tk } := I.kept fun b o e => Heap.get?_push_of_some _ (hx b o e)
    exact h h'.objs.size c' doc ((X.mg "__name__").getD .none) ctv H _ I1 (fun _ _ _ e => e) hT (fun b o _ e => Heap.get?_push_of_some _ (hx b o e)) (fun b n _ => n) (Heap.get?_push_size _ rfl) (I.hok.fresh hsz) (nofr _ hsz) hco
/-- the default's tuple -/
def LamD (X : Cx) (qs : List Str) (dV : Value) (H : Hp) (h : Heap) : Prop := (qs = [] ∧ dV = .none) ∨ ∃ (q : Str) (i : Int) (tk : Tok) (t : Addr), qs = [q] ∧ dV = .ref t ∧ h.get? t = some (PySem.W.kdv_tup [.int i tk]) ∧ H t = none ∧ t ∉ frs X.stack
theorem lam_make3 {T : List (Addr × Str)} {c P : Addr} {params : Arguments} {body : Expr} {scope : Scope} {pos : Pos} {qs : List Str} {Q : Value → Shared → Prop} (I : Inv X pins σ H s) (TB : TabB X.base X.mg c P) (hcode : X.env.code = .ref c)
    (hm : (P, X.env.qual ++ "<lambda>") ∈ T) (hu : ∀ p ∈ T, p.1 = P → p.2 = X.env.qual ++ "<lambda>") (hT : Tabs T H) (hp : lamPar params = some qs) (hfree : ∀ y ∈ scope.names, y.2 = .free → ∃ c, X.env.cells.lookup y.1 = some c)
    (h : ∀ (f c' : Addr) (dV doc pm ctv : Value) (H1 : Hp) (s' : Shared), Inv X pins σ H1 s' → (∀ b o, b ≠ P → H b = some o → H1 b = some o) → Tabs T H1 →
      s'.heap.get? f = some (lamObj X params body scope dV doc pm c' ctv) → H1 f = none → f ∉ frs X.stack → H1 c' = some (CodeO c' (X.env.qual ++ "<lambda>")) → LamD X qs dV H1 s'.heap → Q (.ref f) s') :
    wpAny (model X.prog X.w) X.A (eval (.Lambda params body scope pos) X.env) Q X.xe s := by
  unfold lamPar at hp
  split at hp
  · cases hp
    refine PySem.W.kla_eval rfl ?_
    rw [makeFunction_eq]
    simp only [List.zip_nil_right, List.filterMap_nil, List.isEmpty_nil, if_true, pure_bind]
    exact lam_tail3 I TB hcode hm hu hT hfree fun f c' doc pm ctv H1 s' I1 e1 T1 _ _ hf hn hfr hco => h f c' _ doc pm ctv H1 s' I1 e1 T1 hf hn hfr hco (.inl ⟨rfl, rfl⟩)
  · rename_i a i k p
    cases hp
    refine PySem.W.kdv_lam rfl rfl ?_
    refine PySem.W.kdv_all1 ?_
    refine thn ((pe_int (X := X)).run pins s σ H (fun v H1 => v = .int i ∧ H1 = H) I ⟨rfl, rfl⟩) fun u s1 ⟨v, H1, I1, r1, q1⟩ => ?_
    obtain ⟨ev, eH⟩ := q1
    subst ev
    rw [eH] at I1
    obtain ⟨tk, eu⟩ := (show ∃ t, u = Value.int i t from r1)
    subst eu
    refine PySem.W.kdv_all0 ?_
    rw [makeFunction_eq]
    simp only [List.zip_nil_right, List.filterMap_nil, List.isEmpty_nil, List.isEmpty_cons, Bool.false_eq_true, if_false, if_true, pure_bind]
    refine wpAny_bind (wpAny_newTextTuple ?_)
    have I2 : Inv X pins σ H { s1 with heap := s1.heap.push (PySem.W.kdv_tup [.int i tk]) } := I1.kept (t' := s1.toks) fun b o e => Heap.get?_push_of_some _ e
    have ht : (s1.heap.push (PySem.W.kdv_tup [.int i tk])).get? s1.heap.objs.size = some (PySem.W.kdv_tup [.int i tk]) := Heap.get?_push_size _ rfl
    have hn : H s1.heap.objs.size = none := I1.hok.fresh (Nat.le_refl _)
    have hf : s1.heap.objs.size ∉ frs X.stack := fun z => by
      rcases List.mem_cons.mp (I1.stkSub _ z) with e | e
      · have h1 := I1.lt
        rw [← e] at h1
        exact Nat.lt_irrefl _ h1
      · exact I1.nofs (Nat.le_refl _) e
    have nP : s1.heap.objs.size ≠ P := fun z => by
      obtain ⟨ps, hP, _⟩ := hT _ hm
      rw [← z, hn] at hP
      cases hP
    exact lam_tail3 I2 TB hcode hm hu hT hfree fun f c' doc pm ctv H1 s' I3 e1 T1 k1 k2 h1 h2 h3 h4 => h f c' _ doc pm ctv H1 s' I3 e1 T1 h1 h2 h3 h4 (.inr ⟨_, i, tk, _, rfl, rfl, k1 _ _ nP ht, k2 _ hn ⟨_, ht⟩, hf⟩)
  · cases hp
end
/-! ### its names -/
/-- its parameters, captured names, globals -/
structure LamS3 (sc scope : Scope) (qs N : List Str) : Prop where
  kind : scope.kind = .function
  co : scope.isCoroutine = false
  gen : scope.isGenerator = false
  own : ∀ y ∈ scope.names, y.2 ≠ .cell ∧ (y.2 = .local → y.1 ∉ N)
  par : ∀ q ∈ qs, scope.names.lookup q = some .local
  free : ∀ y ∈ scope.names, y.2 = .free → sc.names.lookup y.1 = some .cell ∨ sc.names.lookup y.1 = some .free
def lamSB3 (sc scope : Scope) (qs N : List Str) : Bool :=
  decide (scope.kind = .function) && !scope.isCoroutine && !scope.isGenerator && (scope.names.all fun y => !decide (y.2 = .cell) && (!decide (y.2 = .local) || !decide (y.1 ∈ N)) && (!decide (y.2 = .free) || decide (sc.names.lookup y.1 = some .cell) || decide (sc.names.lookup y.1 = some .free))) &&
    qs.all fun q => decide (scope.names.lookup q = some .local)
theorem lamS3_by {sc scope : Scope} {qs N : List Str} (h : lamSB3 sc scope qs N = true) : LamS3 sc scope qs N := by
  unfold lamSB3 at h
  simp only [Bool.and_eq_true, Bool.or_eq_true, Bool.not_eq_true', decide_eq_true_eq, decide_eq_false_iff_not, List.all_eq_true] at h
  obtain ⟨⟨⟨⟨h1, h2⟩, h3⟩, h4⟩, h5⟩ := h
  refine ⟨h1, h2, h3, fun y hy => ⟨(h4 y hy).1.1, fun e => (h4 y hy).1.2.resolve_left (fun z => z e)⟩, h5, fun y hy e => ?_⟩
  rcases (h4 y hy).2 with (z | z) | z
  · exact absurd e z
  · exact .inl z
  · exact .inr z
theorem LamS3.has {X : Cx} {scope : Scope} {qs N : List Str} (L : LamS3 X.env.scope scope qs N) (ok : X.Ok) : ∀ y ∈ scope.names, y.2 = .free → ∃ c, X.env.cells.lookup y.1 = some c := fun y hy e => by
  rcases L.free y hy e with k | k
  · exact ok.has _ (.inl k)
  · exact ok.has _ (.inr k)
section
variable {X : Cx} {pins : List (Addr × Obj)} {σ : L2.St} {H HZ : Hp} {s s1 : Shared}
theorem lam_start3 {A : Around} {outer : List PySem.Env} {E : XK} {scope : Scope} {f c' : Addr} {h₁ : Heap} {tk : Nat} {binds : List (Str × Value)} {qs : List Str} (I : Inv X pins σ H s) (L : LamS3 X.env.scope scope qs X.N) (e0 : Env0 X.prog X.w X.K X.mg X.base A outer s1 HZ) (hd : A.handled = none)
    (un : Un (frs X.stack) [] H HZ s.heap s1.heap) (hns : h₁.Ns s1.heap.objs.size fun y => binds.reverse.lookup y) (kp : ∀ b o, s1.heap.get? b = some o → h₁.get? b = some o) :
    Inv (lamCx X A outer s1 HZ E scope f c') [] σ HZ { s1 with heap := h₁, toks := tk } := by
  have hfree := L.has I.ok
  have cm : ∀ {y c}, (cloFrom X.env.cells scope.names []).lookup y = some c → X.env.cells.lookup y = some c := fun {y c} e => by
    rcases cloFrom_mem (PySem.mem_of_lookup e) with hm | ⟨h1, h2⟩
    · cases hm
    · obtain ⟨c1, hc⟩ := hfree _ h1 rfl
      have hc : X.env.cells.lookup y = some c1 := hc
      have e2 : c = c1 := by
        rw [h2, hc] <;> rfl
      rw [e2]
      exact hc
  have look : ∀ {y}, scope.names.lookup y = some .free → ∃ c, (cloFrom X.env.cells scope.names []).lookup y = some c := fun {y} hl => by
    have hy : (y, NameKind.free) ∈ scope.names := PySem.mem_of_lookup hl
    exact mem_lookup (cloFrom_has (cells := X.env.cells) (acc := []) hy)
  have cellK : ∀ {c : Addr} {v : Option Value}, H c = none → s.heap.IsCell c v → h₁.IsCell c v := fun {c v} n ⟨o, ho, hd⟩ => by
    obtain ⟨sl, q⟩ := un.any ho n (by simp)
    exact ⟨_, kp _ _ q, hd⟩
  have noA : ∀ b : Addr, b ∉ (lamCx X A outer s1 HZ E scope f c').ex := fun b z => absurd (show b ∈ ([] : List Addr) from z) (by simp)
  refine ⟨⟨e0.mod, L.kind, rfl, rfl, Nat.le_refl _, fun y z c e1 e2 => I.ok.inj y z c (cm e1) (cm e2), fun y hy => ?_, fun y c z _ => ?_, fun _ => hd, Around.frames_deeper e0.frames, .inr ⟨rfl, rfl⟩, fun b z => absurd z (noA b), e0.bs, e0.bsz, fun b _ _ => noA b,
      fun b z => absurd z (noA b), e0.funs, e0.frf⟩,
    rfl, e0.bare, Un.kept kp, ⟨_, hns, fun i y v e1 e2 e3 => ?_⟩, fun y c e => ?_, e0.hok.fresh (Nat.le_refl _), fun y c e => ?_, fun q hq => absurd (show q ∈ ([] : List (Addr × Obj)) ++ [] from hq) (by simp), e0.hok.kept kp, I.len⟩
  · have hy : scope.names.lookup y = some .cell ∨ scope.names.lookup y = some .free := hy
    rcases hy with hy | hy
    · exact absurd rfl (L.own _ (PySem.mem_of_lookup hy)).1
    · exact look hy
  · have z : false = true := z
    cases z
  · have e3 : Vis scope y := e3
    rcases e3 with k | k | k
    · exact absurd (List.mem_of_getElem? e1) ((L.own _ (PySem.mem_of_lookup k)).2 rfl)
    · exact absurd rfl (L.own _ (PySem.mem_of_lookup k)).1
    · obtain ⟨m, hn, hl⟩ := I.loc
      have hvis : Vis X.env.scope y := (L.free _ (PySem.mem_of_lookup k) rfl).elim (fun k => .inr (.inl k)) (fun k => .inr (.inr k))
      obtain ⟨w', r, q⟩ := hl i y v e1 e2 hvis
      obtain ⟨c2, h2⟩ := look k
      refine ⟨w', r, .inr ⟨.inr k, c2, h2, ?_⟩⟩
      have c1 := cm h2
      rcases q with ⟨k', _⟩ | ⟨_, c3, e', z⟩
      · have k' : X.env.scope.names.lookup y = some .local := k'
        rcases L.free _ (PySem.mem_of_lookup k) rfl with k2 | k2 <;> rw [show X.env.scope.names.lookup y = _ from k2] at k' <;> cases k'
      · rw [c1] at e'
        cases e'
        exact cellK (I.freeC y _ c1) z
  · obtain ⟨w', z⟩ := I.cell y c (cm e)
    exact ⟨w', cellK (I.freeC y c (cm e)) z⟩
  · obtain ⟨v, o, ho, hd⟩ := I.cell y c (cm e)
    exact un.free c o ho (I.freeC y c (cm e)) (by simp)
/-- the lambda's arguments, when it is called without any -/
theorem lam_binds {X : Cx} {params : Arguments} {body : Expr} {scope : Scope} {qs : List Str} {dV doc pm ctv : Value} {c' : Addr} {H : Hp} {s : Shared} (hp : lamPar params = some qs) (hD : LamD X qs dV H s.heap) :
    ∃ vs : List Value, vs.length = qs.length ∧ BindsTo s (PySem.W.kdv_fn "<lambda>" (X.env.qual ++ "<lambda>") params (.expr body) scope (cloFrom X.env.cells scope.names []) dV doc pm (.ref c') ctv) ⟨[], []⟩ (qs.zip vs) := by
  unfold lamPar at hp
  split at hp
  · cases hp
    rcases hD with ⟨_, rfl⟩ | ⟨_, _, _, _, z, _⟩
    · exact ⟨[], rfl, BindsTo.of_eq rfl⟩
    · cases z
  · rename_i a i k p
    cases hp
    rcases hD with ⟨z, _⟩ | ⟨q, i, tk, t, e, rfl, ht, _⟩
    · cases z
    · refine ⟨[.int i tk], rfl, ?_⟩
      have X' : PySem.W.Frag.In [(t, PySem.W.kdv_tup [.int i tk])] s.heap := fun b o e => by
        have e2 : (match b == t with
          | true => some (PySem.W.kdv_tup [.int i tk])
          | false => none) = some o := e
        cases z : b == t with
        | true =>
          rw [z] at e2
          cases e2
          rw [beq_iff_eq.mp z]
          exact ht
        | false =>
          rw [z] at e2
          cases e2
      have look : List.lookup t [(t, PySem.W.kdv_tup [.int i tk])] = some (PySem.W.kdv_tup [.int i tk]) := by
        show (match t == t with
          | true => some (PySem.W.kdv_tup [.int i tk])
          | false => none) = _
        rw [beq_self_eq_true]
      exact bind_arr (ps := [a.arg]) (us := []) (its := [.int i tk]) (ws := [.int i tk]) (ks := []) (r := some #[.int i tk]) rfl rfl rfl rfl rfl (by simp) (by simp) (fun q hq => absurd hq List.not_mem_nil) .nil (by simp) rfl rfl X' (.inr ⟨t, PySem.W.kdv_tup [.int i tk], 0, rfl, look, rfl, rfl⟩)
  · cases hp
/-- x(), in the def that got the lambda: Z is that def's context, entered at s -/
theorem pe_act3 {CXg : CXT} {Eg : XK} {Ng : List Str} {qg : Str} {sg : Scope} {g f c' : Addr} {cdg dV doc pm ctv : Value} {params : Arguments} {body : Expr} {scope : Scope} {k i : Nat} {a : Str} {pn : List (Addr × Obj)} {xe : Value → Shared → Prop} {W : WX} {E : XK} {tb : TE} {p1 p2 : Pos} {qs : List Str}
    (I : Inv X pins σ H s) (L : LamS3 X.env.scope scope qs X.N) (hp : lamPar params = some qs) (hf : s.heap.get? f = some (lamObj X params body scope dV doc pm c' ctv)) (hfn : H f = none) (hfr : f ∉ frs X.stack) (hD : LamD X qs dV H s.heap)
    (tk : Takes ((cxOf CXg X.prog X.w X.K X.mg X.base Ng qg sg g cdg X.A X.stack s H Eg).tr pn xe) W) (hr : Room (k + 1) (X.A.deeper (envOfC qg sg s.heap.objs.size g cdg)))
    (hbody : ∀ (s1 : Shared) (H1 : Hp), Room k ((X.A.deeper (envOfC qg sg s.heap.objs.size g cdg)).deeper (lamEnv X scope s1.heap.objs.size f c')) → PE (lamCx X (X.A.deeper (envOfC qg sg s.heap.objs.size g cdg)) (envOfC qg sg s.heap.objs.size g cdg :: X.stack) s1 H1 E scope f c') body tb)
    (hN : Ng[i]? = some a) (hv : Vis sg a) (hd : (a == ("__debug__" : Str)) = false) (hcd : (a == ("__classdict__" : Str)) = false) :
    PE ((cxOf CXg X.prog X.w X.K X.mg X.base Ng qg sg g cdg X.A X.stack s H Eg).tr pn xe) (.Call (.Name a p1) [] [] p2)
      (fun σZ HZ Q => σZ[i]? = some (some (.ref f)) ∧ HZ c' = some (CodeO c' (X.env.qual ++ "<lambda>")) ∧ (∀ cls d H', E cls d H' → W cls d σZ H') ∧ tb σ HZ Q) := by
  refine ⟨fun pinsZ sZ σZ HZ Q IZ h => ?_⟩
  obtain ⟨hs, hc, hW, ht⟩ := h
  refine wpAny_Call_Name_kw (thn ((pe_var (pos := p1) (i := i) hN hv hd hcd).run pinsZ sZ σZ HZ (fun v H1 => v = .ref f ∧ H1 = HZ) IZ ⟨.ref f, hs, rfl, rfl⟩) fun u s1 ⟨v, H1, I1, r1, q1⟩ => ?_)
  obtain ⟨ev, eH⟩ := q1
  subst ev
  rw [eH] at I1
  obtain rfl : u = Value.ref f := r1
  have keep : ∀ b o, s.heap.get? b = some o → H b = none → b ∉ frs X.stack → s1.heap.get? b = some o := fun b o e n nf => I1.base.keep b o e n nf (fun z => nomatch (show b ∈ ([] : List Addr) from z))
  have of1 : s1.heap.get? f = some (lamObj X params body scope dV doc pm c' ctv) := keep f _ hf hfn hfr
  refine PySem.W.callWith_F0 ⟨_, _, _, _, of1⟩ ?_
  have un : Un (frs X.stack) [] H HZ s.heap s1.heap := I1.base
  obtain ⟨⟨oc, vs, t, hoc, hdc, hvc⟩, _, _⟩ := I1.hok c' _ hc
  have hD1 : LamD X qs dV H s1.heap := by
    rcases hD with ⟨e1, e2⟩ | ⟨q, i, tk, t, e1, e2, e3, e4, e5⟩
    · exact .inl ⟨e1, e2⟩
    · exact .inr ⟨q, i, tk, t, e1, e2, keep t _ e3 e4 e5, e4, e5⟩
  obtain ⟨ws, hws, hbind⟩ := lam_binds (X := X) (body := body) (scope := scope) (doc := doc) (pm := pm) (ctv := ctv) (c' := c') (s := s1) hp hD1
  have rc : codeAny (model X.prog X.w) (X.A.deeper (envOfC qg sg s.heap.objs.size g cdg)) (.call (.ref f) ⟨[], []⟩) (CR (L2.CX X.prog X.w) (envOfC qg sg s.heap.objs.size g cdg :: X.stack) X.prog X.w HZ s1 Q E) s1 := by
    refine PySem.W.kla_callFunE hr.depth of1 rfl L.co L.gen rfl ⟨c', oc, vs, t, rfl, hoc, hdc, hvc⟩ ?_
    refine hbind _ _ _ _ (wpAny_newFunctionEnv (fun y hy => (L.own y hy).1) (fun y hy => L.par y.1 ?_) (fun h₁ hns hsb => ⟨I1.nolimit.fresh _ hsb, ?_⟩) L.kind)
    · obtain ⟨y1, y2⟩ := y
      exact (List.of_mem_zip hy).1
    show codeAny _ _ (.expr body (lamEnv X scope s1.heap.objs.size f c')) _ _
    have kp : ∀ b o, s1.heap.get? b = some o → h₁.get? b = some o := fun b o e => hsb.extBut b o (Nat.ne_of_lt (Heap.lt_size e)) (Heap.get?_push_of_some _ e)
    have J : Inv (lamCx X (X.A.deeper (envOfC qg sg s.heap.objs.size g cdg)) (envOfC qg sg s.heap.objs.size g cdg :: X.stack) s1 HZ E scope f c') [] σ HZ { s1 with heap := h₁, toks := s1.toks + (qs.zip ws).length } :=
      lam_start3 I L I1.env0 hr.hd un hns kp
    refine PySem.W.kla_codeExpr (wpAny_mono ((hbody s1 HZ (hr.deeper _)).run [] _ _ HZ Q J ht) (fun v s' hq => ?_) fun e s' hq => hq)
    obtain ⟨w', H', J', rv, q⟩ := hq
    exact ⟨w', H', J'.os, J'.bare, J'.base, J'.hok, rv, q⟩
  refine wpAny_call (codeAny_mono rc fun r s' hq => ?_)
  cases r with
  | error e => exact tk e s' (XE.of_call I1 (fun cls d H' h => hW cls d H' h) hq)
  | ok fl =>
    cases fl with
    | ret u => exact I1.after hq
    | next => exact False.elim hq
    | brk => exact False.elim hq
    | cont => exact False.elim hq
end
end Wk

set_option Elab.async false
set_option linter.all false
set_option maxRecDepth 100000
set_option maxHeartbeats 4000000
/-! WkKb: try .. except x as n: the exception is an object that stays known. -/
namespace Wk
open PySem PySem.Spec L2
open PyProof.Rows hiding St

theorem xo_ok {P : Program} {w : World} {H : Hp} {h : Heap} {a dx : Addr} {cls : Value} {oe : Obj} {vs : Array Value} (e : h.get? a = some oe) (z : Zc cls (some dx) oe) (d : oe.data = .fields vs) : ObjOk P w H h a (XO cls dx a) :=
  ⟨⟨oe, vs, e, z, d⟩, ⟨oe, e⟩, fun _ _ ⟨o, v, q, r⟩ k => ⟨o, v, k o q, r⟩⟩
section
variable {X : Cx} {pins : List (Addr × Obj)} {σ : L2.St} {H : Hp} {s : Shared}
/-- an object that is no older than the entry is known from now on -/
theorem inv_track {a : Addr} {o : HO} (I : Inv X pins σ H s) (hn : H a = none) (n0 : X.s_0.heap.get? a = none) (nL : a ≠ X.env.locals) (nC : ∀ x c, X.env.cells.lookup x = some c → c ≠ a) (nP : ∀ p ∈ X.pn ++ pins, p.1 ≠ a)
    (new : ObjOk X.prog X.w (upd H a o) s.heap a o) : Inv X pins σ (upd H a o) s := by
  have ne0 : ∀ b u, X.s_0.heap.get? b = some u → b ≠ a := fun b u e z => by
    rw [z, n0] at e
    cases e
  have neS : ∀ b u, H b = some u → b ≠ a := fun b u e z => by
    rw [z, hn] at e
    cases e
  refine ⟨I.ok, I.os, I.bare, ⟨I.base.keep, I.base.slot, fun b u e n hq => ?_, I.base.there, fun b xs e => ?_, fun b u xs e => ?_, fun b ps e => ?_⟩, I.loc, I.cell, ?_, fun x c e => ?_, fun p hp => ?_, fun b u e => ?_, I.len⟩
  · rw [upd_ne (ne0 b u e)]
    exact I.base.free b u e n hq
  · have q := I.base.tups b xs e
    rw [upd_ne (neS b _ q)]
    exact q
  · have q := I.base.frzs b u xs e
    rw [upd_ne (neS b _ q)]
    exact q
  · obtain ⟨m, q⟩ := I.base.tbls b ps e
    exact ⟨m, by rw [upd_ne (neS b _ q)]; exact q⟩
  · rw [upd_ne (Ne.symm nL)]
    exact I.free
  · rw [upd_ne (nC x c e)]
    exact I.freeC x c e
  · obtain ⟨e, n, r⟩ := I.pin p hp
    exact ⟨e, by rw [upd_ne (nP p hp)]; exact n, r⟩
  · by_cases hb : b = a
    · subst hb
      rw [upd_same] at e
      cases e
      exact new
    · rw [upd_ne hb] at e
      exact (I.hok b u e).stay (fun c v _ q => q) (fun c q => by rw [upd_ne (neS c _ q)]; exact q) fun c xs q => by rw [upd_ne (neS c _ q)]; exact q
theorem inv_suite (I : Inv X pins σ H s) (a : Addr) : Inv (X.suite a (X.pn ++ pins)) [] σ H s :=
  ⟨I.ok.suite a _, I.os, I.bare, I.base, I.loc, I.cell, I.free, I.freeC, fun p hp => I.pin p (by simpa using hp), I.hok, I.len⟩
theorem inv_unsuite {a : Addr} {pn' : List (Addr × Obj)} (I : Inv (X.suite a (X.pn ++ pins)) pn' σ H s) (ok : X.Ok) : Inv X pins σ H s :=
  ⟨ok, I.os, I.bare, I.base, I.loc, I.cell, I.free, I.freeC, fun p hp => I.pin p (List.mem_append_left _ hp), I.hok, I.len⟩
end
/-- what 'except x as n' wishes of an exception of the body; it stays known -/
def wKeep (K : PySem.W.Frag) (c : Value) (i : Nat) (ts : Addr → TS) (Wout : WX) (D : Ends) : WX := fun cls d σ H =>
  ∃ b, PySem.W.exmOne K cls c = some b ∧ (b = true → ∃ dx, d = some dx ∧ ∀ a, H a = none → ts a { nx := fun σ' H' => D.nx (σ'.set i none) H', rt := D.rt, bk := fun σ' H' => D.bk (σ'.set i none) H', ct := fun σ' H' => D.ct (σ'.set i none) H' } (σ.set i (some (.ref a))) (upd H a (XO cls dx a))) ∧
    (b = false → Wout cls d σ H)
section
variable {X : Cx} {x n : Str} {c : Value} {i : Nat} {body suite : List Stmt} {b₀ : Stmt} {np pos pos' : Pos} {tb : WX → TS} {ts : Addr → TS} {Wout : WX}
theorem ps_try_keep (hs : X.stack = X.env :: X.outer) (hf : X.env.frame = some X.env.locals) (hN : X.N.Nodup) (hi : X.N[i]? = some n) (hln : X.env.kindOf n = some .local) (hc : Names X x c) (tk : Takes X Wout) (hex : X.ex = [])
    (hb : ∀ (W : WX) (pn : List (Addr × Obj)) (xe : Value → Shared → Prop), Takes (X.tr pn xe) W → PassesOwn (model X.prog X.w) X.A X.env xe → PSs (X.tr pn xe) body (tb W))
    (hsu : ∀ (a : Addr) (pn : List (Addr × Obj)), PSs (X.suite a pn) (b₀ :: suite) (ts a)) :
    PS X (.Try body [.ExceptHandler (some (.Name x np)) (some n) (b₀ :: suite) pos'] [] [] pos) (fun D σ H => tb (wKeep X.K c i ts Wout D) D σ H) := by
  refine ⟨fun pins s σ H D I h => ?_⟩
  have ok := I.ok
  have hfr : X.A.frames = some (X.env :: X.outer) := by rw [ok.frames, hs]
  have hloc : Loc X.env.scope n := .inl hln
  refine wpAny_Try_except ?_
  refine wpAny_mono ((hb (wKeep X.K c i ts Wout D) (X.pn ++ pins) (fun e s₁ => wpAny (model X.prog X.w) X.A (noteFrame e X.env) (fun _ s₂ => wpAny (model X.prog X.w) X.A (setFlight e none) (fun _ s₃ =>
    wpAny (model X.prog X.w) X.A (handleBy e X.env [.ExceptHandler (some (.Name x np)) (some n) (b₀ :: suite) pos']) (SP X pins D) X.xe s₃) X.xe s₂) X.xe s₁) (fun u s' xx => ?_) PassesOwn.looking).run [] s σ H D (I.toTry _) h) (fun f s1 hsp => ?_) (fun e s1 he => he)
  · -- the catch
    obtain ⟨a, B, sI, pins', σ', H', cls, d, rfl, J', nb, up, sky, na, os, ag, b, hb1, hyes, hno⟩ := xx
    have J : Inv X pins σ' H' sI := J'.ofTry ok
    have sky' : Sky B (X.env :: X.outer) a (Zc cls d) X.env.locals s'.heap := by rw [← hs]; exact sky
    show wpAny (model X.prog X.w) X.A (noteFrame (.ref a) X.env) _ _ _
    refine Sky.land Zc.steady hfr hf sky' fun h3 fl3 up3 => ?_
    have J3 : Inv X pins σ' H' { s' with heap := h3 } := J.landed nb fl3.1 (up.trans up3) os ag
    obtain ⟨oe3, vs3, he3, hz3, hd3⟩ := fl3.there
    have notFr : ∀ {h : Heap} {o : Obj} {vs : Array Value}, h.FunFrames B (X.env :: X.outer) → h.get? a = some o → o.data = .fields vs → a ∉ frs (X.env :: X.outer) := fun {h o vs} ff e dd hm => by
      obtain ⟨_, o', e', hnf⟩ := ff.mem hm
      rw [e] at e'; cases e'
      exact hnf _ dd
    have nfr := notFr fl3.2.2.1 he3 hd3
    have nL : a ≠ X.env.locals := fun z => nfr (List.mem_filterMap.mpr ⟨X.env, List.mem_cons_self, by rw [hf, z]⟩)
    have nF : a ∉ X.fs := fun hm => by
      obtain ⟨e, he, q⟩ := List.mem_filterMap.mp hm
      exact nfr (List.mem_filterMap.mpr ⟨e, List.mem_cons_of_mem _ he, q⟩)
    have nI : sI.heap.get? a = none := by
      cases e : sI.heap.get? a with
      | none => rfl
      | some o =>
        have q := nb a o e (by rw [hs]; exact nfr)
        rw [fl3.2.1] at q
        cases q
    have n0 : X.s_0.heap.get? a = none := by
      cases e : X.s_0.heap.get? a with
      | none => rfl
      | some o =>
        obtain ⟨o', q⟩ := J.base.there a o e (by rw [hex]; exact fun z => nomatch z)
        rw [nI] at q
        cases q
    have nP : ∀ p ∈ X.pn ++ pins, p.1 ≠ a := fun p hp z => by
      have q := (J.pin p hp).1
      rw [z, nI] at q
      cases q
    have nC : ∀ x c, X.env.cells.lookup x = some c → c ≠ a := fun x c e z => by
      obtain ⟨v, o, ho, _⟩ := J.cell x c e
      rw [z, nI] at ho
      cases ho
    have S3 := inv_suite J3 a
    refine wpAny_handleBy_cons (codeAny_handlers_test ?_) (by intro q; cases q)
    have LT : PySem.W.Looks (model X.prog X.w) h3 (typeOf (.ref a)) cls := fun A Q E s k q => wpAny_typeOf_ref (k _ _ he3) (by rw [hz3.1]; exact q)
    have LM := PySem.W.exm_one (M := model X.prog X.w) (J3.kIn) LT hb1
    have test : ∀ {Q : Value → Shared → Prop} {E : Value → Shared → Prop}, Q c { s' with heap := h3 } → wpAny (model X.prog X.w) (X.A.mark (some (.ref a))) (eval (.Name x np) X.env) Q E { s' with heap := h3 } := fun {Q E} q => by
      obtain ⟨hg, hdbg, hm | ⟨hm, hv, hnn⟩⟩ := hc
      · exact ld_glob (X := X.suite a (X.pn ++ pins)) S3 hg hm q hdbg
      · exact ld_blt (X := X.suite a (X.pn ++ pins)) S3 hg hm hv q hnn hdbg
    refine test (LM.here ?_)
    cases b with
    | true =>
      refine codeAny_handlers_suite_as ?_
      refine HandSPX.lands_againZ fl3 fun h4 fl4 up4 => ?_
      have J4 : Inv X pins σ' H' { s' with heap := h4 } := J.landed nb fl4.1 ((up.trans up3).trans up4) os ag
      obtain ⟨oe4, vs4, he4, hz4, hd4⟩ := fl4.there
      obtain ⟨dx, ed, hgo⟩ := hyes rfl
      subst ed
      have J5 : Inv X pins σ' (upd H' a (XO cls dx a)) { s' with heap := h4 } := inv_track J4 na n0 nL nC nP (xo_ok he4 hz4 hd4)
      have S4 := inv_suite J5 a
      refine store_ok (X := X.suite a (X.pn ++ pins)) (v := .ref a) S4 hN hi hloc rfl (fun s5 S5 => ?_) (.inr hln)
      refine wpAny_mono ((hsu a (X.pn ++ pins)).run [] s5 _ _ _ S5 (hgo a na)) (fun f s6 hsp => ?_) (fun _ _ z => False.elim z)
      have end_ : ∀ {σ6 : L2.St} {H6 : Hp} {Q : Shared → Prop}, Inv (X.suite a (X.pn ++ pins)) [] σ6 H6 s6 → (∀ s7, Inv X pins (σ6.set i none) H6 s7 → Q s7) →
          wpAny (model X.prog X.w) X.A (do bindName X.env n .none; unbindBehindTheSuite X.env n pos') (fun _ s7 => Q s7) X.xe s6 := fun {σ6 H6 Q} S6 hq => gone_ok (inv_unsuite S6 ok) hN hi hln hq
      cases f with
      | next =>
        obtain ⟨σ6, H6, S6, q6⟩ := hsp
        exact end_ S6 fun s7 J7 => ⟨_, _, J7, q6⟩
      | brk =>
        obtain ⟨σ6, H6, S6, q6⟩ := hsp
        exact end_ S6 fun s7 J7 => ⟨_, _, J7, q6⟩
      | cont =>
        obtain ⟨σ6, H6, S6, q6⟩ := hsp
        exact end_ S6 fun s7 J7 => ⟨_, _, J7, q6⟩
      | ret u =>
        obtain ⟨v6, σ6, H6, S6, r6, q6⟩ := hsp
        exact end_ S6 fun s7 J7 => ⟨_, _, _, J7, r6, q6⟩
    | false =>
      show wpAny _ X.A (handleBy (.ref a) X.env []) _ _ _
      refine wpAny_handleBy_nil ?_
      obtain ⟨k1, k2, k3, oe, vs, T, oT, ts', he, hz, hd, h1, hr⟩ := id fl3
      unfold PySem.passOn
      refine wpAny_bind (wpAny_field he hd h1 ?_)
      rw [if_neg (show ¬ ((Value.ref T == Value.none) = true) from by simp)]
      have fin : wpAny (model X.prog X.w) X.A (setFlight (.ref a) X.env.frame) (fun _ s4 => wpAny (model X.prog X.w) X.A (throw (.ref a) : Sem Flow) (SP X pins D) X.xe s4) X.xe { s' with heap := h3 } := by
        rw [hf]
        refine HandSPX.setFlight_upZ fl3 fun h4 hh4 up4 => wpAny_throw (tk _ _ ?_)
        exact ⟨a, B, sI, pins, σ', H', cls, d, rfl, J, nb, (up.trans up3).trans up4, .inr (.inr (by rw [hs]; exact hh4)), na, os, ag, hno rfl⟩
      first
        | exact wpAny_bind (wpAny_pure (wpAny_bind fin))
        | exact wpAny_bind fin
  · cases f with
    | next =>
      obtain ⟨σ', H', J', q⟩ := hsp
      exact wpAny_execs_nil ⟨σ', H', J'.ofTry ok, q⟩
    | brk =>
      obtain ⟨σ', H', J', q⟩ := hsp
      exact ⟨σ', H', J'.ofTry ok, q⟩
    | cont =>
      obtain ⟨σ', H', J', q⟩ := hsp
      exact ⟨σ', H', J'.ofTry ok, q⟩
    | ret u =>
      obtain ⟨v, σ', H', J', r, q⟩ := hsp
      exact ⟨v, σ', H', J'.ofTry ok, r, q⟩
end
end Wk

set_option Elab.async false
set_option linter.all false
set_option maxRecDepth 100000
set_option maxHeartbeats 4000000
/-! WoA: an exception of the text is made; its __init__ asks super() and keeps its parameters. -/
namespace Wk
open PySem PySem.Spec L2
open PyProof.Rows hiding St

theorem mem_of_lookS {α : Type} {m : Str} {f : α} : ∀ {l : List (Str × α)}, l.lookup m = some f → (m, f) ∈ l
  | p :: l, h => by
    obtain ⟨k, v⟩ := p
    rw [List.lookup_cons] at h
    by_cases e : m = k
    · subst e
      rw [beq_self_eq_true] at h
      cases h
      exact List.mem_cons_self
    · rw [beq_eq_false_iff_ne.mpr e] at h
      exact List.mem_cons_of_mem _ (mem_of_lookS h)

/-- an argument of super().__init__: a parameter, a text -/
def supArg (scope : Scope) (ps : List Str) : Expr → Bool
  | .Name x _ => ps.contains x && (match scope.names.lookup x with
    | some .local => true
    | _ => false) && !(x == ("__debug__" : Str))
  | .Constant (.str _) _ _ => true
  | _ => false
/-- one of: self.f = p -/
def supAsg (scope : Scope) (self : Str) (f p : Str) : Stmt → Bool
  | .Assign [.Attribute (.Name x _) g _] (.Name y _) _ => decide (x = self) && decide (g = f) && decide (y = p) && !(y == ("__debug__" : Str)) && (match scope.names.lookup y with
    | some .local => true
    | _ => false)
  | _ => false
def supAsgs (scope : Scope) (self : Str) : List Str → List Str → List Stmt → Bool
  | [], [], [] => true
  | f :: fs, p :: ps, st :: sts => supAsg scope self f p st && supAsgs scope self fs ps sts
  | _, _, _ => false
section
variable {M : Model} {A : Around} {E : Value → Shared → Prop} {s : Shared} {env : PySem.Env} {m : Str → Option Value} {ps : List Str}
theorem ev_local {x : Str} {p : Pos} {v : Value} {Q : Value → Shared → Prop} (hk : env.scope.kind = .function) (hl : (match env.scope.names.lookup x with
    | some .local => true
    | _ => false) = true) (hn : s.heap.Ns env.locals m) (hv : m x = some v) (hd : (x == ("__debug__" : Str)) = false) (h : Q v s) : wpAny M A (eval (.Name x p) env) Q E s := by
  have hl : env.kindOf x = some .local := by
    show env.scope.names.lookup x = _
    split at hl
    · assumption
    · cases hl
  exact wpAny_Name (wpAny_loadName_local hk hl hn hv h) hd
/-- the arguments, one by one: nothing is changed -/
theorem sup_args (hk : env.scope.kind = .function) (hm : ∀ x ∈ ps, (m x).isSome = true) : ∀ {args : List Expr} {pos : Pos} {s : Shared} {Q : List Value → Shared → Prop}, (args.all (supArg env.scope ps)) = true → s.heap.Ns env.locals m →
    (∀ vs t, vs.length = args.length → Q vs { s with toks := t }) → wpAny M A (spliced (backTo pos (starEach args env))) Q E s
  | [], pos, s, Q, _, _, h => Calls.spliced_nil (h [] s.toks rfl)
  | e :: es, pos, s, Q, ha, hn, h => by
    rw [List.all_cons, Bool.and_eq_true] at ha
    have rest : ∀ (v : Value) (t : Tok), wpAny M A (spliced (backTo pos (starEach es env))) (fun vs s₂ => Q (v :: vs) s₂) E { s with toks := t } := fun v t =>
      sup_args hk hm (args := es) (s := { s with toks := t }) ha.2 hn fun vs t2 hl => h (v :: vs) t2 (by rw [List.length_cons, List.length_cons, hl])
    cases e with
    | Name x p =>
      have q : (ps.contains x && (match env.scope.names.lookup x with
        | some .local => true
        | _ => false) && !(x == ("__debug__" : Str))) = true := ha.1
      simp only [Bool.and_eq_true, Bool.not_eq_true'] at q
      obtain ⟨⟨q1, q2⟩, q3⟩ := q
      obtain ⟨v, hv⟩ := Option.isSome_iff_exists.mp (hm x (by simpa using q1))
      exact Calls.spliced_cons (ev_local hk q2 hn hv q3 (rest v s.toks))
    | Constant c k p =>
      cases c with
      | str x => exact Calls.spliced_cons (wpAny_Constant_str (k := k) (pos := p) (rest _ _))
      | _ => cases ha.1
    | _ => cases ha.1
end
section
open PySem.W
variable {prog : Program} {w : World} {A : Around} {h : Heap} {g : Array GenState} {d : Drawn} {t : Tok} {os : OsState} {K : Frag} {C e : Addr}
/-- what the written part says of such a class -/
structure SupC (K : Frag) (C : Addr) : Prop where
  cls : ∃ nm q N bs bm sn sub ab col dd k0 k1 k2 k3 k5, K.lookup C = some (excClassObj nm q C N bs bm true sn sub ab col dd k0 k1 k2 k3 k5 "ValueError.__new__") ∧ PySem.HandSPX.refsVE bm = true ∧
    alongIn K "__init__" (((Value.ref C :: bm).dropWhile (· != .ref C)).drop 1) = some (some (.builtin "ValueError.__init__")) ∧ mroIn K C (.ref C) = some true
  sa : findIn K (.ref C) "__setattr__" = some (some (.builtin "object.__setattr__"))
  subV : subIn K (.ref C) (.type "ValueError") = some true
  exC : subIn K (.ref C) (.type "BaseException") = some true
  tyC : typeIn K (.ref C) = some (.type "type")
  kC : keepIn K (.ref C) = true
  opq : nsIn K cStatics "thirdparty.any" = some none
/-- super().__init__(..) called: the exception is as it was, but for its args -/
theorem sup_call {u t0 : Addr} {rest : List Value} {E : Value → Shared → Prop} {Q : Value → Shared → Prop} (X : K.In h) (T : SupC K C) (he : h.get? e = some (PySem.HandSPX.excO C t0)) (hu : h.get? u = some (kxs_mw "ValueError.__init__" e)) (hz : rest.length ≤ sizeLine)
    (hq : ∀ h' t1, (∀ b o, b ≠ e → h.get? b = some o → h'.get? b = some o) → h'.get? e = some (PySem.HandSPX.excO C t1) → Q .none ⟨h', g, d, t, os⟩) : wpAny (model prog w) A (call (.ref u) rest) Q E ⟨h, g, d, t, os⟩ := by
  obtain ⟨nm, q, N, bs, bm, sn, sub, ab, col, dd, k0, k1, k2, k3, k5, hC, hbm, _⟩ := T.cls
  refine wpAny_call (codeAny_of_tree ?_)
  show wpAny _ A.in1 (callAny (.ref u) ⟨rest, []⟩) _ _ _
  simp only [callAny]
  refine wpAny_bind (wpAny_load hu ?_)
  simp only [kxs_mw, show (Value.type "method-wrapper" == Value.type "method" || Value.type "method-wrapper" == Value.type "builtin_function_or_method" || Value.type "method-wrapper" == Value.type "method-wrapper") = true by decide, if_true]
  refine KFB.if_so (by decide) ?_
  refine wpAny_bind (check_bound_init F.excBase_ValueError.toExcCallFacts (X _ _ hC) he rfl ?_)
  refine wpAny_bind (wpAny_pure (wpAny_pure ?_))
  refine ⟨plainId_quiet F.excBase_ValueError.init.plain _, codeAny_builtin F.excBase_ValueError.initEntry ?_⟩
  refine exc_init_tree (cls := .ref C) (t0 := t0) (dv := none) (c2 := .none) (c3 := .none) (b4 := .bool false) he hz fun h' k e' _ => ?_
  exact hq h' _ k e'
theorem sup_star {scope : Scope} {ps : List Str} : ∀ {args : List Expr}, args.all (supArg scope ps) = true → ∀ x ∈ args, starE x = false
  | a :: as, h, x, hx => by
    rw [List.all_cons, Bool.and_eq_true] at h
    rcases List.mem_cons.mp hx with rfl | hx
    · cases x <;> first | rfl | cases h.1
    · exact sup_star h.2 x hx
theorem sup_form {args : List Expr} {name : Str} {p0 p1 ap p2 : Pos} {env : PySem.Env} (hs : ∀ x ∈ args, starE x = false) (hl : args.length + 1 < 30) (hline : (ap.endLine == p2.line) = true) :
    eval (.Call (.Attribute (.Call (.Name "super" p0) [] [] p1) name ap) args [] p2) env = (do
      let ov ← attributeBase (.Call (.Name "super" p0) [] [] p1) name env (eval (.Call (.Name "super" p0) [] [] p1) env)
      standAt ap.atName
      let (f, first) ← holding [ov] (getMethod ov name (do return (← importBound (.Call (.Name "super" p0) [] [] p1) env).getD true))
      callWith p2 f first (backTo p2 (starEach args env)) []) := by
  have hform : methodCallForm (args.length + ([] : List Keyword).length) (backTo p2 (starEach args env)) (backToKw p2 (keywordEach [] env)) = true := by
    unfold methodCallForm
    rw [star_all hs, kw_all (by simp)]
    have : (if (backToKw p2 (keywordEach [] env)).isEmpty then 0 else 1) ≤ 1 := by split <;> omega
    simp only [Bool.and_eq_true, decide_eq_true_eq, true_and, List.length_nil]
    omega
  have hpos : methodCallPos true (.Call (.Name "super" p0) [] [] p1) env ap p2 = pure p2 := by
    unfold methodCallPos
    rw [hline]
    rfl
  rw [arm_eval_Call]
  unfold methodCall
  rw [hform, hpos]
  rfl
/-- super().__init__(..), the whole statement -/
theorem sup_stmt {body : List Stmt} {q : Str} {scope : Scope} {L fI cda cc : Addr} {self : Str} {ps : List Str} {args : List Expr} {p0 p1 ap p2 p3 : Pos} {fo ccode : Obj} {fd : FuncData} {ar : Arg} {vs : Array Value} {file : Str} {tf : Tok} {t0 : Addr} {m mg mb : Str → Option Value} {E : Value → Shared → Prop} {Q : Flow → Shared → Prop}
    (X : K.In h) (T : SupC K C) (he : h.get? e = some (PySem.HandSPX.excO C t0)) (hf : h.get? fI = some fo) (hfd : fo.data = .func fd) (hp : (fd.params.posonlyargs ++ fd.params.args).head? = some ar) (har : ar.arg = self)
    (hcode : h.get? cda = some ccode) (hcd : ccode.data = .fields vs) (hvs : vs[2]? = some (.str file tf)) (hfile : ((prog.main.file : Str) == file) = true) (htop : (prog.main.scope.names.lookup ("super" : Str)).isSome = false)
    (hcell : h.IsCell cc (some (.ref C))) (hn : h.Ns L m) (hself : m self = some (.ref e)) (hps : ∀ x ∈ ps, (m x).isSome = true) (hg : h.Ns mainGlobals mg) (hms : mg "super" = none) (hb : h.Ns builtinsNs mb) (hmb : mb "super" = some (.type "super"))
    (hk : scope.kind = .function) (hks : scope.names.lookup ("super" : Str) = some .globalImplicit) (hkc : scope.names.lookup ("__class__" : Str) = some .free) (hka : scope.names.lookup self = some .local)
    (ha : args.all (supArg scope ps) = true) (hne : args ≠ []) (hz : args.length + 1 < 30) (hline : (ap.endLine == p2.line) = true) (heC : e ≠ C)
    (hi : interactive (envX q scope L fI (.ref cda) [("__class__", cc)]) = false)
    (hsw : swapsWith (.Call (.Attribute (.Call (.Name "super" p0) [] [] p1) "__init__" ap) args [] p2) none p3.line (envX q scope L fI (.ref cda) [("__class__", cc)]) = pure false)
    (hq : ∀ h' t1 tk, (∀ b o, b ≠ e → h.get? b = some o → h'.get? b = some o) → h'.get? e = some (PySem.HandSPX.excO C t1) → Q .next ⟨h', g, d, tk, os⟩) :
    PySem.wpAt (model prog w) A (.func body (envX q scope L fI (.ref cda) [("__class__", cc)])) (exec (.Expr (.Call (.Attribute (.Call (.Name "super" p0) [] [] p1) "__init__" ap) args [] p2) p3) (envX q scope L fI (.ref cda) [("__class__", cc)])) Q E ⟨h, g, d, t, os⟩ := by
  obtain ⟨nm, q', N, bs, bm, sn, sub, ab, col, dd, k0, k1, k2, k3, k5, hC, hbm, hal, hmro⟩ := T.cls
  have hCo := X _ _ hC
  have hCd : (excClassObj nm q' C N bs bm true sn sub ab col dd k0 k1 k2 k3 k5 "ValueError.__new__").data = .cls { name := nm, bases := bs, mro := .ref C :: bm, ns := N, qualname := q', hasDict := true, slotNames := sn, subclasses := sub, abstract := ab, collection := col, hasDel := false } := by rfl
  have hcl : clsIn K C = some { name := nm, bases := bs, mro := .ref C :: bm, ns := N, qualname := q', hasDict := true, slotNames := sn, subclasses := sub, abstract := ab, collection := col, hasDel := false } := by unfold clsIn; rw [hC] <;> rfl
  refine ks_wpAt_Expr_any (ks_wpAt_MethodCall ?_ (sup_form (sup_star ha) hz hline)) hi hsw
  subst har
  refine ks_wpAt_super_base (env := envX q scope L fI (.ref cda) [("__class__", cc)]) hks hkc (by decide) rfl hf hfd hp rfl hcode hcd hvs hfile htop ?_
  refine ks_loadName_global hk hks (Calls.loadGlobal_builtin (env := envX q scope L fI (.ref cda) [("__class__", cc)]) hg hms hb hmb ⟨rfl, ?_⟩)
  refine wpAny_loadName_free hk hkc rfl hcell ?_
  refine wpAny_loadName_local hk hka hn hself ?_
  refine ks_wpAny_isType_cls hCo hCd ⟨rfl, ?_⟩
  refine ks_wpAny_call_super hCo hCd he rfl (fun c z => by cases z) (looks_mroIn X hmro) fun h1 e1 k1' => ?_
  -- the method-wrapper
  have X1 : K.In h1 := X.keeps k1'
  have he1 := k1' _ _ he
  have hI : Looks (model prog w) h1 (isInstance (.ref e) (.type "ValueError")) true := by
    have LT : Looks (model prog w) h1 (typeOf (.ref e)) (.ref C) := fun A Q E s k z => wpAny_typeOf_ref (k _ _ he1) z
    exact LT.andThen (looks_subIn X1 T.subV)
  refine kxs_getMethod kxs_ValueError e1 (looks_opaque X1 T.opq) (l₀ := Value.ref C :: bm) ?_ rfl X1 hal hI heC (by decide) ?_
  · exact fun A Q E s k z => wpAny_bind ((looks_clsIn X1 hcl) A _ E s k (wpAny_pure z))
  have hmw : (h1.push (kxs_mw "ValueError.__init__" e)).get? h1.objs.size = some (kxs_mw "ValueError.__init__" e) := Heap.get?_push_at rfl rfl
  have k2 : ∀ b o, h.get? b = some o → (h1.push (kxs_mw "ValueError.__init__" e)).get? b = some o := fun b o z => Heap.get?_push_of_some _ (k1' b o z)
  have nn : ∀ {b : Addr} {m : Str → Option Value}, h.Ns b m → (h1.push (kxs_mw "ValueError.__init__" e)).Ns b m := fun {b m} z => z.keeps k2
  -- the call
  cases args with
  | nil => exact absurd rfl hne
  | cons a as =>
    show wpAny (model prog w) A (callWith p2 (.ref h1.objs.size) [] (backTo p2 (starEach (a :: as) _)) []) _ _ _
    have hst : (backTo p2 (starEach (a :: as) (envX q scope L fI (.ref cda) [("__class__", cc)]))).any (·.1) = false := by
      have : ∀ (l : List Expr), (l.all (supArg scope ps)) = true → (backTo p2 (starEach l (envX q scope L fI (.ref cda) [("__class__", cc)]))).any (·.1) = false := by
        intro l
        induction l with
        | nil => intro _; rfl
        | cons x l ih =>
          intro hl
          rw [List.all_cons, Bool.and_eq_true] at hl
          have := ih hl.2
          cases x with
          | Name y p => exact this
          | Constant c k p => exact this
          | _ => cases hl.1
      exact this _ ha
    have hba : backTo p2 (starEach (a :: as) (envX q scope L fI (.ref cda) [("__class__", cc)])) = (false, eval a (envX q scope L fI (.ref cda) [("__class__", cc)])) :: backTo p2 (starEach as (envX q scope L fI (.ref cda) [("__class__", cc)])) := by
      rw [List.all_cons, Bool.and_eq_true] at ha
      cases a with
      | Name y p => rfl
      | Constant c k p => rfl
      | _ => cases ha.1
    refine kxs_callWith (i := "ValueError.__init__") (x := e) hst ?_
    rw [hba]
    refine Calls.evalArgs_plain ?_
    rw [← hba]
    refine sup_args (m := m) hk hps ha (nn hn) fun us tk hl => ⟨hmw, ?_⟩
    refine sup_call (X.keeps k2) T (k2 _ _ he) hmw (by show us.length ≤ _; rw [hl, sizeLine_eq]; omega) fun h' t1 k3 e3 => ?_
    exact hq h' t1 tk (fun b o nb z => k3 b o nb (k2 b o z)) e3
/-! ### self.f = p, one by one -/
/-- the exception at e as it is while its fields are stored: done, the stored ones -/
def MadeX (h0 h : Heap) (e C : Addr) (done : List (Str × Value)) : Prop := (∀ b o, b ≠ e → h0.get? b = some o → h.get? b = some o) ∧
  ((done = [] ∧ ∃ t0, h.get? e = some (PySem.HandSPX.excO C t0)) ∨ ∃ t0 dx mA, h.get? e = some ({ cls := .ref C, dict := some dx, data := .fields #[.ref t0, .none, .none, .none, .bool false, .none] } : Obj) ∧ h0.get? dx = none ∧ dx ≠ e ∧ h.Ns1 dx mA ∧ ∀ f, mA f = done.lookup f)
theorem look_snoc {done : List (Str × Value)} {f y : Str} {u : Value} (h : f ∉ done.map (·.1)) : (done ++ [(f, u)]).lookup y = if y = f then some u else done.lookup y := by
  induction done with
  | nil =>
    show (match y == f with
      | true => some u
      | false => none) = _
    by_cases e : y = f
    · subst e
      rw [beq_self_eq_true, if_pos rfl]
    · rw [beq_eq_false_iff_ne.mpr e, if_neg e]
      rfl
  | cons p done ih =>
    obtain ⟨g, v⟩ := p
    simp only [List.map_cons, List.mem_cons, not_or] at h
    rw [List.cons_append, List.lookup_cons, List.lookup_cons, ih h.2]
    by_cases e : y = g
    · subst e
      rw [beq_self_eq_true]
      dsimp only
      rw [if_neg (Ne.symm h.1)]
    · rw [beq_eq_false_iff_ne.mpr e]
theorem asg_one {h0 : Heap} {scope : Scope} {env : PySem.Env} {L : Addr} {self f p : Str} {st : Stmt} {done : List (Str × Value)} {u : Value} {m : Str → Option Value} {E : Value → Shared → Prop} {Q : Flow → Shared → Prop} (X : K.In h0) (T : SupC K C) (hes : env.scope = scope) (hel : env.locals = L) (hk : scope.kind = .function)
    (hst : supAsg scope self f p st = true) (hn : h.Ns L m) (hLe : L ≠ e) (hLs : h0.get? L ≠ none) (hself : m self = some (.ref e)) (hsl : scope.names.lookup self = some .local) (hsd : (self == ("__debug__" : Str)) = false) (hp : m p = some u) (hno : findIn K (.ref C) f = some none) (hi : K.lookup e = none) (hd : done.length ≤ 900)
    (hfr : f ∉ done.map (·.1)) (M : MadeX h0 h e C done) (hq : ∀ h' tk, MadeX h0 h' e C (done ++ [(f, u)]) → h'.Ns L m → Q .next ⟨h', g, d, tk, os⟩) : wpAny (model prog w) A (exec st env) Q E ⟨h, g, d, t, os⟩ := by
  unfold supAsg at hst
  split at hst
  · rename_i x p1 gg p2 y p3 p4
    simp only [Bool.and_eq_true, decide_eq_true_eq, Bool.not_eq_true'] at hst
    obtain ⟨⟨⟨⟨rfl, rfl⟩, rfl⟩, hyd⟩, hyl⟩ := hst
    subst hes hel
    obtain ⟨nm, q', N, bs, bm, sn, sub, ab, col, dd, k0, k1, k2, k3, k5, hC, hbm, hal, hmro⟩ := T.cls
    have hcl : clsIn K C = some { name := nm, bases := bs, mro := .ref C :: bm, ns := N, qualname := q', hasDict := true, slotNames := sn, subclasses := sub, abstract := ab, collection := col, hasDel := false } := by unfold clsIn; rw [hC] <;> rfl
    obtain ⟨M1, M2⟩ := M
    have KX : K.In h := fun b o z => M1 b o (fun q => by rw [q, hi] at z; cases z) (X b o z)
    refine plainObj_wpAny_Assign_Attribute ?_ (by rfl)
    refine ev_local hk hyl hn hp hyd ?_
    refine ev_local hk (by rw [hsl]) hn hself hsd ?_
    rcases M2 with ⟨rfl, t0, he⟩ | ⟨t0, dx, mA, he, hge, hne, hns, hmA⟩
    · refine set_plain KX (ox := PySem.HandSPX.excO C t0) (od := none) ⟨he, rfl, rfl, trivial⟩ T.sa ?_
      refine PySem.HandSPX.exc_osa KX he hcl (show PySem.HandSPX.refsVE (.ref C :: bm) = true from hbm) rfl hno (fun h' tk' dx k dn dne hx hn' => ?_)
      have fr0 : h0.get? dx = none := by
        cases z : h0.get? dx with
        | none => rfl
        | some o => exact absurd (Nat.lt_of_lt_of_le (Heap.lt_size (M1 dx o dne z)) dn) (Nat.lt_irrefl _)
      refine hq h' tk' ⟨fun b o nb z => k b o nb (M1 b o nb z), .inr ⟨t0, dx, _, hx, fr0, dne, hn', fun z => ?_⟩⟩ ?_
      · rw [List.nil_append]
        show _ = (match z == gg with
          | true => some u
          | false => none)
        by_cases e' : z = gg
        · subst e'
          rw [beq_self_eq_true, if_pos rfl]
        · rw [beq_eq_false_iff_ne.mpr e', if_neg e']
      · obtain ⟨o, es, ep, e1, r⟩ := hn
        exact ⟨o, es, ep, k _ _ hLe e1, r⟩
    · obtain ⟨oD, _, _, hoD, _, _⟩ := id hns
      have hw : Within mA (done.map (·.1)) := fun y hy => by
        rw [hmA] at hy
        cases hl : done.lookup y with
        | none => exact absurd hl hy
        | some v =>
          have := mem_of_lookS hl
          exact List.mem_map_of_mem this
      refine set_plain KX (ox := { cls := .ref C, dict := some dx, data := .fields #[.ref t0, .none, .none, .none, .bool false, .none] }) (od := some oD) ⟨he, rfl, rfl, hoD⟩ T.sa ?_
      refine PySem.OEX.osa_old KX he hns hw (by rw [List.length_map]; omega) hcl (show PySem.HandSPX.refsVE (.ref C :: bm) = true from hbm) rfl hno (fun h' tk' k hn' => ?_)
      refine hq h' tk' ⟨fun b o nb z => k b o (fun q => ?_) (M1 b o nb z), .inr ⟨t0, dx, _, k _ _ (Ne.symm hne) he, hge, hne, hn', fun z => ?_⟩⟩ ?_
      · rw [q, hge] at z
        cases z
      · rw [look_snoc hfr, hmA]
      · obtain ⟨o, es, ep, e1, r⟩ := hn
        exact ⟨o, es, ep, k _ _ (fun q => hLs (q ▸ hge)) e1, r⟩
  · cases hst
/-- all of them, to the end of the body -/
theorem asg_all {h0 : Heap} {scope : Scope} {env : PySem.Env} {L : Addr} {self : Str} {m : Str → Option Value} {E : Value → Shared → Prop} {Q : Flow → Shared → Prop} (X : K.In h0) (T : SupC K C) (hes : env.scope = scope) (hel : env.locals = L) (hk : scope.kind = .function)
    (hLe : L ≠ e) (hLs : h0.get? L ≠ none) (hself : m self = some (.ref e)) (hsl : scope.names.lookup self = some .local) (hsd : (self == ("__debug__" : Str)) = false) (hi : K.lookup e = none) :
    ∀ {fs ps : List Str} {sts : List Stmt} {us : List Value} {done : List (Str × Value)} {h : Heap} {t : Tok}, supAsgs scope self fs ps sts = true → h.Ns L m → us.length = fs.length → (∀ (i : Nat) p u, ps[i]? = some p → us[i]? = some u → m p = some u) → (∀ f ∈ fs, findIn K (.ref C) f = some none) → done.length + fs.length ≤ 900 → (done.map (·.1) ++ fs).Nodup →
      MadeX h0 h e C done → (∀ h' tk, MadeX h0 h' e C (done ++ fs.zip us) → Q .next ⟨h', g, d, tk, os⟩) → wpAny (model prog w) A (execs sts env) Q E ⟨h, g, d, t, os⟩
  | [], [], [], [], done, h, t, _, hn, _, _, _, _, _, M, hq => by
    refine wpAny_execs_nil (hq h t ?_)
    rw [List.zip_nil_left, List.append_nil]
    exact M
  | f :: fs, p :: ps, st :: sts, u :: us, done, h, t, ha, hn, hl, hm, hf, hz, nd, M, hq => by
    simp only [supAsgs, Bool.and_eq_true] at ha
    rw [List.length_cons] at hz
    have fr : f ∉ done.map (·.1) := fun z => by
      rw [List.nodup_append] at nd
      exact nd.2.2 f z f List.mem_cons_self rfl
    refine wpAny_execs_cons (asg_one X T hes hel hk ha.1 hn hLe hLs hself hsl hsd (hm 0 p u rfl rfl) (hf f List.mem_cons_self) hi (by omega) fr M fun h' tk M' hn' => ?_)
    refine asg_all X T hes hel hk hLe hLs hself hsl hsd hi (fs := fs) (ps := ps) (sts := sts) (us := us) (done := done ++ [(f, u)]) ha.2 hn' (by simpa using hl) (fun i p u hp hu => hm (i + 1) p u (by simpa using hp) (by simpa using hu)) (fun f hf' => hf f (List.mem_cons_of_mem _ hf')) (by rw [List.length_append, List.length_singleton]; omega) ?_ M' fun h' tk M => hq h' tk ?_
    · rw [List.map_append, List.append_assoc]
      exact nd
    · rw [List.append_assoc] at M
      exact M
  | [], _ :: _, _, _, _, _, _, ha, _, _, _, _, _, _, _, _ => by simp [supAsgs] at ha
  | _ :: _, [], _, _, _, _, _, ha, _, _, _, _, _, _, _, _ => by simp [supAsgs] at ha
  | [], [], _ :: _, _, _, _, _, ha, _, _, _, _, _, _, _, _ => by simp [supAsgs] at ha
  | _ :: _, _ :: _, [], _, _, _, _, ha, _, _, _, _, _, _, _, _ => by simp [supAsgs] at ha
  | [], [], [], _ :: _, _, _, _, _, _, hl, _, _, _, _, _, _ => by simp at hl
  | _ :: _, _ :: _, _ :: _, [], _, _, _, _, _, hl, _, _, _, _, _, _ => by simp at hl
theorem look_rev {x : Str} {v : Value} : ∀ {l : List (Str × Value)}, (l.map (·.1)).Nodup → (x, v) ∈ l → l.reverse.lookup x = some v := by
  intro l nd hm
  have key : ∀ {l : List (Str × Value)}, (l.map (·.1)).Nodup → (x, v) ∈ l → l.lookup x = some v := by
    intro l
    induction l with
    | nil => intro _ h; cases h
    | cons p l ih =>
      intro nd hm
      obtain ⟨y, u⟩ := p
      simp only [List.map_cons, List.nodup_cons] at nd
      rw [List.lookup_cons]
      rcases List.mem_cons.mp hm with q | q
      · cases q
        rw [beq_self_eq_true]
      · have : x ≠ y := fun z => nd.1 (z ▸ List.mem_map_of_mem (f := (·.1)) q)
        rw [beq_eq_false_iff_ne.mpr this]
        exact ih nd.2 q
  refine key ?_ (List.mem_reverse.mpr hm)
  rw [List.map_reverse]
  exact (List.reverse_perm _).nodup_iff.mpr nd
/-- what the written part says of such an __init__ -/
structure SupF (prog : Program) (K : Frag) (C fI : Addr) (fs : List Str) : Prop where
  few : fs.length ≤ 100 ∧ 1 ≤ fs.length
  ok : ∃ (name q self : Str) (ps : List Str) (params : Arguments) (scope : Scope) (cc cda : Addr) (dV kV doc pm ct oc ccl cl : Value) (an od cdd cld : Option Addr) (osl ccs csl : Array (Option Value)) (vs : Array Value) (file : Str) (tf : Tok) (ar : Arg) (args : List Expr) (p0 p1 ap p2 p3 : Pos) (sts : List Stmt),
    K.lookup fI = some ⟨oc, od, .func (fnX name q params (.Expr (.Call (.Attribute (.Call (.Name "super" p0) [] [] p1) "__init__" ap) args [] p2) p3 :: sts) scope [("__class__", cc)] dV kV doc pm an (.ref cda) ct), osl⟩ ∧ codeIn K (.ref cda) q = true ∧
    K.lookup cda = some ⟨ccl, cdd, .fields vs, ccs⟩ ∧ vs[2]? = some (.str file tf) ∧ ((prog.main.file : Str) == file) = true ∧ (prog.main.scope.names.lookup ("super" : Str)).isSome = false ∧ K.lookup cc = some ⟨cl, cld, .cell (some (.ref C)), csl⟩ ∧
    (params.posonlyargs ++ params.args).head? = some ar ∧ ar.arg = self ∧ scope.kind = .function ∧ scope.isCoroutine = false ∧ scope.isGenerator = false ∧ scope.names.lookup ("super" : Str) = some .globalImplicit ∧ scope.names.lookup ("__class__" : Str) = some .free ∧ scope.names.lookup self = some .local ∧
    (self == ("__debug__" : Str)) = false ∧ (∀ x ∈ scope.names, x.2 ≠ .cell) ∧ (∀ x ∈ self :: ps, scope.names.lookup x = some .local) ∧ (self :: ps).Nodup ∧ args.all (supArg scope ps) = true ∧ args ≠ [] ∧ args.length + 1 < 30 ∧ (ap.endLine == p2.line) = true ∧
    supAsgs scope self fs ps sts = true ∧ fs.Nodup ∧ fs.length ≤ 100 ∧ fs.length = ps.length ∧ 1 ≤ fs.length ∧ (∀ f ∈ fs, findIn K (.ref C) f = some none) ∧
    (params.posonlyargs = [] ∧ params.args.map (·.arg) = self :: ps ∧ params.kwonlyargs = [] ∧ params.vararg = none ∧ params.kwarg = none ∧ dV = .none)
theorem arrI_all {α : Type} {us : List α} : ∀ (r i : Nat), i + r = us.length → arrI us.length us [] [] i r = some (us.drop i)
  | 0, i, h => by
    have : us.drop i = [] := List.drop_eq_nil_of_le (by omega)
    rw [this]
    rfl
  | r + 1, i, h => by
    have hi : i < us.length := by omega
    show (match pick us.length us [] [] i with
      | some v => (arrI us.length us [] [] (i + 1) r).map (v :: ·)
      | none => none) = _
    have : pick us.length us [] [] i = some us[i] := by
      unfold pick
      rw [List.getElem?_eq_getElem hi]
    rw [this, arrI_all r (i + 1) (by omega)]
    show some (us[i] :: us.drop (i + 1)) = _
    rw [List.getElem_cons_drop]
/-- C.__init__(e, ..): the exception has its fields -/
theorem init_run {fs : List Str} {fI t0 : Addr} {us : List Value} {mg mb : Str → Option Value} {R : Result → Shared → Prop} (X : K.In h) (T : SupC K C) (F : SupF prog K C fI fs) (hlim : h.NoLimit) (hg : h.Ns mainGlobals mg) (hms : mg "super" = none) (hb : h.Ns builtinsNs mb) (hmb : mb "super" = some (.type "super"))
    (he : h.get? e = some (PySem.HandSPX.excO C t0)) (hi : K.lookup e = none) (hl : us.length = fs.length) (hroom : A.depth < recursionLimit) (hq : ∀ h' tk, MadeX h h' e C (fs.zip us) → R (.ok (.ret .none)) ⟨h', g, d, tk, os⟩) :
    codeAny (model prog w) A (.call (.ref fI) ⟨.ref e :: us, []⟩) R ⟨h, g, d, t, os⟩ := by
  obtain ⟨name, q, self, ps, params, scope, cc, cda, dV, kV, doc, pm, ct, oc, ccl, cl, an, od, cdd, cld, osl, ccs, csl, vs, file, tf, ar, args, p0, p1, ap, p2, p3, sts, lk, hcd, lcd, hvs, hfile, htop, lcc, hhead, har, hk, hco, hgen, hks, hkc, hka, hsd, hnc, hloc, nd, ha, hne, hz, hline, hsts, ndf, hfz, hfp, hf1, hfn, pa1, pa2, pa3, pa4, pa5, hdV⟩ := F.ok
  have heC : e ≠ C := fun z => by
    obtain ⟨_, _, _, _, _, _, _, _, _, _, _, _, _, _, _, hC, _⟩ := T.cls
    rw [z] at hi
    rw [hi] at hC
    cases hC
  have bind : BindsTo ⟨h, g, d, t, os⟩ (fnX name q params (.Expr (.Call (.Attribute (.Call (.Name "super" p0) [] [] p1) "__init__" ap) args [] p2) p3 :: sts) scope [("__class__", cc)] dV kV doc pm an (.ref cda) ct) ⟨.ref e :: us, []⟩ ((self :: ps).zip (.ref e :: us)) :=
    bind_arr (us := .ref e :: us) (ks := []) (its := []) (r := none) pa1 pa2 pa3 pa4 pa5 nd (by simp; omega) (fun q hq => absurd hq List.not_mem_nil) .nil (Nat.zero_le _) rfl (by
      have := arrI_all (us := Value.ref e :: us) (us.length + 1) 0 (by simp)
      rw [List.drop_zero] at this
      have e2 : (self :: ps).length = (Value.ref e :: us).length := by simp; omega
      rw [e2]
      exact this) (K := K) X (.inl ⟨hdV, rfl⟩)
  refine ks_codeAny_call_defAt hroom (X _ _ lk) rfl hlim (codeRec_of X hcd) rfl bind hnc (fun y hy => hloc y.1 (List.of_mem_zip hy).1) (fun h1 hn k => ?_) hco hgen hk
  show PySem.wpAt (model prog w) _ (.func _ (envX q scope h.objs.size fI (.ref cda) [("__class__", cc)])) (execs _ (envX q scope h.objs.size fI (.ref cda) [("__class__", cc)])) _ _ _
  have X1 : K.In h1 := X.keeps k
  have he1 := k _ _ he
  have ndz : (((self :: ps).zip (Value.ref e :: us)).map (·.1)).Nodup := by
    rw [List.map_fst_zip (by simp; omega)]
    exact nd
  have at_ : ∀ {x v}, (x, v) ∈ (self :: ps).zip (Value.ref e :: us) → ((self :: ps).zip (Value.ref e :: us)).reverse.lookup x = some v := fun z => look_rev ndz z
  have hself := at_ (x := self) (v := .ref e) (by simp)
  have hps : ∀ (i : Nat) p u, ps[i]? = some p → us[i]? = some u → ((self :: ps).zip (Value.ref e :: us)).reverse.lookup p = some u := fun i p u h1 h2 => at_ (by
    rw [List.zip_cons_cons]
    refine List.mem_cons_of_mem _ ?_
    have : (ps.zip us)[i]? = some (p, u) := by
      rw [List.getElem?_zip_eq_some]
      exact ⟨h1, h2⟩
    exact List.mem_of_getElem? this)
  refine ks_wpAt_execs_cons (sup_stmt (m := fun y => ((self :: ps).zip (Value.ref e :: us)).reverse.lookup y) X1 T he1 (k _ _ (X _ _ lk)) rfl hhead har (k _ _ (X _ _ lcd)) rfl hvs hfile htop ⟨_, k _ _ (X _ _ lcc), rfl⟩ hn hself (fun x hx => ?_) (hg.keeps k) hms (hb.keeps k) hmb hk hks hkc hka ha hne hz hline heC ?_ rfl fun h2 t2 tk k2 e2 => ?_)
  · obtain ⟨i, hi', rfl⟩ := List.mem_iff_getElem.mp hx
    have hu : i < us.length := by omega
    show (List.lookup _ _).isSome = true
    rw [hps i _ us[i] (List.getElem?_eq_getElem hi') (List.getElem?_eq_getElem hu)]
    rfl
  · show (scope.kind == .module && _) = false
    rw [hk]
    rfl
  have hLe : h.objs.size ≠ e := fun z => by
    have := Heap.lt_size he
    rw [← z] at this
    exact Nat.lt_irrefl _ this
  have hn2 : h2.Ns h.objs.size fun y => ((self :: ps).zip (Value.ref e :: us)).reverse.lookup y := by
    obtain ⟨o, es, ep, e1, r⟩ := hn
    exact ⟨o, es, ep, k2 _ _ hLe e1, r⟩
  refine wpAt_of_wpAny (asg_all (h0 := h1) (C := C) (us := us) (done := []) X1 T rfl rfl hk hLe (fun z => ?_) hself hka hsd hi hsts hn2 (by omega) hps hfn (by simp; omega) (by simpa using ndf) ⟨k2, .inl ⟨rfl, t2, e2⟩⟩ fun h3 tk3 M => ?_)
  · obtain ⟨o, es, ep, e1, r⟩ := hn
    rw [e1] at z
    cases z
  · obtain ⟨M1, M2⟩ := M
    refine hq h3 tk3 ⟨fun b o nb z => M1 b o nb (k b o z), ?_⟩
    rcases M2 with ⟨z, _⟩ | ⟨t0, dx, mA, a1, a2, a3⟩
    · have : ([] ++ fs.zip us).length = 0 := by rw [z]; rfl
      rw [List.nil_append, List.length_zip] at this
      omega
    · refine .inr ⟨t0, dx, mA, a1, ?_, a3⟩
      cases z : h.get? dx with
      | none => rfl
      | some o =>
        rw [k _ _ z] at a2
        cases a2
end
end Wk

set_option Elab.async false
set_option linter.all false
set_option maxRecDepth 100000
set_option maxHeartbeats 4000000
/-! WoB: C(e, ..) makes such an exception; raise. -/
namespace Wk
open PySem PySem.Spec L2
open PyProof.Rows hiding St

theorem relO_zip {f : Str} : ∀ {fs : List Str} {vs : List V} {us : List Value}, Vals vs us → RelO ((fs.zip vs).lookup f) ((fs.zip us).lookup f)
  | [], _, _, _ => by
    rw [List.zip_nil_left, List.zip_nil_left]
    exact True.intro
  | g :: fs, [], [], .nil => by
    rw [List.zip_nil_right, List.zip_nil_right]
    exact True.intro
  | g :: fs, v :: vs, u :: us, .cons r rr => by
    rw [List.zip_cons_cons, List.zip_cons_cons, List.lookup_cons, List.lookup_cons]
    by_cases e : f = g
    · subst e
      rw [beq_self_eq_true]
      exact r
    · rw [beq_eq_false_iff_ne.mpr e]
      exact relO_zip rr
/-- C(e, ..): a new dict d holds its fields -/
def tSup (C : Addr) (fs : List Str) (ta : TA) : L2.St → Hp → XK → Prop := fun σ H Q => ta σ H fun vs H1 => vs.length = fs.length ∧ ∀ d, H1 d = none → Q (.ref C) (some d) (upd H1 d (.xd (fs.zip vs)))
theorem pmk_sup {X : Cx} {x : Str} {C fI : Addr} {fs : List Str} {e : Expr} {es : List Expr} {ta : TA} {p pos : Pos} (T : SupC X.K C) (iC : PySem.W.findIn X.K (.ref C) "__init__" = some (some (.ref fI))) (tI : PySem.W.typeIn X.K (.ref fI) = some (.type "function")) (FX : SupF X.prog X.K C fI fs)
    (hsup : X.mg "super" = none) (hr : Room 3 X.A) (hg : Gl X x) (hm : X.mg x = some (.ref C)) (ha : PA X (e :: es) ta)
    (hdb : (x == ("__debug__" : Str)) = false) (he : starEach (e :: es) X.env = (false, eval e X.env) :: starEach es X.env) (hpl : (backTo pos (starEach es X.env)).any (·.1) = false) :
    PMk X (.Call (.Name x p) (e :: es) [] pos) (tSup C fs ta) := by
  intro pins s σ H Q I h
  obtain ⟨nm, q, N, bs, bm, sn, sub, ab, col, dd, k0, k1, k2, k3, k5, hC, hbm, _⟩ := T.cls
  refine wpAny_Call_Name_kw (ld_glob I hg hm ?_ hdb)
  refine PySem.W.callWith_K (h₀ := X.base) I.ok.mod.kin T.kC (thn (ha.run pos pins s σ H _ I h) fun us s1 ⟨vs, H1, I1, r1, hz, q1⟩ => ⟨I1.kIn, ?_⟩) he hpl
  show wpAny _ _ (call (.ref C) us) _ _ _
  obtain ⟨hp, g, dr, tk, os⟩ := s1
  have hfz : fs.length ≤ 100 := FX.few.1
  have hlu : us.length = fs.length := by
    rw [← Paired.length r1]
    exact hz
  have hus : us.length ≤ sizeLine := by
    rw [hlu, sizeLine_eq]
    omega
  have hsz : hp.objs.size ≤ hp.objs.size + 1 := Nat.le_succ _
  have kk : ∀ b o, hp.get? b = some o → ((hp.push (PySem.W.kdv_tup us)).push (PySem.HandSPX.excO C hp.objs.size)).get? b = some o := fun b o e => Heap.get?_push_of_some _ (Heap.get?_push_of_some _ e)
  have hget : ((hp.push (PySem.W.kdv_tup us)).push (PySem.HandSPX.excO C hp.objs.size)).get? (hp.objs.size + 1) = some (PySem.HandSPX.excO C hp.objs.size) := by heap_get
  have hKe : X.K.lookup (hp.objs.size + 1) = none := by
    cases z : X.K.lookup (hp.objs.size + 1) with
    | none => rfl
    | some o =>
      have := Heap.lt_size (I1.kIn _ _ z)
      exact absurd (Nat.lt_of_succ_lt this) (Nat.lt_irrefl _)
  obtain ⟨mb, hb1, hb2⟩ := I1.mod.blt
  have up : ∀ b o, X.base.get? b = some o → ((hp.push (PySem.W.kdv_tup us)).push (PySem.HandSPX.excO C hp.objs.size)).get? b = some o := fun b o z => kk b o (I1.bk b o z)
  refine wpAny_call (PySem.HandSPX.call_own PySem.F.excBase_ValueError (fun Y => PySem.HandSPX.refsVE_contains Y bm hbm) (I1.kIn _ _ hC) (PySem.W.looks_findIn I1.kIn iC) (fun self => PySem.W.bind_fn I1.kIn self tI) hus
    (init_run (fI := fI) (X := I1.ok.mod.kin.keeps up) T FX (I1.mod.nolimit.keeps up) (I1.mod.glob.keeps up) hsup (hb1.keeps up) ((hb2 _ (by decide)).trans PyProof.Rows.Boot.«super») hget hKe hlu (hr.make C us []).depth fun h2 tk2 M => ?_))
  obtain ⟨M1, M2⟩ := M
  rcases M2 with ⟨z, _⟩ | ⟨t0, dx, mA, hx, hdx, hdn, hns, hmA⟩
  · have hl1 : 1 ≤ fs.length := FX.few.2
    have : (fs.zip us).length = 0 := by rw [z]; rfl
    rw [List.length_zip] at this
    omega
  have hn : H1 dx = none := I1.hok.gone (by
    cases z : hp.get? dx with
    | none => rfl
    | some o =>
      rw [kk _ _ z] at hdx
      cases hdx)
  obtain ⟨G, g1, g2⟩ := restrict h2 fun b => decide (b ≠ hp.objs.size + 1)
  have gk : ∀ b, b ≠ hp.objs.size + 1 → G.get? b = h2.get? b := fun b hb => g1 b (decide_eq_true hb)
  have ge : G.get? (hp.objs.size + 1) = none := g2 _ (by simp)
  have I2 := I1.laidN (t' := tk2) (a := dx) (o := .xd (fs.zip vs)) (h' := G) (fun b o z => by
    have nb : b ≠ hp.objs.size + 1 := fun q => by
      have := Heap.lt_size z
      rw [q] at this
      exact Nat.lt_irrefl _ (Nat.lt_of_succ_lt this)
    rw [gk b nb]
    exact M1 b o nb (kk b o z)) (by
    cases z : hp.get? dx with
    | none => rfl
    | some o =>
      rw [kk _ _ z] at hdx
      cases hdx) hn ⟨mA, hns.at fun o y => (gk dx hdn).trans y, fun f => by
      rw [hmA]
      exact relO_zip r1⟩
  refine ⟨rfl, hp.objs.size + 1, _, _, ⟨G, g, dr, tk2, os⟩, _, .ref C, some dx, rfl, I2, fun b o z => ?_, ge, hx, ⟨rfl, rfl⟩, rfl, rfl, ?_, rfl, I1.bare, raises_own T.exC T.tyC, q1 dx hn⟩
  · by_cases hb : b = hp.objs.size + 1
    · rw [hb, ge] at z
      cases z
    · exact (gk b hb).symm.trans z
  · rw [upd_ne (Ne.symm hdn)]
    exact I1.hok.fresh hsz
end Wk

set_option Elab.async false
set_option linter.all false
set_option maxRecDepth 100000
set_option maxHeartbeats 1000000
/-! WkK: classes; == and != by an own __eq__; isinstance. -/
namespace Wk
open PySem PySem.Spec L2
open PyProof.Rows hiding St

def tyS : Ty → String
  | .non => "NoneType" | .bl => "bool" | .int => "int" | .str => "str" | .tup => "tuple" | .lst => "list" | .dct => "dict"
/-- what the walk knows of a class -/
structure ClsOk (K : PySem.W.Frag) (Z : Sx) (P : Pg) (c : Nat) (d : CDef) : Prop where
  cls : Cls K (Z.ca c)
  noat : ∀ f ∈ d.flds, NoAttr K (Z.ca c) (Z.nm f)
  mkr : ∀ f, d.init = some f → Mk K (Z.ca c) (Z.fa f)
  meth : ∀ m f, d.meths.lookup m = some f → Meth K (Z.ca c) (Z.nm m) (Z.fa f)
  eqm : ∀ f, d.eqf = some f → PySem.W.findIn K (.ref (Z.ca c)) "__eq__" = some (some (.ref (Z.fa f))) ∧ PySem.W.isFn K (.ref (Z.fa f)) = true ∧ PySem.W.findIn K (.ref (Z.ca c)) "__ne__" = some (some (.builtin "object.__ne__"))
  ha : PySem.W.findIn K (.ref (Z.ca c)) "__class__" = some (some (.builtin "object.__class__"))
  hn : PySem.W.specialIn K (.builtin "object.__class__") "__get__" = some (some (.builtin "getset_descriptor.__get__"))
  ht : PySem.W.takesIn K (.builtin "object.__class__") = some true
  hm : PySem.W.mroIn K (Z.ca c) (.type "object") = some true
  kb : ∀ t, PySem.W.kitOne K (.ref (Z.ca c)) (.type (tyS t)) = some false
  kc : ∀ t, PySem.W.kitOne K (.type (tyS t)) (.ref (Z.ca c)) = some false
  kk : ∀ e d', P.cls[e]? = some d' → PySem.W.kitOne K (.ref (Z.ca e)) (.ref (Z.ca c)) = some (d'.sup.contains c)
/-- what isinstance and the reading of a field ask of an exception class -/
structure ExcK (K : PySem.W.Frag) (C : Addr) : Prop where
  cl : (PySem.W.clsIn K C).isSome = true
  ga : PySem.W.findIn K (.ref C) "__getattribute__" = some (some (.builtin "BaseException.__getattribute__"))
  gg : PySem.W.findIn K (.ref C) "__getattr__" = some none
  sub : PySem.W.subIn K (.ref C) (.type "BaseException") = some true
  hd : PySem.W.hasDictIn K C = true
  ha : PySem.W.findIn K (.ref C) "__class__" = some (some (.builtin "object.__class__"))
  hn : PySem.W.specialIn K (.builtin "object.__class__") "__get__" = some (some (.builtin "getset_descriptor.__get__"))
  ht : PySem.W.takesIn K (.builtin "object.__class__") = some true
  hm : PySem.W.mroIn K C (.type "object") = some true
/-- what the walk knows of an exception class -/
structure XOk (K : PySem.W.Frag) (Z : Sx) (P : Pg) (c : Nat) (d : XDef) : Prop where
  xk : ExcK K (Z.xa c)
  noat : ∀ f ∈ d.flds, PySem.W.findIn K (.ref (Z.xa c)) (Z.nm f) = some none
  kb : ∀ t, PySem.W.kitOne K (.ref (Z.xa c)) (.type (tyS t)) = some false
  kc : ∀ t, PySem.W.kitOne K (.type (tyS t)) (.ref (Z.xa c)) = some false
  kk : ∀ e d', P.exc[e]? = some d' → PySem.W.kitOne K (.ref (Z.xa e)) (.ref (Z.xa c)) = some (d'.sup.contains c)
  ki : ∀ e d', P.cls[e]? = some d' → PySem.W.kitOne K (.ref (Z.ca e)) (.ref (Z.xa c)) = some false ∧ PySem.W.kitOne K (.ref (Z.xa c)) (.ref (Z.ca e)) = some false
  km : ∀ e d', P.exc[e]? = some d' → PySem.W.exmOne K (.ref (Z.xa e)) (.ref (Z.xa c)) = some (d'.sup.contains c)
/-- .. of one that can be raised -/
structure XRs (pg : Program) (K : PySem.W.Frag) (Z : Sx) (c : Nat) (d : XDef) : Prop where
  sc : SupC K (Z.xa c)
  init : ∃ fI, PySem.W.findIn K (.ref (Z.xa c)) "__init__" = some (some (.ref fI)) ∧ PySem.W.typeIn K (.ref fI) = some (.type "function") ∧ SupF pg K (Z.xa c) fI (d.flds.map Z.nm)
/-- the type of data -/
def tyV (Z : Sx) : D → Value
  | .non => .type "NoneType" | .bl _ => .type "bool" | .int _ => .type "int" | .str _ => .type "str" | .tup _ => .type "tuple" | .lst _ => .type "list" | .dct _ => .type "dict" | .ins c _ => .ref (Z.ca c) | .exn c _ => .ref (Z.xa c) | .scr _ => .type "list"
section
variable {K : PySem.W.Frag} {Z : Sx} {P : Pg} {F H : Hp}
/-- the type of a value, an exception too -/
inductive TyY (K : PySem.W.Frag) (H : Hp) : V → Value → Prop
  | old {x : V} {t : Value} : TyX K H x t → TyY K H x t
  | exn {a dx C : Addr} {gs : List (Str × V)} : H a = some (XO (.ref C) dx a) → H dx = some (.xd gs) → ExcK K C → TyY K H (.ref a) (.ref C)
theorem kitY_of {X : Cx} {pins : List (Addr × Obj)} {σ : L2.St} {H : Hp} {s : Shared} {x : V} {u t : Value} (I : Inv X pins σ H s) (rx : RelV x u) (ty : TyY X.K H x t) : ∃ P : Heap → Prop, PySem.W.KitX X.K u t P ∧ P s.heap ∧ u ≠ .builtin "__main__.__loader__#opaque" := by
  cases ty with
  | old b => exact kit_of I rx b
  | @exn a dx C gs e e2 k =>
    cases (show u = Value.ref a from rx)
    obtain ⟨oe, vs, h1, h2, h3⟩ := (I.hok a _ e).1
    obtain ⟨mA, hns, hr⟩ := (show ObjOk X.prog X.w H s.heap dx (.xd gs) from I.hok dx _ e2)
    obtain ⟨od, ho, hl⟩ := lookIn_ns hns
    have J : PySem.W.InstAt s.heap a oe C (some od) := ⟨h1, h2.1, by unfold PySem.W.notCls; rw [h3] <;> rfl, by rw [h2.2]; exact ho⟩
    exact ⟨_, PySem.W.kitx_exc k.cl k.ga k.gg k.sub k.ha k.hn k.ht k.hm, J, fun z => nomatch z⟩
/-- isinstance(x, c), one class -/
def rIsiY (K : PySem.W.Frag) : List V → Hp → VK → Prop := fun xs H Q => ∃ (x c : V) (t u : Value) (b : Bool), xs = [x, c] ∧ ClsV c u ∧ TyY K H x t ∧ PySem.W.kitOne K t u = some b ∧ Q (.bl b) H
def rIsiTY (K : PySem.W.Frag) : List V → Hp → VK → Prop := fun xs H Q => ∃ (x : V) (tp : Addr) (cs : List V) (t : Value) (us : List Value) (b : Bool), xs = [x, .ref tp] ∧ H tp = some (.tup cs) ∧ Paired ClsV cs us ∧ TyY K H x t ∧ PySem.W.kitAny K t us = some b ∧ Q (.bl b) H
theorem call_isiY {X : Cx} : CallR X (.builtin "isinstance") (rIsiY X.K) := by
  intro pins s σ H xs us Q I r h
  obtain ⟨x, c, t, u, b, rfl, k, ty, e, q⟩ := h
  obtain ⟨u1, u2, rfl, r1, r2⟩ := vals2 r
  have e2 := k.eq r2
  subst e2
  obtain ⟨P, Z, p, hx⟩ := kitY_of I r1 ty
  exact PySem.W.kia_one Z I.kIn p e hx fun tk => ⟨.bl b, H, I.tok tk, rfl, q⟩
theorem call_isiTY {X : Cx} : CallR X (.builtin "isinstance") (rIsiTY X.K) := by
  intro pins s σ H xs us Q I r h
  obtain ⟨x, tp, cs, t, ws, b, rfl, hT, k, ty, e, q⟩ := h
  obtain ⟨u1, u2, rfl, r1, r2⟩ := vals2 r
  cases (show u2 = Value.ref tp from r2)
  obtain ⟨P, Z, p, hx⟩ := kitY_of I r1 ty
  obtain ⟨_, its, rv, o, h1, h2, n, h3⟩ := (show ObjOk X.prog X.w H s.heap tp (.tup cs) from I.hok tp _ hT)
  have e3 := ClsV.all k rv
  subst e3
  obtain ⟨oc, od, dt, sl⟩ := o
  simp only at h2 h3
  subst h2 h3
  exact PySem.W.kia_tup Z I.kIn p h1 e hx fun tk => ⟨.bl b, H, I.tok tk, rfl, q⟩
theorem tyX_of0 {d : D} {v : V} (ex : Ex F H) (hc : ∀ c fs, d = .ins c fs → ∃ k, ClsOk K Z P c k) (he : ∀ c fs, d ≠ .exn c fs) (t : Tv K Z F H d v) : TyX K H v (tyV Z d) := by
  cases t with
  | exn h h' r => exact absurd rfl (he _ _)
  | non => exact .base .non
  | bl b => exact .base (.bl b)
  | int i => exact .base (.int i)
  | str s => exact .base (.str s)
  | tup h n r =>
    rcases ex.t h with h | ⟨o, its, n, hk, hc, _⟩
    · rcases h with h | ⟨o, h⟩
      · exact .base (.tup h)
      · exact .fTuple h
    · exact .kTuple hk hc
  | lst h n r => exact .base (.lst h)
  | dct h r => exact .base (.dK (ex _ _ h))
  | ins h h' r =>
    obtain ⟨k, q⟩ := hc _ _ rfl
    exact .base (.ins h q.cls q.ha q.hn q.ht q.hm)
  | scr h n =>
    rcases ex.l h with h | ⟨o, its, n, hk, hc, _⟩
    · rcases h with h | ⟨o, h⟩
      · exact .base (.lst h)
      · exact .base (.frz h)
    · exact .kList hk hc
theorem tyX_of {d : D} {v : V} (ex : Ex F H) (hc : ∀ c fs, d = .ins c fs → ∃ k, ClsOk K Z P c k) (he : ∀ c fs, d = .exn c fs → ∃ k, XOk K Z P c k) (t : Tv K Z F H d v) : TyY K H v (tyV Z d) := by
  by_cases z : ∃ c fs, d = .exn c fs
  · obtain ⟨c, fs, rfl⟩ := z
    cases t with
    | exn h h' r =>
      obtain ⟨k, q⟩ := he _ _ rfl
      exact .exn (ex _ _ h) (ex _ _ h') q.xk
  · exact .old (tyX_of0 ex hc (fun c fs e => z ⟨c, fs, e⟩) t)
theorem notFirst_of {t : Value} {C : Addr} (h : PySem.W.kitOne K t (.ref C) = some false) : PySem.W.notFirst K C t = true := by
  unfold PySem.W.kitOne at h
  split at h
  · cases h
  · unfold PySem.W.kitCls at h
    dsimp only at h
    split at h
    · unfold PySem.W.notFirst
      rw [h]
      simp
    · cases h
end

/-! ### != by an own __eq__ -/
section
open PySem.W
variable {prog : Program} {w : World} {A : Around} {E : Value → Shared → Prop} {s : Shared} {K : Frag} {x C f : Addr} {ox : Obj} {od : Option Obj} {b tb : Value}
theorem call_objNe {Q : Value → Shared → Prop} (hu : A.units + 1 < cLine) (X : K.In s.heap) (I : InstAt s.heap x ox C od) (hs : findIn K (.ref C) "__eq__" = some (some (.ref f))) (hf : isFn K (.ref f) = true) (hm : mroIn K C (.type "object") = some true)
    (h : wpAny (model prog w) A.in1 (call (.ref f) [.ref x, b]) (fun v s' => ∃ k, v = .bool k ∧ Q (.bool (!k)) s') E s) : wpAny (model prog w) A (call (.builtin "object.__ne__") [.ref x, b]) Q E s := by
  refine wpAny_call (codeAny_call_builtin F.cmp_object.ne.plain F.cmpEntry_ne ?_)
  have hk := F.cmpKind_ne
  have hs2 := F.cmpSplit_ne
  have ha := F.cmpArgs_ne (.ref x) b
  have body : wpAny (model prog w) A.in1 (Builtin.«object.__ne__» ⟨[.ref x, b], []⟩) (fun fin s' => match fin with
      | .done f => (fun r s' => match r with | .ok (.ret v) => Q v s' | .ok _ => False | .error e => E e s' : Result → Shared → Prop) (.ok f) s'
      | .again c' => c'.quiet = true ∧ codeAny (model prog w) A c' (fun r s' => match r with | .ok (.ret v) => Q v s' | .ok _ => False | .error e => E e s') s') E s := by
    unfold Builtin.«object.__ne__»
    show wpAny _ _ (cRoomFor "comparison" [.ref x, b] >>= _) _ _ _
    refine wpAny_bind (wpAny_cRoomFor (by exact hu) ?_)
    refine wpAny_bind (ifBound_K X I hs hf (wpAny_mono h (fun v s' q => ?_) fun _ _ e => e))
    obtain ⟨k, rfl, q⟩ := q
    show wpAny _ _ (truthy (.bool k) >>= _) _ _ _
    exact wpAny_bind (wpAny_truthy_bool (wpAny_pure q))
  simp only [checkBuiltinCall, hk, hs2]
  refine wpAny_bind (wpAny_bind ?_)
  refine I.type.here ((looks_mroIn X hm).here ?_)
  rw [if_neg (show ¬ ((!true) = true) by decide)]
  cases hsig : Manifest.signature? "object.__ne__" with
  | none => exact wpAny_pure body
  | some sig =>
    simp only [argsOk, hsig] at ha
    have h2 : Bind.checkArgs "object.__ne__" sig ⟨[.ref x, b], []⟩ = pure () := ha
    show wpAny _ _ (Bind.checkArgs "object.__ne__" sig ⟨[.ref x, b], []⟩) _ _ _
    rw [h2]
    exact wpAny_pure body
theorem ne_own {Q : Value → Shared → Prop} (hu : A.units + 1 < cLine) (X : K.In s.heap) (I : InstAt s.heap x ox C od) (hb : Looks (model prog w) s.heap (typeOf b) tb) (hn : notFirst K C tb = true)
    (hne : findIn K (.ref C) "__ne__" = some (some (.builtin "object.__ne__"))) (hs : findIn K (.ref C) "__eq__" = some (some (.ref f))) (hf : isFn K (.ref f) = true) (hm : mroIn K C (.type "object") = some true)
    (h : wpAny (model prog w) A.in1 (call (.ref f) [.ref x, b]) (fun v s' => ∃ k, v = .bool k ∧ Q (.bool (!k)) s') E s) : wpAny (model prog w) A (richCompare .NotEq (.ref x) b) Q E s := by
  have one : wpAny (model prog w) A (tryCompare (.ref x) (cmpInfo .NotEq).2.1 b) (fun r s' => ∃ v, r = some v ∧ Q v s') E s := by
    have fin : wpAny (model prog w) A (call (.builtin "object.__ne__") ([.ref x] ++ [b]) >>= fun v => pure (some v)) (fun r s' => wpAny (model prog w) A (match r with
        | some Value.notImplemented => pure none
        | none => pure none
        | some u => pure (some u)) (fun r s' => ∃ v, r = some v ∧ Q v s') E s') E s :=
      wpAny_bind (wpAny_mono (call_objNe (Q := fun v s' => ∃ k, v = .bool k ∧ Q (.bool k) s') hu X I hs hf hm (wpAny_mono h (fun v s' ⟨k, e, q⟩ => ⟨k, e, !k, rfl, q⟩) fun _ _ e => e)) (fun v s' ⟨k, e, q⟩ => wpAny_pure (by
        subst e
        exact wpAny_pure ⟨_, rfl, q⟩)) fun _ _ e => e)
    unfold tryCompare
    refine wpAny_bind ?_
    simp only [callSpecialIfBound?, bindSpecialIfBound?]
    refine wpAny_holding (wpAny_bind (wpAny_bind (wpAny_bind (I.type.here ((looks_findIn X hne).here ?_)))))
    refine wpAny_bind (wpAny_askSetting (wpAny_ite ?_))
    split
    · refine wpAny_bind ?_
      rw [F.cmp_object.ne.bind]
      exact wpAny_pure (wpAny_pure fin)
    · refine wpAny_tryCatch (wpAny_bind ?_)
      rw [F.cmp_object.ne.bind]
      exact wpAny_pure (wpAny_pure fin)
  unfold richCompare
  simp only [oneThing_ref]
  refine wpAny_holding (wpAny_bind (wpAny_cRoomFor (by omega) ?_))
  refine wpAny_bind (I.type.here (wpAny_bind (hb.here ?_)))
  by_cases q : (Value.ref C != tb) = true
  · rw [if_pos q]
    have e : subIn K tb (.ref C) = some false := by
      rcases Bool.or_eq_true_iff.mp hn with e | e
      · rw [beq_iff_eq.mp e] at q
        simp at q
      · exact beq_iff_eq.mp e
    refine wpAny_bind ((looks_subIn X e).here ?_)
    rw [if_neg Bool.false_ne_true]
    exact wpAny_bind (wpAny_mono one (fun r s' ⟨v, e, q⟩ => by
      subst e
      exact wpAny_pure q) fun _ _ e => e)
  · rw [if_neg q]
    refine wpAny_bind (wpAny_pure ?_)
    rw [if_neg Bool.false_ne_true]
    exact wpAny_bind (wpAny_mono one (fun r s' ⟨v, e, q⟩ => by
      subst e
      exact wpAny_pure q) fun _ _ e => e)
end

/-! ### what a text's names are -/
inductive Gk where
  | fn (f : Nat) | cls (c : Nat) | con (j : Nat) | exc (c : Nat)
structure Tx where
  P : Pg
  /-- the module's names -/
  gl : List (Str × Gk)
  /-- fields, methods, by number -/
  nms : List Str
  /-- the functions' parameters -/
  ps : List (List Str)
  /-- names of built-ins that the module leaves as they are -/
  bl : List Str
/-- a def that hears what it is asked to ask: c, what it makes of the answer -/
def HearsG (PP : Pg) (P : Program) (w : World) (K : PySem.W.Frag) (mg : Str → Option Value) (base : Heap) (k : Nat) (Z : Sx) (fa : Addr) (c : List Vl → Store → Res Vl) : Prop :=
  ∃ (name qual a : Str) (params : Arguments) (body : List Stmt) (scope : Scope) (dV kV doc pm cdv ct oc : Value) (an od : Option Addr) (osl : Array (Option Value)) (N : List Str),
    K.lookup fa = some ⟨oc, od, .func (PySem.W.fnOf name qual params body scope dV kV doc pm an cdv ct), osl⟩ ∧ PySem.W.codeIn K cdv qual = true ∧ FnScope N [a] scope ∧ N[0]? = some a ∧ Vis scope a ∧ (a == ("__debug__" : Str)) = false ∧ (a == ("__classdict__" : Str)) = false ∧
      PySem.W.keepIn K (.ref fa) = true ∧ (∀ (s : Shared) (u : Value), K.In s.heap → BindsTo s (PySem.W.fnOf name qual params body scope dV kV doc pm an cdv ct) ⟨[u], []⟩ ([a].zip [u])) ∧
      ∀ (A : Around) (outer : List PySem.Env) (s : Shared) (H : Hp) (E : XK) (Q : VK) (f c' : Addr) (q : Str) (tl : XK → Hp → VK → Prop) (W : Wd) (S : Store) (r : Res Vl), Room k A → A.guards = some [] → Env0 P w K mg base A outer s H →
        (∀ (W' : WX) (pn : List (Addr × Obj)) (xe : Value → Shared → Prop) (E' : XK) (p1 p2 : Pos), Takes ((cxOf (L2.CX P w) P w K mg base N qual scope fa cdv A outer s H E).tr pn xe) W' →
          PE ((cxOf (L2.CX P w) P w K mg base N qual scope fa cdv A outer s H E).tr pn xe) (.Call (.Name a p1) [] [] p2) (fun σZ HZ Q' => σZ[0]? = some (some (.ref f)) ∧ HZ c' = some (LamX.CodeO c' q) ∧ (∀ cls d H', E' cls d H' → W' cls d σZ H') ∧ tl E' HZ Q')) →
        H c' = some (LamX.CodeO c' q) → Sto K Z W S H → (∀ (E' : XK) (HZ : Hp) (Q' : VK), Sto K Z W S HZ → Po K Z (fun cls d _ H => E' cls d H) (Rv K Z) W [] Q' r → tl E' HZ Q') →
        Po K Z (fun cls d _ H => E cls d H) (Rv K Z) W [] Q (hearM PP c r) →
        ∃ t, PSs (cxOf (L2.CX P w) P w K mg base N qual scope fa cdv A outer s H E) body t ∧ t { nx := fun _ H' => Q .non H', rt := Q } (L2.start N [.ref f]) H
/-- what is known of the text wherever it runs -/
structure Gd (T : Tx) (Z : Sx) (cl : Cl) (k : Nat) (pg : Program) (w : World) (K : PySem.W.Frag) (mg : Str → Option Value) (base : Heap) (A : Around) : Prop where
  room : Room (k + 3) A
  gs : A.guards = some []
  inj : ∀ a b, Z.nm a = Z.nm b → a = b
  nms : ∀ (i : Nat) n, T.nms[i]? = some n → Z.nm i = n
  ps : ∀ (f : Nat) l, T.ps[f]? = some l → Z.ps f = l
  fn : ∀ (f : Nat) d, T.P.fns[f]? = some d → ∃ fd, FnS K Z d (Z.fa f) fd (Z.ps f) ∧ FnG pg w K mg base k (Z.fa f) fd (Z.ps f) (spI K Z d.pars (cl f none))
  hear : ∀ (f : Nat) d, T.P.fns[f]? = some d → d.star = true → HearsG T.P pg w K mg base k Z (Z.fa f) (cl f none)
  cls : ∀ (c : Nat) d, T.P.cls[c]? = some d → ClsOk K Z T.P c d
  exc : ∀ (c : Nat) d, T.P.exc[c]? = some d → XOk K Z T.P c d
  sup : ∀ (c : Nat) d, T.P.exc[c]? = some d → d.flds ≠ [] → XRs pg K Z c d
  eq2 : ∀ (c : Nat) d f, T.P.cls[c]? = some d → d.eqf = some f → ∃ e, T.P.fns[f]? = some e ∧ e.pars = 2
  gf : ∀ x f, T.gl.lookup x = some (.fn f) → mg x = some (.ref (Z.fa f))
  gc : ∀ x c, T.gl.lookup x = some (.cls c) → mg x = some (.ref (Z.ca c))
  gx : ∀ x c, T.gl.lookup x = some (.exc c) → mg x = some (.ref (Z.xa c))
  gk : ∀ x j, T.gl.lookup x = some (.con j) → ∃ d v u, T.P.cons[j]? = some d ∧ mg x = some u ∧ RelV v u ∧ ∀ F, Rl K Z F d v
  bl : ∀ x ∈ T.bl, mg x = none
/-- an operation on values in a state -/
def OpW (X : Cx) (f : Value → Value → Sem Value) (r : L2.St → R2) : Prop :=
  ∀ (pins : List (Addr × Obj)) (s : Shared) (σ : L2.St) (H : Hp) (x y : V) (v u : Value) (Q : VK), Inv X pins σ H s → RelV x v → RelV y u → r σ x y H Q → wpAny (model X.prog X.w) X.A (f v u) (EP X pins σ Q) X.xe s
def rCmpM (K : PySem.W.Frag) (Z : Sx) (E : WX) (P : Pg) (cl : Cl) (o : Co) : L2.St → R2 := fun σ x y H Q => ∃ W S a b, Sto K Z W S H ∧ Rv K Z W a x ∧ Rv K Z W b y ∧ Po K Z E (fun _ (k : Bool) v => v = V.bl k) W σ Q (cmpM P cl o a b S)
theorem ownEq_some {P : Pg} {o : Co} {d : D} {f : Nat} (h : ownEq P o d = some f) : (o = .eq ∨ o = .ne) ∧ ∃ c fs k, d = .ins c fs ∧ P.cls[c]? = some k ∧ k.eqf = some f := by
  unfold ownEq at h
  split at h
  · obtain ⟨k, h1, h2⟩ := Option.bind_eq_some_iff.mp h
    exact ⟨.inl rfl, _, _, k, rfl, h1, h2⟩
  · obtain ⟨k, h1, h2⟩ := Option.bind_eq_some_iff.mp h
    exact ⟨.inr rfl, _, _, k, rfl, h1, h2⟩
  · cases h
theorem below_first {K : PySem.W.Frag} {Z : Sx} {P : Pg} {c : Nat} {fs : List (Nat × D)} {b : D} {k : CDef} (ck : ClsOk K Z P c k) (h : below P (.ins c fs) b = false) : PySem.W.notFirst K (Z.ca c) (tyV Z b) = true := by
  cases b with
  | ins e gs =>
    unfold below at h
    dsimp only at h
    by_cases q : c = e
    · subst q
      show PySem.W.notFirst K (Z.ca c) (.ref (Z.ca c)) = true
      unfold PySem.W.notFirst
      simp
    · cases hk : P.cls[e]? with
      | none =>
        rw [hk] at h
        simp [q] at h
      | some d =>
        rw [hk] at h
        have h : d.sup.contains c = false := by simpa [q] using h
        refine notFirst_of ?_
        have := ck.kk e d hk
        rw [h] at this
        exact this
  | non => exact notFirst_of (ck.kc .non)
  | bl _ => exact notFirst_of (ck.kc .bl)
  | int _ => exact notFirst_of (ck.kc .int)
  | str _ => exact notFirst_of (ck.kc .str)
  | tup _ => exact notFirst_of (ck.kc .tup)
  | lst _ => exact notFirst_of (ck.kc .lst)
  | dct _ => exact notFirst_of (ck.kc .dct)
  | exn e gs => simp [below] at h
  | scr _ => exact notFirst_of (ck.kc .lst)
theorem below_cls {P : Pg} {c e : Nat} {fs gs : List (Nat × D)} {k : CDef} (hk : P.cls[c]? = some k) (h : below P (.ins c fs) (.ins e gs) = false) : ∃ d, P.cls[e]? = some d := by
  unfold below at h
  dsimp only at h
  by_cases q : c = e
  · exact ⟨k, q ▸ hk⟩
  · cases h1 : P.cls[e]? with
    | none =>
      rw [h1] at h
      simp [q] at h
    | some d => exact ⟨d, rfl⟩
theorem argsOf2 {dfl : List D} {a b : Vl} : argsOf 2 dfl [a, b] [] = some [a, b] := rfl
section
variable {X : Cx} {Z : Sx} {T : Tx} {cl : Cl} {k : Nat} {E : WX}
theorem cmpM_ok (G : Gd T Z cl k X.prog X.w X.K X.mg X.base X.A) (tk : Takes X E) (o : Co) : OpW X (compareOp (coS o)) (rCmpM X.K Z E T.P cl o) := by
  intro pins s σ H x y v u Q I rx ry h
  obtain ⟨W, S, a, b, st, ra, rb, h⟩ := h
  have hun := G.room.un
  unfold cmpM at h
  cases ha : vw S a with
  | none =>
    rw [ha] at h
    exact h.elim
  | some a' =>
    cases hb : vw S b with
    | none =>
      rw [ha, hb] at h
      exact h.elim
    | some b' =>
      rw [ha, hb] at h
      dsimp only at h
      have ta := st.tv ra ha
      have tb := st.tv rb hb
      cases ho : ownEq T.P o a' with
      | none =>
        rw [ho] at h
        obtain ⟨r, e, q⟩ := ofO_po h
        exact cmp_data o (by omega) pins s σ H x y v u Q I rx ry ⟨W, S, a', b', r, st, ta, tb, e, q W _ H (Wd.le.refl W) st rfl⟩
      | some f =>
        rw [ho] at h
        dsimp only at h
        obtain ⟨ho', c, fs, kd, rfl, hc, hf⟩ := ownEq_some ho
        cases hbl : below T.P (.ins c fs) b' with
        | true =>
          rw [hbl] at h
          exact h.elim
        | false =>
          rw [hbl] at h
          rw [if_neg Bool.false_ne_true] at h
          have ck := G.cls c kd hc
          have nf := below_first ck hbl
          obtain ⟨e1, e2, e3⟩ := ck.eqm f hf
          obtain ⟨fd0, hfd, hp2⟩ := G.eq2 c kd f hc hf
          obtain ⟨fd, FS, FG⟩ := G.fn f fd0 hfd
          have tyb : TyX X.K H y (tyV Z b') := tyX_of0 (P := T.P) st.ex (fun e gs q => by
            subst q
            obtain ⟨d, hd⟩ := below_cls hc hbl
            exact ⟨d, G.cls e d hd⟩) (fun e gs q => by
            subst q
            simp [below] at hbl) tb
          obtain ⟨Pp, KX, hP, _⟩ := kit_of I ry tyb
          have lb := KX.ty (model X.prog X.w) s.heap I.kIn hP
          obtain ⟨fr, hF⟩ := I.fr
          cases ta with
          | ins hH hO rr =>
          rename_i ad dx gs
          cases (show v = Value.ref ad from rx)
          obtain ⟨mA, J, _⟩ := ins_get I.hok hH
          obtain ⟨od, J, _⟩ := J.look
          have po : Po X.K Z E (Rv X.K Z) W σ (fun z H' => ∃ q, z = V.bl q ∧ Q (.bl (if o = .ne then !q else q)) H') (cl f none [a, b] S) := by
            cases hr : cl f none [a, b] S with
            | bad =>
              rw [hr] at h
              exact h
            | exc e S1 =>
              rw [hr] at h
              exact h
            | ok r S1 =>
              rw [hr] at h
              intro W1 z H1 l1 st1 rz
              dsimp only [Res.bind] at h
              split at h
              · rename_i q
                cases (show Rl X.K Z W1.F (.bl q) z from rz)
                exact ⟨q, rfl, h W1 _ H1 l1 st1 rfl⟩
              · exact h.elim
          have call (A' : Around) (hA : A'.frames = X.A.frames) (hr : Room k A') (hg : A'.guards = some []) : wpAny (model X.prog X.w) A' (call (.ref (Z.fa f)) [.ref ad, u]) (EP X pins σ fun z H' => ∃ q, z = V.bl q ∧ Q (.bl (if o = .ne then !q else q)) H') X.xe s :=
            run_g (us := [.ref ad, u]) (ws := []) (vs := [.ref ad, y]) (zs := []) (ms := [a, b]) (ns := []) (names := []) (ls := [a, b]) (c := cl f none) tk FG FS hA hr hg I (.cons rx (.cons ry .nil)) .nil st (.cons ra (.cons rb .nil)) .nil
              (by rw [hp2]; exact argsOf2) (by rw [hp2]; exact Nat.le_refl _) (fun q hq => absurd hq (by simp)) (by simp) rfl po
          rcases ho' with rfl | rfl
          · show wpAny _ _ (richCompare .Eq _ _) _ _ _
            refine PySem.W.cmp_K (op := .Eq) (by omega) hF I.ok.mod.kin J lb nf e1 e2 ?_
            refine wpAny_mono (call X.A rfl (G.room.mono (Nat.le_add_right k 3)) G.gs) (fun r s' hr => ?_) fun _ _ e => e
            obtain ⟨z, H', I', rz, q, rfl, q2⟩ := hr
            cases rz
            exact ⟨.bl q, H', I', rfl, q2⟩
          · show wpAny _ _ (richCompare .NotEq _ _) _ _ _
            refine ne_own (by omega) I.kIn J lb nf e3 e1 e2 ck.hm ?_
            refine wpAny_mono (call X.A.in1 rfl ⟨G.room.hd, by have := G.room.dp; show X.A.depth + 3 * k + 5 < _; omega, by show X.A.units + 1 + 16 * k + 200 < _; omega⟩ G.gs) (fun r s' hr => ?_) fun _ _ e => e
            obtain ⟨z, H', I', rz, q, rfl, q2⟩ := hr
            cases rz
            exact ⟨q, rfl, .bl (!q), H', I', rfl, q2⟩
end
end Wk

set_option Elab.async false
set_option linter.all false
set_option maxRecDepth 100000
set_option maxHeartbeats 1000000
/-! WkL: rules of expressions by what they compute. -/
namespace Wk
open PySem PySem.Spec L2
open PyProof.Rows hiding St

abbrev Mv := Env → Store → Res Vl
abbrev Mt := Env → Store → Res Bool
abbrev Ml := Env → Store → Res (List Vl)
/-- a list of data read -/
def rdD (K : PySem.W.Frag) (Z : Sx) (E : WX) (m : Env → Store → Res (List D)) : TA := fun σ H Q => ∃ W ρ S, EnvR K Z W ρ σ ∧ Sto K Z W S H ∧ Po K Z E (fun W xs vs => RlL K Z W.F xs vs) W σ Q (m ρ S)
section
variable {K : PySem.W.Frag} {Z : Sx} {E : WX} {P : Pg} {σ : L2.St} {H : Hp} {W : Wd} {S : Store}
theorem rd_var {i : Nat} {Q : VK} (h : rdE K Z E (fun ρ S => match ρ[i]? with | some (some v) => .ok v S | _ => .bad) σ H Q) : tVar i σ H Q := by
  obtain ⟨W, ρ, S, er, st, h⟩ := h
  dsimp only at h
  split at h
  · rename_i v e
    obtain ⟨u, h1, h2⟩ := er.2 i v e
    exact ⟨u, h1, h W u H (Wd.le.refl _) st h2⟩
  · exact h.elim
theorem rd_cst {x : D} {v : V} {Q : VK} (r : ∀ F, Rl K Z F x v) (h : rdE K Z E (fun _ S => .ok (.d x) S) σ H Q) : tC v σ H Q := by
  obtain ⟨W, ρ, S, er, st, h⟩ := h
  exact h W v H (Wd.le.refl _) st (r W.F)
/-- one step, then the rest -/
theorem rd_one {α β γ δ : Type} {R : Wd → α → β → Prop} {R' : Wd → γ → δ → Prop} {Q : δ → Hp → Prop} {Q' : β → Hp → Prop} {ρ : Env} {r : Res α} {k : α → Store → Res γ} (er : EnvR K Z W ρ σ) (h : Po K Z E R' W σ Q (r.bind k))
    (i : ∀ b H1 W1 a S1, W.le W1 → EnvR K Z W1 ρ σ → Sto K Z W1 S1 H1 → R W1 a b → Po K Z E R' W1 σ Q (k a S1) → Q' b H1) : Po K Z E R W σ Q' r :=
  Po.imp (Po.bind h) fun b H1 ⟨W1, a, S1, l, st, ra, q⟩ => i b H1 W1 a S1 l (er.mono l) st ra q
theorem vw2_po {α : Type} {β : Type} {R : Wd → α → β → Prop} {Q : β → Hp → Prop} {x y : Vl} {k : D → D → Res α} (h : Po K Z E R W σ Q (match vw S x, vw S y with
    | some x, some y => k x y
    | _, _ => .bad)) : ∃ a b, vw S x = some a ∧ vw S y = some b ∧ Po K Z E R W σ Q (k a b) := by
  split at h
  · rename_i a b h1 h2
    exact ⟨a, b, h1, h2, h⟩
  · exact h.elim
theorem vw1_po {α : Type} {β : Type} {R : Wd → α → β → Prop} {Q : β → Hp → Prop} {x : Vl} {k : D → Res α} (h : Po K Z E R W σ Q (match vw S x with
    | some x => k x
    | none => .bad)) : ∃ a, vw S x = some a ∧ Po K Z E R W σ Q (k a) := by
  split at h
  · rename_i a h1
    exact ⟨a, h1, h⟩
  · exact h.elim
/-- an end that hands out data -/
theorem gv_of {d : D} {Q : VK} (h : Po K Z E (Rv K Z) W σ Q (.ok (.d d) S)) : Gv K Z W S d Q := fun W' u H' l st r => h W' u H' l st r
theorem ofO_gv {o : Option D} {Q : VK} (h : Po K Z E (Rv K Z) W σ Q ((ofO o S).bind fun z S => .ok (.d z) S)) : ∃ d, o = some d ∧ Gv K Z W S d Q := by
  cases o with
  | none => exact h.elim
  | some d => exact ⟨d, rfl, gv_of h⟩
theorem rd_bin {o : Op} {ma mb : Mv} {Q : VK} (h : rdE K Z E (fun ρ S => (ma ρ S).bind fun x S => (mb ρ S).bind fun y S => (match vw S x, vw S y with
    | some x, some y => (ofO (binop o x y) S).bind fun z S => .ok (.d z) S
    | _, _ => .bad)) σ H Q) : tOp (rData K Z (binop o)) (rdE K Z E ma) (rdE K Z E mb) σ H Q := by
  obtain ⟨W, ρ, S, er, st, h⟩ := h
  refine ⟨W, ρ, S, er, st, rd_one er h fun x H1 W1 a S1 l1 er1 st1 ra h1 => ⟨W1, ρ, S1, er1, st1, rd_one er1 h1 fun y H2 W2 b S2 l2 er2 st2 rb h2 => ?_⟩⟩
  obtain ⟨a', b', e1, e2, q⟩ := vw2_po h2
  obtain ⟨d, e, g⟩ := ofO_gv q
  exact ⟨W2, S2, a', b', d, st2, st2.tv (ra.mono l2) e1, st2.tv rb e2, e, g⟩
theorem rd_ix {ma mb : Mv} {Q : VK} (h : rdE K Z E (fun ρ S => (ma ρ S).bind fun x S => (mb ρ S).bind fun y S => (match vw S x, vw S y with
    | some x, some y => (ofO (ixop x y) S).bind fun z S => .ok (.d z) S
    | _, _ => .bad)) σ H Q) : tOp (rIxD K Z) (rdE K Z E ma) (rdE K Z E mb) σ H Q := by
  obtain ⟨W, ρ, S, er, st, h⟩ := h
  refine ⟨W, ρ, S, er, st, rd_one er h fun x H1 W1 a S1 l1 er1 st1 ra h1 => ⟨W1, ρ, S1, er1, st1, rd_one er1 h1 fun y H2 W2 b S2 l2 er2 st2 rb h2 => ?_⟩⟩
  obtain ⟨a', b', e1, e2, q⟩ := vw2_po h2
  obtain ⟨d, e, g⟩ := ofO_gv q
  exact ⟨W2, S2, a', b', d, st2, st2.tv (ra.mono l2) e1, st2.tv rb e2, e, g⟩
theorem rd_neg {ma : Mv} {Q : VK} (h : rdE K Z E (fun ρ S => (ma ρ S).bind fun x S => (match x with
    | .d (.int i) => .ok (.d (.int (-i))) S
    | _ => .bad)) σ H Q) : tUn (rU fun i => .int (-i)) (rdE K Z E ma) σ H Q := by
  obtain ⟨W, ρ, S, er, st, h⟩ := h
  refine ⟨W, ρ, S, er, st, rd_one er h fun x H1 W1 a S1 l1 er1 st1 ra h1 => ?_⟩
  split at h1
  · rename_i i
    cases (show Rl K Z W1.F (.int i) x from ra)
    exact ⟨i, rfl, h1 W1 _ H1 (Wd.le.refl _) st1 (.int _)⟩
  · exact h1.elim
/-! truth -/
theorem tru_data {d : D} {u : V} {k : Bool} (ex : Ex W.F H) (t : Tv K Z W.F H d u) (e : truth P d = some k) : TruV K u H k := by
  cases t with
  | non =>
    cases e
    rfl
  | bl b =>
    cases e
    rfl
  | int i =>
    cases e
    rfl
  | str x =>
    simp only [truth] at e
    split at e
    · rename_i hz
      cases e
      refine ⟨hz, ?_⟩
      rw [bne, bne]
      congr 1
      rw [Bool.eq_iff_iff]
      simp
    · cases e
  | tup h n r =>
    cases e
    exact .inr (.inl ⟨_, ex.t h, by cases r <;> rfl⟩)
  | lst h n r =>
    cases e
    exact .inl ⟨_, SqL.of h, by cases r <;> rfl⟩
  | dct h r =>
    cases e
    exact .inr (.inr ⟨_, ex _ _ h, by cases r <;> rfl⟩)
  | ins _ _ _ => cases e
  | exn _ _ _ => cases e
  | scr _ _ => cases e
theorem truV_tru {x : Vl} {u : V} {k : Bool} (st : Sto K Z W S H) (r : Rv K Z W x u) (e : truV P S x = some k) : TruV K u H k := by
  obtain ⟨d, h1, h2⟩ := Option.bind_eq_some_iff.mp e
  exact tru_data st.ex (st.tv r h1) h2
theorem rd_tst {m : Mv} {Q : Bool → Hp → Prop} (h : rdT K Z E (fun ρ S => tst P (m ρ S)) σ H Q) : rdE K Z E m σ H fun x H' => ∃ k, TruV K x H' k ∧ Q k H' := by
  obtain ⟨W, ρ, S, er, st, h⟩ := h
  refine ⟨W, ρ, S, er, st, rd_one er h fun x H1 W1 a S1 l1 er1 st1 ra h1 => ?_⟩
  obtain ⟨k, e, q⟩ := ofO_po h1
  exact ⟨k, truV_tru st1 ra e, q W1 k H1 (Wd.le.refl _) st1 rfl⟩
def mAnd (P : Pg) (ma mb : Mv) : Mv := fun ρ S => (ma ρ S).bind fun x S => (match truV P S x with
    | some true => mb ρ S
    | some false => .ok x S
    | none => .bad)
def mOr (P : Pg) (ma mb : Mv) : Mv := fun ρ S => (ma ρ S).bind fun x S => (match truV P S x with
    | some true => .ok x S
    | some false => mb ρ S
    | none => .bad)
theorem rd_and {ma mb : Mv} {Q : VK} (h : rdE K Z E (mAnd P ma mb) σ H Q) : tAndT K (rdE K Z E ma) (rdE K Z E mb) σ H Q := by
  obtain ⟨W, ρ, S, er, st, h⟩ := h
  refine ⟨W, ρ, S, er, st, rd_one er h fun x H1 W1 a S1 l1 er1 st1 ra h1 => ?_⟩
  split at h1
  · rename_i e
    exact ⟨true, truV_tru st1 ra e, by rw [if_pos rfl]; exact ⟨W1, ρ, S1, er1, st1, h1⟩⟩
  · rename_i e
    exact ⟨false, truV_tru st1 ra e, by rw [if_neg Bool.false_ne_true]; exact h1 W1 x H1 (Wd.le.refl _) st1 ra⟩
  · exact h1.elim
theorem rd_or {ma mb : Mv} {Q : VK} (h : rdE K Z E (mOr P ma mb) σ H Q) : tOrT K (rdE K Z E ma) (rdE K Z E mb) σ H Q := by
  obtain ⟨W, ρ, S, er, st, h⟩ := h
  refine ⟨W, ρ, S, er, st, rd_one er h fun x H1 W1 a S1 l1 er1 st1 ra h1 => ?_⟩
  split at h1
  · rename_i e
    exact ⟨true, truV_tru st1 ra e, by rw [if_pos rfl]; exact h1 W1 x H1 (Wd.le.refl _) st1 ra⟩
  · rename_i e
    exact ⟨false, truV_tru st1 ra e, by rw [if_neg Bool.false_ne_true]; exact ⟨W1, ρ, S1, er1, st1, h1⟩⟩
  · exact h1.elim
theorem tst_and {ma mb : Mv} (ρ : Env) (S : Store) : tst P (mAnd P ma mb ρ S) = (tst P (ma ρ S)).bind fun t S => (match t with
    | true => tst P (mb ρ S)
    | false => .ok false S) := by
  unfold tst mAnd
  cases ma ρ S with
  | ok x S1 =>
    dsimp only [Res.bind]
    cases e : truV P S1 x with
    | none => rfl
    | some t =>
      cases t with
      | true => rfl
      | false =>
        dsimp only [Res.bind, ofO]
        rw [e]
  | exc x S1 => rfl
  | bad => rfl
theorem tst_or {ma mb : Mv} (ρ : Env) (S : Store) : tst P (mOr P ma mb ρ S) = (tst P (ma ρ S)).bind fun t S => (match t with
    | true => .ok true S
    | false => tst P (mb ρ S)) := by
  unfold tst mOr
  cases ma ρ S with
  | ok x S1 =>
    dsimp only [Res.bind]
    cases e : truV P S1 x with
    | none => rfl
    | some t =>
      cases t with
      | false => rfl
      | true =>
        dsimp only [Res.bind, ofO]
        rw [e]
  | exc x S1 => rfl
  | bad => rfl
theorem rd_andT {ma mb : Mv} {Q : Bool → Hp → Prop} (h : rdT K Z E (fun ρ S => tst P (mAnd P ma mb ρ S)) σ H Q) : tAnd (rdT K Z E fun ρ S => tst P (ma ρ S)) (rdT K Z E fun ρ S => tst P (mb ρ S)) σ H Q := by
  obtain ⟨W, ρ, S, er, st, h⟩ := h
  dsimp only at h
  rw [tst_and] at h
  refine ⟨W, ρ, S, er, st, rd_one er h fun x H1 W1 a S1 l1 er1 st1 ra h1 => ?_⟩
  subst ra
  cases a with
  | true => exact (if_pos rfl : _ = _) ▸ ⟨W1, ρ, S1, er1, st1, h1⟩
  | false => exact h1 W1 false H1 (Wd.le.refl _) st1 rfl
theorem rd_orT {ma mb : Mv} {Q : Bool → Hp → Prop} (h : rdT K Z E (fun ρ S => tst P (mOr P ma mb ρ S)) σ H Q) : tOr (rdT K Z E fun ρ S => tst P (ma ρ S)) (rdT K Z E fun ρ S => tst P (mb ρ S)) σ H Q := by
  obtain ⟨W, ρ, S, er, st, h⟩ := h
  dsimp only at h
  rw [tst_or] at h
  refine ⟨W, ρ, S, er, st, rd_one er h fun x H1 W1 a S1 l1 er1 st1 ra h1 => ?_⟩
  subst ra
  cases a with
  | true => exact h1 W1 true H1 (Wd.le.refl _) st1 rfl
  | false => exact ⟨W1, ρ, S1, er1, st1, h1⟩
def mNot (P : Pg) (ma : Mv) : Mv := fun ρ S => (tst P (ma ρ S)).bind fun b S => .ok (.d (.bl !b)) S
theorem rd_not {ma : Mv} {Q : VK} (h : rdE K Z E (mNot P ma) σ H Q) : tNotT K (rdE K Z E ma) σ H Q := by
  obtain ⟨W, ρ, S, er, st, h⟩ := h
  unfold mNot tst at h
  rw [Res.bind_assoc] at h
  refine ⟨W, ρ, S, er, st, rd_one er h fun x H1 W1 a S1 l1 er1 st1 ra h1 => ?_⟩
  cases e : truV P S1 a with
  | none =>
    rw [e] at h1
    exact h1.elim
  | some k =>
    rw [e] at h1
    exact ⟨k, truV_tru st1 ra e, h1 W1 _ H1 (Wd.le.refl _) st1 (.bl _)⟩
theorem rd_notT {ma : Mv} {Q : Bool → Hp → Prop} (h : rdT K Z E (fun ρ S => tst P (mNot P ma ρ S)) σ H Q) : tNot (rdT K Z E fun ρ S => tst P (ma ρ S)) σ H Q := by
  obtain ⟨W, ρ, S, er, st, h⟩ := h
  have e : tst P (mNot P ma ρ S) = (tst P (ma ρ S)).bind fun b S => .ok (!b) S := by
    unfold mNot
    generalize tst P (ma ρ S) = r
    cases r <;> rfl
  dsimp only at h
  rw [e] at h
  refine ⟨W, ρ, S, er, st, rd_one er h fun x H1 W1 a S1 l1 er1 st1 ra h1 => ?_⟩
  subst ra
  exact h1 W1 _ H1 (Wd.le.refl _) st1 rfl
def mIte (P : Pg) (mc ma mb : Mv) : Mv := fun ρ S => (tst P (mc ρ S)).bind fun t S => (match t with
    | true => ma ρ S
    | false => mb ρ S)
theorem rd_ite {mc ma mb : Mv} {Q : VK} (h : rdE K Z E (mIte P mc ma mb) σ H Q) : tIf (rdT K Z E fun ρ S => tst P (mc ρ S)) (rdE K Z E ma) (rdE K Z E mb) σ H Q := by
  obtain ⟨W, ρ, S, er, st, h⟩ := h
  refine ⟨W, ρ, S, er, st, rd_one er h fun x H1 W1 a S1 l1 er1 st1 ra h1 => ?_⟩
  subst ra
  cases a with
  | true => exact ⟨W1, ρ, S1, er1, st1, h1⟩
  | false => exact ⟨W1, ρ, S1, er1, st1, h1⟩
end
end Wk

set_option Elab.async false
set_option linter.all false
set_option maxRecDepth 100000
set_option maxHeartbeats 1000000
/-! WkM: rules of displays, fields, isinstance, calls. -/
namespace Wk
open PySem PySem.Spec L2
open PyProof.Rows hiding St

section
variable {K : PySem.W.Frag} {Z : Sx} {E : WX} {P : Pg} {σ : L2.St} {H : Hp} {W : Wd} {S : Store}
theorem Po.eqn {α β : Type} {R : Wd → α → β → Prop} {Q Q' : β → Hp → Prop} {r : Res α} (h : Po K Z E R W σ Q r) (i : ∀ a S1, r = .ok a S1 → ∀ W1 u H1, W.le W1 → Sto K Z W1 S1 H1 → R W1 a u → Q u H1 → Q' u H1) : Po K Z E R W σ Q' r := by
  cases r with
  | ok a S1 => exact fun W1 u H1 l st r => i a S1 rfl W1 u H1 l st r (h W1 u H1 l st r)
  | exc x S1 => exact h
  | bad => exact h
/-- one step, its equation too -/
theorem rd_oneE {α β γ δ : Type} {R : Wd → α → β → Prop} {R' : Wd → γ → δ → Prop} {Q : δ → Hp → Prop} {Q' : β → Hp → Prop} {ρ : Env} {r : Res α} {k : α → Store → Res γ} (er : EnvR K Z W ρ σ) (h : Po K Z E R' W σ Q (r.bind k))
    (i : ∀ b H1 W1 a S1, r = .ok a S1 → W.le W1 → EnvR K Z W1 ρ σ → Sto K Z W1 S1 H1 → R W1 a b → Po K Z E R' W1 σ Q (k a S1) → Q' b H1) : Po K Z E R W σ Q' r := by
  cases r with
  | ok a S1 => exact fun W1 u H1 l st r => i u H1 W1 a S1 rfl l (er.mono l) st r (Po.mono l h)
  | exc x S1 => exact h
  | bad => exact h

/-! ### lists of values -/
theorem rd_nil {Q : List V → Hp → Prop} (h : rdA K Z E (fun _ S => .ok [] S) σ H Q) : tNil σ H Q := by
  obtain ⟨W, ρ, S, er, st, h⟩ := h
  exact h W [] H (Wd.le.refl _) st .nil
theorem rd_cons {m : Mv} {ml : Ml} {Q : List V → Hp → Prop} (h : rdA K Z E (fun ρ S => (m ρ S).bind fun v S => (ml ρ S).bind fun vs S => .ok (v :: vs) S) σ H Q) : tCons (rdE K Z E m) (rdA K Z E ml) σ H Q := by
  obtain ⟨W, ρ, S, er, st, h⟩ := h
  refine ⟨W, ρ, S, er, st, rd_one er h fun x H1 W1 a S1 l1 er1 st1 ra h1 => ⟨W1, ρ, S1, er1, st1, rd_one er1 h1 fun xs H2 W2 b S2 l2 er2 st2 rb h2 => ?_⟩⟩
  exact h2 W2 _ H2 (Wd.le.refl _) st2 (.cons (ra.mono l2) rb)
/-- keywords' values -/
def rdK (K : PySem.W.Frag) (Z : Sx) (E : WX) (m : Env → Store → Res (List (Nat × Vl))) : TA := fun σ H Q => ∃ W ρ S, EnvR K Z W ρ σ ∧ Sto K Z W S H ∧ Po K Z E (RvK K Z) W σ Q (m ρ S)
theorem rd_knil {Q : List V → Hp → Prop} (h : rdK K Z E (fun _ S => .ok [] S) σ H Q) : tNil σ H Q := by
  obtain ⟨W, ρ, S, er, st, h⟩ := h
  exact h W [] H (Wd.le.refl _) st .nil
theorem rd_kcons {i : Nat} {m : Mv} {ml : Env → Store → Res (List (Nat × Vl))} {Q : List V → Hp → Prop} (h : rdK K Z E (fun ρ S => (m ρ S).bind fun v S => (ml ρ S).bind fun vs S => .ok ((i, v) :: vs) S) σ H Q) : tCons (rdE K Z E m) (rdK K Z E ml) σ H Q := by
  obtain ⟨W, ρ, S, er, st, h⟩ := h
  refine ⟨W, ρ, S, er, st, rd_one er h fun x H1 W1 a S1 l1 er1 st1 ra h1 => ⟨W1, ρ, S1, er1, st1, rd_one er1 h1 fun xs H2 W2 b S2 l2 er2 st2 rb h2 => ?_⟩⟩
  exact h2 W2 _ H2 (Wd.le.refl _) st2 (.cons (ra.mono l2) rb)
/-- .. frozen -/
theorem rd_frz {ml : Ml} {Q : List V → Hp → Prop} (h : rdD K Z E (fun ρ S => (ml ρ S).bind fun vs S => frzL vs S) σ H Q) : rdA K Z E ml σ H Q := by
  obtain ⟨W, ρ, S, er, st, h⟩ := h
  refine ⟨W, ρ, S, er, st, rd_one er h fun vs H1 W1 a S1 l1 er1 st1 ra h1 => ?_⟩
  have h1 : Po K Z E (fun W xs vs => RlL K Z W.F xs vs) W1 σ Q ((frzL a S1).bind fun xs S => .ok xs S) := by
    revert h1
    cases frzL a S1 <;> exact fun h => h
  obtain ⟨W2, S2, xs, l2, am, st2, r2, q⟩ := frzL_po st1 ra h1
  exact q W2 vs H1 (Wd.le.refl _) st2 r2
theorem rd_snil {Q : List V → Hp → Prop} (h : rdD K Z E (fun _ S => .ok [] S) σ H Q) : tNil σ H Q := by
  obtain ⟨W, ρ, S, er, st, h⟩ := h
  exact h W [] H (Wd.le.refl _) st .nil
theorem rd_scons {m : Mv} {ml : Env → Store → Res (List D)} {Q : List V → Hp → Prop} (h : rdD K Z E (fun ρ S => (m ρ S).bind fun v S => (frz v S).bind fun x S => (ml ρ S).bind fun xs S => .ok (x :: xs) S) σ H Q) : tCons (rdE K Z E m) (rdD K Z E ml) σ H Q := by
  obtain ⟨W, ρ, S, er, st, h⟩ := h
  refine ⟨W, ρ, S, er, st, rd_one er h fun x H1 W1 a S1 l1 er1 st1 ra h1 => ?_⟩
  obtain ⟨W2, S2, y, l2, am, st2, r2, q⟩ := frz_po st1 ra h1
  refine ⟨W2, ρ, S2, er1.mono l2, st2, rd_one (er1.mono l2) q fun xs H2 W3 b S3 l3 er3 st3 rb h3 => ?_⟩
  exact h3 W3 _ H2 (Wd.le.refl _) st3 (.cons (Rl.mono l3.1 r2) rb)
theorem rd_sstar {m : Mv} {ml : Env → Store → Res (List D)} {Q : List V → Hp → Prop} (h : rdD K Z E (fun ρ S => (m ρ S).bind fun v S => (match vw S v with
    | some (.lst xs) => (ml ρ S).bind fun ys S => .ok (xs ++ ys) S
    | some (.tup xs) => (ml ρ S).bind fun ys S => .ok (xs ++ ys) S
    | _ => .bad)) σ H Q) : StX.tStar K (rdE K Z E m) (rdD K Z E ml) σ H Q := by
  obtain ⟨W, ρ, S, er, st, h⟩ := h
  refine ⟨W, ρ, S, er, st, rd_one er h fun x H1 W1 a S1 l1 er1 st1 ra h1 => ?_⟩
  have go : ∀ {ds : List D} {vs : List V}, RlL K Z W1.F ds vs → Po K Z E (fun W xs vs => RlL K Z W.F xs vs) W1 σ Q ((ml ρ S1).bind fun ys S => .ok (ds ++ ys) S) → rdD K Z E ml σ H1 fun ys H2 => Q (vs ++ ys) H2 := fun {ds vs} r q =>
    ⟨W1, ρ, S1, er1, st1, rd_one er1 q fun ys H2 W2 b S2 l2 er2 st2 rb h2 => h2 W2 _ H2 (Wd.le.refl _) st2 ((RlL.mono l2.1 r).app rb)⟩
  split at h1
  · rename_i ds e
    cases st1.tv ra e with
    | lst hH n r => exact ⟨_, _, rfl, .inr (SqL.of hH), go r h1⟩
  · rename_i ds e
    cases st1.tv ra e with
    | tup hH n r => exact ⟨_, _, rfl, .inl (st1.ex.t hH), go r h1⟩
  · exact h1.elim
/-- a tuple's display -/
theorem rd_tup {md : Env → Store → Res (List D)} {Q : VK} (h : rdE K Z E (fun ρ S => (md ρ S).bind fun xs S => if xs.length ≤ sizeLine then .ok (.d (.tup xs)) S else .bad) σ H Q) : tTup (rdD K Z E md) σ H Q := by
  obtain ⟨W, ρ, S, er, st, h⟩ := h
  refine ⟨W, ρ, S, er, st, rd_one er h fun xs H1 W1 a S1 l1 er1 st1 ra h1 => ?_⟩
  split at h1
  · rename_i hz
    exact ⟨by rw [← ra.len]; exact hz, (gv_of h1).tup st1 hz ra⟩
  · exact h1.elim
/-- a list's display -/
theorem rd_lstN {md : Env → Store → Res (List D)} {Q : VK} (h : rdN K Z E (fun ρ S => (md ρ S).bind fun xs S => if xs.length ≤ sizeLine then .ok xs S else .bad) σ H Q) : tLst (rdD K Z E md) σ H Q := by
  obtain ⟨W, ρ, S, er, st, h⟩ := h
  refine ⟨W, ρ, S, er, st, ?_⟩
  revert h
  dsimp only
  cases md ρ S with
  | ok xs S1 =>
    intro h W1 vs H1 l1 st1 ra
    dsimp only [Res.bind] at h
    split at h
    · rename_i hz
      exact ⟨by rw [← ra.len]; exact hz, Gn.lay (Gn.mono l1 h) st1 ra hz⟩
    · exact h.elim
  | exc x S1 => exact fun h => h
  | bad => exact fun h => h
theorem small_tup {α : Type} {md : Env → Store → Res (List D)} {ρ : Env} {S : Store} {k : List D → Store → Res α} (hz : ∀ ρ S xs S', md ρ S = .ok xs S' → xs.length ≤ sizeLine) :
    ((md ρ S).bind fun xs S => if xs.length ≤ sizeLine then k xs S else .bad) = (md ρ S).bind k := by
  cases e : md ρ S with
  | ok xs S1 =>
    dsimp only [Res.bind]
    rw [if_pos (hz ρ S xs S1 e)]
  | exc x S1 => rfl
  | bad => rfl
theorem frzL_len : ∀ {vs : List Vl} {S S' : Store} {xs : List D}, frzL vs S = .ok xs S' → xs.length = vs.length
  | [], _, _, _, e => by
    cases e
    rfl
  | v :: vs, S, S', xs, e => by
    unfold frzL at e
    cases h1 : frz v S with
    | bad =>
      rw [h1] at e
      cases e
    | exc x S1 => exact absurd h1 frz_noexc
    | ok x S1 =>
      rw [h1] at e
      change (frzL vs S1).bind _ = _ at e
      cases h2 : frzL vs S1 with
      | bad =>
        rw [h2] at e
        cases e
      | exc x S1 => exact absurd h2 frzL_noexc
      | ok ys S2 =>
        rw [h2] at e
        cases e
        rw [List.length_cons, List.length_cons, frzL_len h2]
theorem evL_len {P : Pg} {cl : Cl} {th : Th} : ∀ {es : List CE} {ρ : Env} {S S' : Store} {vs : List Vl}, evL P cl th es ρ S = .ok vs S' → vs.length = es.length
  | [], _, _, _, _, e => by
    simp only [evL] at e
    cases e
    rfl
  | c :: es, ρ, S, S', vs, e => by
    simp only [evL] at e
    cases h1 : evE P cl th c ρ S with
    | bad =>
      rw [h1] at e
      cases e
    | exc x S1 =>
      rw [h1] at e
      cases e
    | ok x S1 =>
      rw [h1] at e
      change (evL P cl th es ρ S1).bind _ = _ at e
      cases h2 : evL P cl th es ρ S1 with
      | bad =>
        rw [h2] at e
        cases e
      | exc x S1 =>
        rw [h2] at e
        cases e
      | ok ys S2 =>
        rw [h2] at e
        cases e
        rw [List.length_cons, List.length_cons, evL_len h2]
theorem evKs_keys {P : Pg} {cl : Cl} {th : Th} : ∀ {es : List (Nat × CE)} {ρ : Env} {S S' : Store} {vs : List (Nat × Vl)}, evKs P cl th es ρ S = .ok vs S' → vs.map (·.1) = es.map (·.1)
  | [], _, _, _, _, e => by
    simp only [evKs] at e
    cases e
    rfl
  | (i, c) :: es, ρ, S, S', vs, e => by
    simp only [evKs] at e
    cases h1 : evE P cl th c ρ S with
    | bad =>
      rw [h1] at e
      cases e
    | exc x S1 =>
      rw [h1] at e
      cases e
    | ok x S1 =>
      rw [h1] at e
      change (evKs P cl th es ρ S1).bind _ = _ at e
      cases h2 : evKs P cl th es ρ S1 with
      | bad =>
        rw [h2] at e
        cases e
      | exc x S1 =>
        rw [h2] at e
        cases e
      | ok ys S2 =>
        rw [h2] at e
        cases e
        rw [List.map_cons, List.map_cons, evKs_keys h2]
end
end Wk

set_option Elab.async false
set_option linter.all false
set_option maxRecDepth 100000
set_option maxHeartbeats 1000000
/-! WkN: fields, isinstance, calls. -/
namespace Wk
open PySem PySem.Spec L2
open PyProof.Rows hiding St

section
variable {X : Cx} {Z : Sx} {T : Tx} {cl : Cl} {k : Nat} {E : WX} {σ : L2.St} {H : Hp}
theorem fldOk_cls {P : Pg} {c f : Nat} (h : fldOk P c f = true) : ∃ d, P.cls[c]? = some d ∧ f ∈ d.flds := by
  unfold fldOk at h
  split at h
  · rename_i d e
    exact ⟨d, e, by simpa using h⟩
  · cases h
theorem xfdOk_exc {P : Pg} {c f : Nat} (h : xfdOk P c f = true) : ∃ d, P.exc[c]? = some d ∧ f ∈ d.flds := by
  unfold xfdOk at h
  split at h
  · rename_i d e
    exact ⟨d, e, by simpa using h⟩
  · cases h
/-- e.f, e an instance or an exception -/
def tFldY (K : PySem.W.Frag) (ta : TE) (f : Str) : TE := fun σ H Q => ta σ H fun x H1 => (∃ a C dx fs v, x = .ref a ∧ H1 a = some (.ins C dx fs) ∧ Cls K C ∧ NoAttr K C f ∧ fs.lookup f = some v ∧ Q v H1) ∨
  ∃ a C dx fs v, x = .ref a ∧ H1 a = some (XO (.ref C) dx a) ∧ H1 dx = some (.xd fs) ∧ ExcK K C ∧ PySem.W.findIn K (.ref C) f = some none ∧ fs.lookup f = some v ∧ Q v H1
theorem pe_fldY {e : Expr} {f : Str} {pos : Pos} {ta : TE} (he : PE X e ta) (hb : attributeBase e f X.env (eval e X.env) = eval e X.env) : PE X (.Attribute e f pos) (tFldY X.K ta f) := by
  refine ⟨fun pins s σ H Q I h => ?_⟩
  refine attr_of hb (thn (he.run pins s σ H _ I h) fun u s1 ⟨x, H1, I1, rx, hh⟩ => ?_)
  rcases hh with ⟨a, C, dx, fs, v, ex, ea, c, n, l, q⟩ | ⟨a, C, dx, fs, v, ex, ea, ed, ck, n, l, q⟩
  · subst ex
    obtain rfl : u = Value.ref a := rx
    exact getattr_ok I1 ea c n l fun u' s2 I2 ru => ⟨v, H1, I2, ru, q⟩
  · subst ex
    obtain rfl : u = Value.ref a := rx
    obtain ⟨oe, vs, h1, h2, h3⟩ := (I1.hok a _ ea).1
    obtain ⟨mA, hns, hr⟩ := (show ObjOk X.prog X.w H1 s1.heap dx (.xd fs) from I1.hok dx _ ed)
    obtain ⟨od, ho, hl⟩ := lookIn_ns hns
    obtain ⟨w, hu, ru⟩ := RelO.some_of (v := v) (o := mA f) (by rw [← l]; exact hr f)
    have J : PySem.W.InstAt s1.heap a oe C (some od) := ⟨h1, h2.1, by unfold PySem.W.notCls; rw [h3] <;> rfl, by rw [h2.2]; exact ho⟩
    exact HandSPX.exc_get I1.kIn J ck.ga ck.gg ck.sub (PySem.W.findObj_own ck.hd n rfl (by rw [hl, hu])) (handed_of ru) ⟨v, H1, I1.tok _, ru, q⟩
theorem rd_fld (G : Gd T Z cl k X.prog X.w X.K X.mg X.base X.A) {m : Mv} {f : Nat} {Q : VK} (h : rdE X.K Z E (fun ρ S => (m ρ S).bind fun x S => (match vw S x with
    | some (.ins c fs) => if fldOk T.P c f then (match lkF f fs with
      | some y => .ok (.d y) S
      | none => .bad) else .bad
    | some (.exn c fs) => if xfdOk T.P c f then (match lkF f fs with
      | some y => .ok (.d y) S
      | none => .bad) else .bad
    | _ => .bad)) σ H Q) : tFldY X.K (rdE X.K Z E m) (Z.nm f) σ H Q := by
  obtain ⟨W, ρ, S, er, st, h⟩ := h
  refine ⟨W, ρ, S, er, st, rd_one er h fun x H1 W1 a S1 l1 er1 st1 ra h1 => ?_⟩
  split at h1
  · rename_i c fs e
    split at h1
    · rename_i hf
      split at h1
      · rename_i y hy
        cases st1.tv ra e with
        | ins hH hO rr =>
          obtain ⟨d, hd, hm⟩ := fldOk_cls hf
          have ck := G.cls c d hd
          obtain ⟨v, hv, rv⟩ := rr.look G.inj hy
          exact .inl ⟨_, _, _, _, v, rfl, hH, ck.cls, ck.noat f hm, hv, h1 W1 v H1 (Wd.le.refl _) st1 rv⟩
      · exact h1.elim
    · exact h1.elim
  · rename_i c fs e
    split at h1
    · rename_i hf
      split at h1
      · rename_i y hy
        cases st1.tv ra e with
        | exn hH hO rr =>
          obtain ⟨d, hd, hm⟩ := xfdOk_exc hf
          have ck := G.exc c d hd
          obtain ⟨v, hv, rv⟩ := rr.look G.inj hy
          exact .inr ⟨_, _, _, _, v, rfl, st1.ex _ _ hH, st1.ex _ _ hO, ck.xk, ck.noat f hm, hv, h1 W1 v H1 (Wd.le.refl _) st1 rv⟩
      · exact h1.elim
    · exact h1.elim
  · exact h1.elim

/-! ### isinstance -/
def clV (Z : Sx) : TyR → V
  | .ty t => .ty (tyS t)
  | .cls c => .ref (Z.ca c)
  | .exc c => .ref (Z.xa c)
def clU (Z : Sx) : TyR → Value
  | .ty t => .type (tyS t)
  | .cls c => .ref (Z.ca c)
  | .exc c => .ref (Z.xa c)
theorem clV_rel (t : TyR) : RelV (clV Z t) (clU Z t) := by cases t <;> rfl
theorem clV_cls (t : TyR) : ClsV (clV Z t) (clU Z t) := by
  cases t with
  | ty t => exact .ty _
  | cls c => exact .own _
  | exc c => exact .own _
theorem kit_tys : ∀ a b : Ty, kitB (tyS a) (tyS b) = some (decide (a = b) || (decide (a = .bl) && decide (b = .int))) := by
  intro a b
  cases a <;> cases b <;> decide +kernel
theorem tyV_of {d : D} {t : Ty} (h : tyOf d = some t) : tyV Z d = .type (tyS t) := by
  cases d <;> cases h <;> rfl
theorem isi1_kit (G : Gd T Z cl k X.prog X.w X.K X.mg X.base X.A) {d : D} {t : TyR} {b : Bool} (h : isi1 T.P d t = some b) : PySem.W.kitOne X.K (tyV Z d) (clU Z t) = some b := by
  cases t with
  | ty n =>
    cases d with
    | ins c fs =>
      obtain ⟨kd, h1, rfl⟩ := Option.map_eq_some_iff.mp h
      exact (G.cls c kd h1).kb n
    | non => cases h; exact kit_ty (kit_tys .non n)
    | bl _ => cases h; exact kit_ty (kit_tys .bl n)
    | int _ => cases h; exact kit_ty (kit_tys .int n)
    | str _ => cases h; exact kit_ty (kit_tys .str n)
    | tup _ => cases h; exact kit_ty (kit_tys .tup n)
    | lst _ => cases h; exact kit_ty (kit_tys .lst n)
    | dct _ => cases h; exact kit_ty (kit_tys .dct n)
    | exn c fs =>
      obtain ⟨kd, h1, rfl⟩ := Option.map_eq_some_iff.mp h
      exact (G.exc c kd h1).kb n
    | scr _ => cases h
  | exc c =>
    unfold isi1 at h
    dsimp only at h
    split at h
    · rename_i kd hk
      have ck := G.exc c kd hk
      cases d with
      | ins e fs =>
        obtain ⟨ke, h1, rfl⟩ := Option.map_eq_some_iff.mp h
        exact (ck.ki e ke h1).1
      | exn e fs =>
        obtain ⟨ke, h1, rfl⟩ := Option.map_eq_some_iff.mp h
        exact ck.kk e ke h1
      | non => cases h; exact ck.kc .non
      | bl _ => cases h; exact ck.kc .bl
      | int _ => cases h; exact ck.kc .int
      | str _ => cases h; exact ck.kc .str
      | tup _ => cases h; exact ck.kc .tup
      | lst _ => cases h; exact ck.kc .lst
      | dct _ => cases h; exact ck.kc .dct
      | scr _ => cases h; exact ck.kc .lst
    · cases h
  | cls c =>
    unfold isi1 at h
    dsimp only at h
    split at h
    · rename_i kd hk
      have ck := G.cls c kd hk
      cases d with
      | ins e fs =>
        obtain ⟨ke, h1, rfl⟩ := Option.map_eq_some_iff.mp h
        exact ck.kk e ke h1
      | non => cases h; exact ck.kc .non
      | bl _ => cases h; exact ck.kc .bl
      | int _ => cases h; exact ck.kc .int
      | str _ => cases h; exact ck.kc .str
      | tup _ => cases h; exact ck.kc .tup
      | lst _ => cases h; exact ck.kc .lst
      | dct _ => cases h; exact ck.kc .dct
      | exn e fs =>
        obtain ⟨ke, h1, rfl⟩ := Option.map_eq_some_iff.mp h
        exact ((G.exc e ke h1).ki c kd hk).2
      | scr _ => cases h; exact ck.kc .lst
    · cases h
theorem isi1_exc {P : Pg} {c : Nat} {fs : List (Nat × D)} {t : TyR} {b : Bool} (h : isi1 P (.exn c fs) t = some b) : ∃ d, P.exc[c]? = some d := by
  cases t with
  | ty n =>
    obtain ⟨kd, h1, _⟩ := Option.map_eq_some_iff.mp h
    exact ⟨kd, h1⟩
  | cls e =>
    unfold isi1 at h
    dsimp only at h
    split at h
    · obtain ⟨kd, h1, _⟩ := Option.map_eq_some_iff.mp h
      exact ⟨kd, h1⟩
    · cases h
  | exc e =>
    unfold isi1 at h
    dsimp only at h
    split at h
    · obtain ⟨kd, h1, _⟩ := Option.map_eq_some_iff.mp h
      exact ⟨kd, h1⟩
    · cases h
theorem isi1_cls {P : Pg} {c : Nat} {fs : List (Nat × D)} {t : TyR} {b : Bool} (h : isi1 P (.ins c fs) t = some b) : ∃ d, P.cls[c]? = some d := by
  cases t with
  | ty n =>
    obtain ⟨kd, h1, _⟩ := Option.map_eq_some_iff.mp h
    exact ⟨kd, h1⟩
  | cls e =>
    unfold isi1 at h
    dsimp only at h
    split at h
    · obtain ⟨kd, h1, _⟩ := Option.map_eq_some_iff.mp h
      exact ⟨kd, h1⟩
    · cases h
  | exc e =>
    unfold isi1 at h
    dsimp only at h
    split at h
    · obtain ⟨kd, h1, _⟩ := Option.map_eq_some_iff.mp h
      exact ⟨kd, h1⟩
    · cases h
theorem isiA_kit (G : Gd T Z cl k X.prog X.w X.K X.mg X.base X.A) {d : D} : ∀ {ts : List TyR} {b : Bool}, isiA T.P d ts = some b → PySem.W.kitAny X.K (tyV Z d) (ts.map (clU Z)) = some b
  | [], b, h => h
  | t :: ts, b, h => by
    unfold isiA at h
    cases e : isi1 T.P d t with
    | none =>
      rw [e] at h
      cases h
    | some c =>
      rw [e] at h
      rw [List.map_cons]
      refine kitAny_cons (isi1_kit G e) (fun hc => ?_) fun hc => ?_
      · subst hc
        exact isiA_kit G h
      · subst hc
        cases h
        rfl
theorem isiA_cls {P : Pg} {c : Nat} {fs : List (Nat × D)} {t : TyR} {ts : List TyR} {b : Bool} (h : isiA P (.ins c fs) (t :: ts) = some b) : ∃ d, P.cls[c]? = some d := by
  unfold isiA at h
  cases e : isi1 P (.ins c fs) t with
  | none =>
    rw [e] at h
    cases h
  | some b => exact isi1_cls e
theorem isiA_exc {P : Pg} {c : Nat} {fs : List (Nat × D)} {t : TyR} {ts : List TyR} {b : Bool} (h : isiA P (.exn c fs) (t :: ts) = some b) : ∃ d, P.exc[c]? = some d := by
  unfold isiA at h
  cases e : isi1 P (.exn c fs) t with
  | none =>
    rw [e] at h
    cases h
  | some b => exact isi1_exc e
def mIsi (P : Pg) (ts : List TyR) (m : Mv) : Mv := fun ρ S => (m ρ S).bind fun x S => (match vw S x with
    | some x => (ofO (isiA P x ts) S).bind fun b S => .ok (.d (.bl b)) S
    | none => .bad)
theorem isi_args (G : Gd T Z cl k X.prog X.w X.K X.mg X.base X.A) {m : Mv} {t : TyR} {ts : List TyR} {Q : VK} (h : rdE X.K Z E (mIsi T.P (t :: ts) m) σ H Q) :
    rdE X.K Z E m σ H fun x H1 => ∃ W S d b, Sto X.K Z W S H1 ∧ TyY X.K H1 x (tyV Z d) ∧ isiA T.P d (t :: ts) = some b ∧ (∀ H2, Sto X.K Z W S H2 → Q (.bl b) H2) ∧ Tv X.K Z W.F H1 d x := by
  obtain ⟨W, ρ, S, er, st, h⟩ := h
  refine ⟨W, ρ, S, er, st, rd_one er h fun x H1 W1 a S1 l1 er1 st1 ra h1 => ?_⟩
  obtain ⟨d, e, q⟩ := vw1_po h1
  cases eb : isiA T.P d (t :: ts) with
  | none =>
    rw [eb] at q
    exact q.elim
  | some b =>
    rw [eb] at q
    have tx := st1.tv ra e
    exact ⟨W1, S1, d, b, st1, tyX_of (P := T.P) st1.ex (fun c fs hd => by
      subst hd
      obtain ⟨kd, hk⟩ := isiA_cls eb
      exact ⟨kd, G.cls c kd hk⟩) (fun c fs hd => by
      subst hd
      obtain ⟨kd, hk⟩ := isiA_exc eb
      exact ⟨kd, G.exc c kd hk⟩) tx, eb, fun H2 st2 => q W1 _ H2 (Wd.le.refl _) st2 (.bl b), tx⟩
theorem isiA_one {P : Pg} {d : D} {t : TyR} {b : Bool} (h : isiA P d [t] = some b) : isi1 P d t = some b := by
  unfold isiA at h
  cases e : isi1 P d t with
  | none =>
    rw [e] at h
    cases h
  | some c =>
    rw [e] at h
    cases c with
    | true => exact h
    | false => exact h
theorem pe_isi1 {a te : Expr} {m : Mv} {t : TyR} {p pos : Pos} (G : Gd T Z cl k X.prog X.w X.K X.mg X.base X.A) (hg : Gl X "isinstance") (hm : X.mg "isinstance" = none) (ha : PE X a (rdE X.K Z E m)) (hc : PE X te (tC (clV Z t))) (hs : starE a = false) (hs' : starE te = false) :
    PE X (.Call (.Name "isinstance" p) [a, te] [] pos) (rdE X.K Z E (mIsi T.P [t] m)) := by
  have h2 := star_plain (env := X.env) (pos := pos) (es := [te]) fun e he => by
    have : e = te := by simpa using he
    rw [this]
    exact hs'
  refine PE.imp (pe_callB call_isiY hg hm boot_isinstance (pa_cons ha (pa_cons hc pa_nil (star_cons hs' [] X.env)) (star_cons hs [te] X.env)) (he := star_cons hs [te] X.env) (hpl := h2)) fun σ H Q h => ?_
  obtain ⟨W, ρ, S, er, st, q⟩ := isi_args G h
  refine ⟨W, ρ, S, er, st, Po.imp q fun x H1 ⟨W1, S1, d, b, st1, ty, e, q1, _⟩ => ?_⟩
  exact ⟨x, clV Z t, tyV Z d, clU Z t, b, rfl, clV_cls t, ty, isi1_kit G (isiA_one e), q1 H1 st1⟩
theorem pe_isiT {a : Expr} {tes : List Expr} {m : Mv} {t : TyR} {ts : List TyR} {p pos tpos : Pos} {kk : Nat} (G : Gd T Z cl k X.prog X.w X.K X.mg X.base X.A) (hg : Gl X "isinstance") (hm : X.mg "isinstance" = none) (ha : PE X a (rdE X.K Z E m))
    (hc : PA X tes (fun _ H Q => Q ((t :: ts).map (clV Z)) H)) (hz : (t :: ts).length ≤ 100) (hs : starE a = false) : PE X (.Call (.Name "isinstance" p) [a, .Tuple tes kk tpos] [] pos) (rdE X.K Z E (mIsi T.P (t :: ts) m)) := by
  refine PE.imp (pe_callB call_isiTY hg hm boot_isinstance (pa_cons ha (pa_cons (pe_tup hc) pa_nil) (star_cons hs [_] X.env)) (he := star_cons hs [_] X.env)) fun σ H Q h => ?_
  obtain ⟨W, ρ, S, er, st, q⟩ := isi_args G h
  refine ⟨W, ρ, S, er, st, Po.imp q fun x H1 ⟨W1, S1, d, b, st1, ty, e, q1, tv⟩ => ⟨by rw [List.length_map, sizeLine_eq]; omega, fun p hp => ?_⟩⟩
  have ex := Ex.new (o := HO.tup ((t :: ts).map (clV Z))) hp
  have tx := tyX_of (P := T.P) (st1.ex.trans ex) (fun c fs hd => by
    subst hd
    obtain ⟨kd, hk⟩ := isiA_cls e
    exact ⟨kd, G.cls c kd hk⟩) (fun c fs hd => by
    subst hd
    obtain ⟨kd, hk⟩ := isiA_exc e
    exact ⟨kd, G.exc c kd hk⟩) (tv.mono (Ex.refl _) ex)
  exact ⟨x, p, (t :: ts).map (clV Z), tyV Z d, (t :: ts).map (clU Z), b, rfl, upd_same, by
    generalize t :: ts = l
    induction l with
    | nil => exact .nil
    | cons a l ih => exact .cons (clV_cls a) ih, tx, isiA_kit G e, q1 _ (st1.grow hp)⟩
end
end Wk

set_option Elab.async false
set_option linter.all false
set_option maxRecDepth 100000
set_option maxHeartbeats 1000000
/-! WkO: calls of defs, classes, methods. -/
namespace Wk
open PySem PySem.Spec L2
open PyProof.Rows hiding St

def notSup : Expr → Bool
  | .Call (.Name _ _) [] [] _ => false
  | _ => true
theorem base_of {o : Expr} (h : notSup o = true) (m : Str) (env : PySem.Env) (w : Sem Value) : attributeBase o m env w = w := by
  unfold attributeBase
  split
  · cases h
  · rfl
theorem meth_form {o : Expr} {m : Str} {apos pos : Pos} {args : List Expr} {kws : List Keyword} {env : PySem.Env} (hb : notSup o = true) (hs : ∀ e ∈ args, starE e = false) (hn : ∀ q ∈ kws, q.arg.isSome = true) (hl : args.length + kws.length + 1 < 30) (hline : (apos.endLine == pos.line) = true) :
    eval (.Call (.Attribute o m apos) args kws pos) env = (do
      let ov ← eval o env
      standAt apos.atName
      let (f, first) ← holding [ov] (getMethod ov m (do return (← importBound o env).getD true))
      callWith pos f first (backTo pos (starEach args env)) (backToKw pos (keywordEach kws env))) := by
  have hform : methodCallForm (args.length + kws.length) (backTo pos (starEach args env)) (backToKw pos (keywordEach kws env)) = true := by
    unfold methodCallForm
    rw [star_all hs, kw_all hn]
    have : (if (backToKw pos (keywordEach kws env)).isEmpty then 0 else 1) ≤ 1 := by split <;> omega
    simp only [Bool.and_eq_true, decide_eq_true_eq, true_and]
    omega
  have hpos : methodCallPos true o env apos pos = pure pos := by
    unfold methodCallPos
    rw [hline]
    rfl
  rw [arm_eval_Call, base_of hb]
  unfold methodCall
  rw [hform, hpos]
  rfl
section
variable {X : Cx} {Z : Sx} {T : Tx} {cl : Cl} {k : Nat} {E : WX} {es : List Expr} {kws : List Keyword} {ml : Ml} {mk : Env → Store → Res (List (Nat × Vl))} {p pos apos : Pos} {x : Str}
/-- what is seen of a call's arguments: no stars, keywords by name; how many, which -/
structure ArgsOk (X : Cx) (Z : Sx) (E : WX) (es : List Expr) (kws : List Keyword) (ml : Ml) (mk : Env → Store → Res (List (Nat × Vl))) (n : Nat) (is : List Nat) : Prop where
  hs : ∀ e ∈ es, starE e = false
  hn : ∀ q ∈ kws, q.arg.isSome = true
  ha : PA X es (rdA X.K Z E ml)
  hk : PK X kws (rdK X.K Z E mk)
  hl : ∀ ρ S vs S', ml ρ S = .ok vs S' → vs.length = n
  hi : ∀ ρ S zs S', mk ρ S = .ok zs S' → zs.map (·.1) = is
  nd : is.Nodup
/-- both lists, then the rest -/
theorem rd_args {n : Nat} {is : List Nat} (A : ArgsOk X Z E es kws ml mk n is) {W0 : Wd} {ρ : Env} {S0 : Store} {σ : L2.St} {H : Hp} {Q : VK} {k : List Vl → List (Nat × Vl) → Store → Res Vl} (er : EnvR X.K Z W0 ρ σ) (st : Sto X.K Z W0 S0 H)
    (h : Po X.K Z E (Rv X.K Z) W0 σ Q ((ml ρ S0).bind fun vs S => (mk ρ S).bind fun zs S => k vs zs S)) :
    rdA X.K Z E ml σ H fun vs H1 => rdK X.K Z E mk σ H1 fun zs H2 => ∃ W S ms ns, W0.le W ∧ Sto X.K Z W S H2 ∧ RvL X.K Z W ms vs ∧ RvK X.K Z W ns zs ∧ ms.length = n ∧ ns.map (·.1) = is ∧ Po X.K Z E (Rv X.K Z) W σ Q (k ms ns S) := by
  refine ⟨W0, ρ, S0, er, st, rd_oneE er h fun vs H1 W1 a S1 e1 l1 er1 st1 ra h1 => ⟨W1, ρ, S1, er1, st1, rd_oneE er1 h1 fun zs H2 W2 b S2 e2 l2 er2 st2 rb h2 => ?_⟩⟩
  exact ⟨W2, S2, a, b, l1.trans l2, st2, ra.mono l2, rb, A.hl _ _ _ _ e1, A.hi _ _ _ _ e2, h2⟩
def mCall (P : Pg) (cl : Cl) (f : Nat) (ml : Ml) (mk : Env → Store → Res (List (Nat × Vl))) : Mv := fun ρ S => (ml ρ S).bind fun vs S => (mk ρ S).bind fun zs S => (match P.fns[f]? with
      | some fd => (match argsOf fd.pars fd.dfl vs zs with
        | some us => cl f none us S
        | none => .bad)
      | none => .bad)
theorem pe_callG (G : Gd T Z cl k X.prog X.w X.K X.mg X.base X.A) (tk : Takes X E) {f : Nat} {d : FDef} {n : Nat} {is : List Nat} (hg : Gl X x) (hd : (x == ("__debug__" : Str)) = false) (hm : X.mg x = some (.ref (Z.fa f))) (hf : T.P.fns[f]? = some d)
    (A : ArgsOk X Z E es kws ml mk n is) (hn : n ≤ d.pars) (his : ∀ i ∈ is, n ≤ i ∧ i < d.pars) (hnm : kws.filterMap (·.arg) = is.map fun i => ((Z.ps f)[i]?).getD Str.empty) :
    PE X (.Call (.Name x p) es kws pos) (rdE X.K Z E (mCall T.P cl f ml mk)) := by
  obtain ⟨fd, FS, FG⟩ := G.fn f d hf
  refine ⟨fun pins s σ H Q I h => ?_⟩
  refine wpAny_Call_Name_kw (ld_glob I hg hm ?_ hd)
  obtain ⟨W, ρ, S, er, st, h⟩ := h
  refine call_any (first := []) I FS.kp A.hs A.hn A.ha A.hk (rd_args A er st h) fun s2 us ws vs zs H2 I2 r rz q => ?_
  obtain ⟨W2, S2, ms, ns, l2, st2, r1, r2, e1, e2, q⟩ := q
  rw [hf] at q
  dsimp only at q
  split at q
  · rename_i ls hls
    refine run_g (ls := ls) (c := cl f none) tk FG FS rfl (G.room.mono (Nat.le_add_right k 3)) G.gs I2 r rz st2 r1 r2 hls (by omega) (fun z hz => ?_) (by rw [e2]; exact A.nd) (by rw [e2]; exact hnm) q
    have := his z.1 (by rw [← e2]; exact List.mem_map_of_mem hz)
    omega
  · exact q.elim
def mMk (P : Pg) (cl : Cl) (c : Nat) (ml : Ml) (mk : Env → Store → Res (List (Nat × Vl))) : Mv := fun ρ S => (ml ρ S).bind fun vs S => (mk ρ S).bind fun zs S => (match (P.cls[c]?).bind (·.init) with
    | some f => (match P.fns[f]? with
      | some fd => (match argsOf fd.pars fd.dfl (.ref S.length :: vs) zs with
        | some us => mkM P cl c us S
        | none => .bad)
      | none => .bad)
    | none => .bad)
theorem pe_mkG (G : Gd T Z cl k X.prog X.w X.K X.mg X.base X.A) (tk : Takes X E) {c f : Nat} {kd : CDef} {d : FDef} {n : Nat} {is : List Nat} (hg : Gl X x) (hd : (x == ("__debug__" : Str)) = false) (hm : X.mg x = some (.ref (Z.ca c))) (hc : T.P.cls[c]? = some kd) (hi : kd.init = some f) (hf : T.P.fns[f]? = some d)
    (A : ArgsOk X Z E es kws ml mk n is) (hn : n + 1 ≤ d.pars) (his : ∀ i ∈ is, n + 1 ≤ i ∧ i < d.pars) (hnm : kws.filterMap (·.arg) = is.map fun i => ((Z.ps f)[i]?).getD Str.empty) :
    PE X (.Call (.Name x p) es kws pos) (rdE X.K Z E (mMk T.P cl c ml mk)) := by
  obtain ⟨fd, FS, FG⟩ := G.fn f d hf
  have ck := G.cls c kd hc
  have M := ck.mkr f hi
  refine ⟨fun pins s σ H Q I h => ?_⟩
  refine wpAny_Call_Name_kw (ld_glob I hg hm ?_ hd)
  obtain ⟨W, ρ, S, er, st, h⟩ := h
  refine call_any (first := []) I M.kp A.hs A.hn A.ha A.hk (rd_args A er st h) fun s2 us ws vs zs H2 I2 r rz q => ?_
  obtain ⟨W2, S2, ms, ns, l2, st2, r1, r2, e1, e2, q⟩ := q
  have hfi : (T.P.cls[c]?).bind (·.init) = some f := by
    rw [hc]
    exact hi
  rw [hfi] at q
  dsimp only at q
  rw [hf] at q
  dsimp only at q
  split at q
  · rename_i ls hls
    refine run_mk (ls := ls) (c := cl f none) M hfi rfl G.inj tk FG FS (G.room.mono (by omega)) G.gs I2 r rz st2 r1 r2 hls (by omega) (fun z hz => ?_) (by rw [e2]; exact A.nd) (by rw [e2]; exact hnm) q
    have := his z.1 (by rw [← e2]; exact List.mem_map_of_mem hz)
    omega
  · exact q.elim
def mMeth (P : Pg) (cl : Cl) (mo : Mv) (m : Nat) (ml : Ml) (mk : Env → Store → Res (List (Nat × Vl))) : Mv := fun ρ S => (mo ρ S).bind fun x S => (match methOf P m (vw S x) with
    | some f => (ml ρ S).bind fun vs S => (mk ρ S).bind fun zs S => (match P.fns[f]? with
      | some fd => (match argsOf fd.pars fd.dfl (x :: vs) zs with
        | some us => cl f none us S
        | none => .bad)
      | none => .bad)
    | none => .bad)
theorem methOf_some {P : Pg} {m f : Nat} {o : Option D} (h : methOf P m o = some f) : ∃ c fs k, o = some (.ins c fs) ∧ lkF m fs = none ∧ P.cls[c]? = some k ∧ k.meths.lookup m = some f := by
  unfold methOf at h
  split at h
  · split at h
    · cases h
    · rename_i hn
      obtain ⟨k, h1, h2⟩ := Option.bind_eq_some_iff.mp h
      exact ⟨_, _, k, rfl, by simpa using hn, h1, h2⟩
  · cases h
theorem _root_.Wk.RlF.none {K : PySem.W.Frag} {F : Hp} {f : Nat} (inj : ∀ a b, Z.nm a = Z.nm b → a = b) : ∀ {fs : List (Nat × D)} {gs : List (Str × V)}, RlF K Z F fs gs → lkF f fs = none → gs.lookup (Z.nm f) = none
  | _, _, .nil, _ => rfl
  | _, _, .cons (k := k) h r, e => by
    unfold lkF at e
    by_cases q : k = f
    · rw [if_pos q] at e
      cases e
    · rw [if_neg q] at e
      have : (Z.nm f == Z.nm k) = false := by
        rw [beq_eq_false_iff_ne]
        exact fun z => q (inj _ _ z).symm
      rw [List.lookup_cons, this]
      exact RlF.none inj r e
theorem pe_methG (G : Gd T Z cl k X.prog X.w X.K X.mg X.base X.A) (tk : Takes X E) {o : Expr} {mo : Mv} {m n : Nat} {is : List Nat} {name : Str} (hm : Z.nm m = name) (hb : notSup o = true) (hline : (apos.endLine == pos.line) = true) (hz : es.length + kws.length + 1 < 30) (ho : PE X o (rdE X.K Z E mo))
    (A : ArgsOk X Z E es kws ml mk n is) (hall : ∀ (c : Nat) kd f, T.P.cls[c]? = some kd → kd.meths.lookup m = some f → ∃ d, T.P.fns[f]? = some d ∧ n + 1 ≤ d.pars ∧ (∀ i ∈ is, n + 1 ≤ i ∧ i < d.pars) ∧ kws.filterMap (·.arg) = is.map fun i => ((Z.ps f)[i]?).getD Str.empty) :
    PE X (.Call (.Attribute o name apos) es kws pos) (rdE X.K Z E (mMeth T.P cl mo m ml mk)) := by
  subst hm
  refine ⟨fun pins s σ H Q I h => ?_⟩
  obtain ⟨W, ρ, S, er, st, h⟩ := h
  unfold mMeth at h
  refine PySem.W.methodCall_KW (pl := do return (← importBound o X.env).getD true) (thn (ho.run pins s σ H _ I ⟨W, ρ, S, er, st, Po.bind h⟩) fun u s1 ⟨x, H1, I1, rx, W1, a, S1, l1, st1, ra, h1⟩ => ?_) (meth_form hb A.hs A.hn hz hline)
  have er1 := er.mono l1
  dsimp only at h1
  cases hmf : methOf T.P m (vw S1 a) with
  | none =>
    rw [hmf] at h1
    exact h1.elim
  | some f =>
    rw [hmf] at h1
    dsimp only at h1
    obtain ⟨c, fs, kd, hv, hlk, hc, hmt⟩ := methOf_some hmf
    have ck := G.cls c kd hc
    obtain ⟨d, hf, hn, his, hnm⟩ := hall c kd f hc hmt
    obtain ⟨fd, FS, FG⟩ := G.fn f d hf
    have tx := st1.tv ra hv
    cases tx with
    | ins hH hO rr =>
    rename_i ad dx gs
    obtain rfl : u = Value.ref ad := rx
    refine getmeth_ok I1 hH ck.cls (ck.meth m f hmt) (rr.none G.inj hlk) ?_
    refine call_any (first := [.ref ad]) I1 FS.kp A.hs A.hn A.ha A.hk (rd_args A er1 st1 h1) fun s2 us ws vs zs H2 I2 r rz q => ?_
    obtain ⟨W2, S2, ms, ns, l2, st2, r1, r2, e1, e2, q⟩ := q
    rw [hf] at q
    dsimp only at q
    split at q
    · rename_i ls hls
      refine run_g (us := .ref ad :: us) (vs := .ref ad :: vs) (ms := a :: ms) (ls := ls) (c := cl f none) tk FG FS rfl (G.room.mono (Nat.le_add_right k 3)) G.gs I2 (.cons rfl r) rz st2 (.cons (ra.mono l2) r1) r2 hls (by rw [List.length_cons]; omega) (fun z hz => ?_) (by rw [e2]; exact A.nd) (by rw [e2]; exact hnm) q
      have := his z.1 (by rw [← e2]; exact List.mem_map_of_mem hz)
      rw [List.length_cons]
      omega
    · exact q.elim
end
end Wk

set_option Elab.async false
set_option linter.all false
set_option maxRecDepth 100000
set_option maxHeartbeats 1000000
/-! WkP: built-ins by name, methods of lists, slices, comprehensions, dicts written out. -/
namespace Wk
open PySem PySem.Spec L2
open PyProof.Rows hiding St

section
variable {K : PySem.W.Frag} {Z : Sx} {W : Wd} {S : Store} {H : Hp}
/-- a thing of the store is rewritten -/
theorem Sto.mut (st : Sto K Z W S H) {n : Nat} {a : Addr} {c : Cell} {o : HO} (ha : W.am[n]? = some a) (hF : W.F a = none) (hl : ∀ x, H a ≠ some (.own x)) (hl2 : ∀ ps, H a ≠ some (.tbl ps)) (hl3 : ∀ φ, H a ≠ some (.ext φ)) (k : CellOk K Z W.F (upd H a o) a c) : Sto K Z W (S.set n c) (upd H a o) := by
  refine ⟨st.ex.mut hF, by rw [List.length_set]; exact st.len, fun m d b hd hb => ?_, st.inj, fun m b hb => ?_, fun b o' hb => ?_, fun p hm => ⟨tabS_upd (st.tab p hm).1 hl2 hl3, (st.tab p hm).2⟩⟩
  · by_cases q : n = m
    · subst q
      have hn : n < S.length := by
        have := (List.getElem?_eq_some_iff.mp hd).1
        rwa [List.length_set] at this
      rw [List.getElem?_set_self hn] at hd
      cases hd
      rw [ha] at hb
      cases hb
      exact k
    · rw [List.getElem?_set_ne q] at hd
      have kd := st.cell m d b hd hb
      have ne : b ≠ a := fun e => q (st.inj n m a ha (e ▸ hb))
      cases d with
      | lst ds =>
        obtain ⟨vs, h1, h2, h3, h4⟩ := kd
        exact ⟨vs, by rw [upd_ne ne]; exact h1, h2, h3, h4⟩
      | ins c fs =>
        obtain ⟨dx, gs, h1, h2, h3, h4⟩ := kd
        have nd : dx ≠ a := fun e => hl b (e ▸ h2)
        exact ⟨dx, gs, by rw [upd_ne ne]; exact h1, by rw [upd_ne nd]; exact h2, h3, h4⟩
      | fz y => exact kd
  · by_cases e : b = a
    · rw [e, upd_same]
      exact fun z => nomatch z
    · rw [upd_ne e]
      exact st.there m b hb
  · obtain ⟨h1, h2, h3, h4⟩ := st.pin b o' hb
    have ne : b ≠ a := fun e => h3 n (e ▸ ha)
    exact ⟨by rw [upd_ne ne]; exact h1, h2, h3, h4⟩
theorem Sto.setLst (st : Sto K Z W S H) {n : Nat} {ds ds' : List D} {a : Addr} {vs' : List V} (hS : S[n]? = some (.lst ds)) (ha : W.am[n]? = some a) (hz : ds'.length ≤ sizeLine) (r : RlL K Z W.F ds' vs') : Sto K Z W (S.set n (.lst ds')) (upd H a (.lst vs')) := by
  obtain ⟨vs, h1, h2, h3, h4⟩ := st.cell n _ a hS ha
  exact st.mut ha h4 (fun x e => by rw [h1] at e; cases e) (fun x e => by rw [h1] at e; cases e) (fun x e => by rw [h1] at e; cases e) ⟨vs', upd_same, hz, r, h4⟩
variable {E : WX} {P : Pg} {σ : L2.St}
theorem rd_bi {ml : Ml} {b : Bi} {Q : VK} (h : rdE K Z E (fun ρ S => (ml ρ S).bind fun vs S => (match vwL S vs with
    | some xs => (ofO (biop P b xs) S).bind fun z S => .ok (.d z) S
    | none => .bad)) σ H Q) : tCB (rBi K Z P b) (rdA K Z E ml) σ H Q := by
  obtain ⟨W, ρ, S, er, st, h⟩ := h
  refine ⟨W, ρ, S, er, st, rd_one er h fun vs H1 W1 a S1 l1 er1 st1 ra h1 => ?_⟩
  split at h1
  · rename_i xs e
    obtain ⟨d, e2, g⟩ := ofO_gv h1
    exact ⟨W1, S1, xs, d, st1, st1.tvL ra e, e2, g⟩
  · exact h1.elim
def biId : Bi → Option (Bool × String)
  | .len => some (false, "len") | .list => some (true, "list") | .tuple => some (true, "tuple") | .int => some (true, "int") | .abs => some (false, "abs") | .min => some (false, "min") | .max => some (false, "max")
  | .all => some (false, "all") | .any => some (false, "any") | .bool => some (true, "bool") | .repr => some (false, "repr") | _ => none
theorem bi_fn {b : Bi} {n : String} (h : biId b = some (false, n)) : biTy b = some (.builtin n) ∧ bootBuiltins (Str.ofString n) = some (.builtin n) := by
  cases b <;> cases h <;> exact ⟨rfl, by first | exact boot_len | exact boot_abs | kernel_rfl⟩
theorem bi_ty {b : Bi} {n : String} (h : biId b = some (true, n)) : biTy b = some (.type n) ∧ bootBuiltins (Str.ofString n) = some (.type n) := by
  cases b <;> cases h <;> exact ⟨rfl, by first | exact boot_list | exact boot_tuple | kernel_rfl⟩
end
section
variable {X : Cx} {Z : Sx} {T : Tx} {cl : Cl} {k : Nat} {E : WX} {ml : Ml} {p pos apos : Pos} {x : Str}
theorem pe_biG (G : Gd T Z cl k X.prog X.w X.K X.mg X.base X.A) (hc : X.calm = true) {b : Bi} {ty : Bool} {n : String} {e : Expr} {es : List Expr} (hb : biId b = some (ty, n)) (hg : Gl X (Str.ofString n)) (hm : X.mg (Str.ofString n) = none) (hn : Str.ofString n ≠ "__name__") (hd : (Str.ofString n == ("__debug__" : Str)) = false)
    (hs : ∀ q ∈ e :: es, starE q = false) (ha : PA X (e :: es) (rdA X.K Z E ml)) : PE X (.Call (.Name (Str.ofString n) p) (e :: es) [] pos) (rdE X.K Z E (fun ρ S => (ml ρ S).bind fun vs S => (match vwL S vs with
    | some xs => (ofO (biop T.P b xs) S).bind fun z S => .ok (.d z) S
    | none => .bad))) := by
  have h1 := star_cons (hs e List.mem_cons_self) es X.env
  have h2 := star_plain (env := X.env) (pos := pos) fun q hq => hs q (List.mem_cons_of_mem _ hq)
  have hu := G.room.un
  cases ty with
  | false =>
    obtain ⟨q1, q2⟩ := bi_fn hb
    exact PE.imp (pe_callB (bi_data b q1 hc (by omega) G.gs) hg hm q2 ha hn hd h1 h2) fun σ H Q h => rd_bi h
  | true =>
    obtain ⟨q1, q2⟩ := bi_ty hb
    exact PE.imp (pe_callTy (bi_data b q1 hc (by omega) G.gs) hg hm q2 ha hn hd h1 h2) fun σ H Q h => rd_bi h
end

/-! ### methods of lists -/
section
variable {K : PySem.W.Frag} {Z : Sx} {W : Wd} {S : Store} {H : Hp} {E : WX} {P : Pg} {σ : L2.St}
def mBm (b : Bm) (mo : Mv) (ml : Ml) : Mv := fun ρ S => (mo ρ S).bind fun x S => if lstAt S x then (ml ρ S).bind fun vs S => bmop b x vs S else .bad
theorem lstAt_ref {x : Vl} {u : V} (st : Sto K Z W S H) (r : Rv K Z W x u) (h : lstAt S x = true) : ∃ n a ds vs, x = .ref n ∧ u = .ref a ∧ S[n]? = some (.lst ds) ∧ W.am[n]? = some a ∧ H a = some (.lst vs) := by
  unfold lstAt at h
  split at h
  · rename_i n
    split at h
    · rename_i ds e
      obtain ⟨a, ha, rfl⟩ := r
      obtain ⟨vs, h1, _⟩ := st.cell n _ a e ha
      exact ⟨n, a, ds, vs, rfl, rfl, e, ha, h1⟩
    · cases h
  · cases h
/-- the object, then the arguments, then the method -/
theorem rd_bm {b : Bm} {mo : Mv} {ml : Ml} {Q : VK} {r : V → List V → Hp → VK → Prop} (h : rdE K Z E (mBm b mo ml) σ H Q)
    (i : ∀ (n : Nat) (a : Addr) (vs : List Vl) (us : List V) (W : Wd) (S : Store) (H2 : Hp), W.am[n]? = some a → Sto K Z W S H2 → RvL K Z W vs us → Po K Z E (Rv K Z) W σ Q (bmop b (.ref n) vs S) → r (.ref a) us H2 Q) : tBM K "list" r (rdE K Z E mo) (rdA K Z E ml) σ H Q := by
  obtain ⟨W, ρ, S, er, st, h⟩ := h
  refine ⟨W, ρ, S, er, st, rd_one er h fun x H1 W1 a S1 l1 er1 st1 ra h1 => ?_⟩
  split at h1
  · rename_i hl
    obtain ⟨n, ad, ds, vs, rfl, rfl, hS, ha, hH⟩ := lstAt_ref st1 ra hl
    refine ⟨.inl ⟨rfl, vs, SqL.of hH⟩, W1, ρ, S1, er1, st1, rd_one er1 h1 fun us H2 W2 ms S2 l2 er2 st2 rb h2 => ?_⟩
    exact i n ad ms us W2 S2 H2 (l2.at ha) st2 rb h2
  · exact h1.elim
theorem rd_append {mo : Mv} {ml : Ml} {Q : VK} (h : rdE K Z E (mBm .append mo ml) σ H Q) : tBM K "list" rAppend (rdE K Z E mo) (rdA K Z E ml) σ H Q := by
  refine rd_bm h fun n a vs us W S H2 ha st r q => ?_
  cases r with
  | nil => exact q.elim
  | cons r1 rr =>
    cases rr with
    | cons r2 rr => exact q.elim
    | nil =>
      simp only [bmop] at q
      obtain ⟨W', S', y, l, am, st', ry, q⟩ := frz_po st r1 q
      have ha' : W'.am[n]? = some a := by rw [am]; exact ha
      split at q
      · rename_i ds e
        split at q
        · rename_i hz
          obtain ⟨ws, h1, h2, h3, h4⟩ := st'.cell n _ a e ha'
          refine ⟨a, ws, _, rfl, rfl, h1, by rw [← h3.len]; exact hz, ?_⟩
          exact q W' _ _ (Wd.le.refl _) (st'.setLst e ha' (by rw [List.length_append]; exact hz) (h3.app (.one ry))) .non
        · exact q.elim
      · exact q.elim
theorem rd_popAt {mo : Mv} {ml : Ml} {Q : VK} (h : rdE K Z E (mBm .popAt mo ml) σ H Q) : tBM K "list" rPopAt (rdE K Z E mo) (rdA K Z E ml) σ H Q := by
  refine rd_bm h fun n a vs us W S H2 ha st r q => ?_
  cases r with
  | nil => exact False.elim q
  | @cons d v _ _ r1 rr =>
    cases rr with
    | cons r2 rr => cases d with
      | ref _ => exact False.elim q
      | d x => cases x <;> exact False.elim q
    | nil =>
      cases d with
      | ref _ => exact False.elim q
      | d x =>
        cases x with
        | int i0 =>
          cases (show Rl K Z W.F (.int i0) _ from r1)
          have q : Po K Z E (Rv K Z) W σ Q (match S[n]? with
            | some (.lst ds) => (match L2.ixN ds.length i0 with
              | some k => (match ds[k]? with
                | some y => if -(2 ^ 63) ≤ i0 ∧ i0 < 2 ^ 63 then .ok (.d y) (S.set n (.lst (ds.eraseIdx k))) else .bad
                | none => .bad)
              | none => .bad)
            | _ => .bad) := q
          split at q
          · rename_i ds e
            split at q
            · rename_i j hj
              split at q
              · rename_i y hy
                split at q
                · rename_i hb
                  obtain ⟨ws, h1, h2, h3, h4⟩ := st.cell n _ a e ha
                  obtain ⟨w, hw, rw'⟩ := h3.get' hy
                  refine ⟨a, ws, i0, j, w, rfl, rfl, h1, hb.1, hb.2, by rw [← h3.len]; exact (ixN_seq hj).1, hw, ?_⟩
                  exact q W w _ (Wd.le.refl _) (st.setLst e ha (Nat.le_trans (len_erase _ _) h2) (h3.erase j)) rw'
                · exact q.elim
              · exact q.elim
            · exact q.elim
          · exact q.elim
        | _ => exact False.elim q
theorem blsOf_rl {F : Hp} : ∀ {ds : List D} {vs : List V} {bs : List Bool}, blsOf ds = some bs → RlL K Z F ds vs → vs = bs.map V.bl
  | [], _, _, e, .nil => by
    cases e
    rfl
  | d :: ds, _, _, e, .cons r rr => by
    cases d with
    | bl b =>
      obtain ⟨cs, h1, h2⟩ := Option.map_eq_some_iff.mp (show (blsOf ds).map (b :: ·) = some _ from e)
      cases (show Rl K Z F (.bl b) _ from r)
      rw [← h2, blsOf_rl h1 rr]
      rfl
    | _ => simp [blsOf] at e
/-- list.count, flat items -/
def rCntV (K : PySem.W.Frag) : V → List V → Hp → VK → Prop := fun x xs H Q => ∃ (a : Addr) (ys : List V) (y : V), x = V.ref a ∧ xs = [y] ∧ SqL K H a ys ∧ flatV y = true ∧ ys.all flatV = true ∧ Q (.int (ys.countP fun z => eqV z y : Nat)) H
theorem countU {y : V} : ∀ {ys : List V} {its : List Value}, Vals ys its → ys.all flatV = true → its.countP (eqU y) = ys.countP fun z => eqV z y
  | _, _, .nil, _ => rfl
  | _, _, .cons r rr, h => by
    rw [List.all_cons, Bool.and_eq_true] at h
    rw [List.countP_cons, List.countP_cons, countU rr h.2, eqU_of r h.1]
theorem mt_countV {X : Cx} : MtR X "list.count" (rCntV X.K) := by
  intro pins s σ H x xs v us Q I rx rxs h
  obtain ⟨a, ys, y, rfl, rfl, hs, fy, fys, q⟩ := h
  cases rx
  obtain ⟨uy, rfl, ry⟩ := rxs.one
  obtain ⟨its, rv, ⟨⟨cls, dd, data, sl⟩, n, ho, hc, hdn, hd⟩, hlen⟩ := I.list hs
  dsimp only at hc hd
  subst hc hd
  refine call_meets PySem.F.slot_list_count ⟨_, ho, rfl⟩ PySem.F.entry_list_count (PySem.F.args_list_count_2 _ _) (SeqAt.list_countAt a its.toArray n dd sl uy (eqU y)) ⟨ho, fun z hz => mem_eqAt ry fy rv fys z (by simpa using hz), ?_⟩
  have ec : its.toArray.toList.countP (eqU y) = ys.countP fun z => eqV z y := countU rv fys
  rw [ec]
  exact ⟨.int (ys.countP fun z => eqV z y : Nat), H, I.tok _, ⟨_, rfl⟩, q⟩
theorem bl_flat : ∀ bs : List Bool, (bs.map V.bl).all flatV = true
  | [] => rfl
  | b :: bs => by
    rw [List.map_cons, List.all_cons, bl_flat bs]
    rfl
theorem bl_count : ∀ bs : List Bool, ((bs.map V.bl).countP fun z => eqV z (.bl true)) = bs.count true
  | [] => rfl
  | b :: bs => by
    rw [List.map_cons, List.countP_cons, bl_count bs, List.count_cons]
    cases b <;> rfl
theorem rd_tru {m : Bm} {mo : Mv} {ml : Ml} {Q : VK} {r : V → List V → Hp → VK → Prop} {g : List Bool → Store → Res Vl} (hg : ∀ n S, bmop m (.ref n) [.d (.bl true)] S = (match S[n]? with
      | some (.lst ds) => (match blsOf ds with
        | some bs => g bs S
        | none => .bad)
      | _ => .bad)) (hn : ∀ n vs S, (∀ z, vs ≠ z :: []) → bmop m (.ref n) vs S = .bad) (ht : ∀ n v S, v ≠ .d (.bl true) → bmop m (.ref n) [v] S = .bad)
    (i : ∀ (a : Addr) (bs : List Bool) (W : Wd) (S : Store) (H2 : Hp), Sto K Z W S H2 → H2 a = some (.lst (bs.map V.bl)) → Po K Z E (Rv K Z) W σ Q (g bs S) → r (.ref a) [.bl true] H2 Q) (h : rdE K Z E (mBm m mo ml) σ H Q) : tBM K "list" r (rdE K Z E mo) (rdA K Z E ml) σ H Q := by
  refine rd_bm h fun n a vs us W S H2 ha st rr q => ?_
  cases rr with
  | nil =>
    rw [hn n _ S (fun z e => by cases e)] at q
    exact q.elim
  | @cons d v _ _ r1 rr =>
    cases rr with
    | cons r2 rr =>
      rw [hn n _ S (fun z e => by cases e)] at q
      exact q.elim
    | nil =>
      by_cases e : d = .d (.bl true)
      · subst e
        cases (show Rl K Z W.F (.bl true) v from r1)
        rw [hg] at q
        split at q
        · rename_i ds hS
          split at q
          · rename_i bs hb
            obtain ⟨ws, h1, h2, h3, h4⟩ := st.cell n _ a hS ha
            rw [blsOf_rl hb h3] at h1
            exact i a bs W S H2 st h1 q
          · exact q.elim
        · exact q.elim
      · rw [ht n d S e] at q
        exact q.elim
theorem rd_count {mo : Mv} {ml : Ml} {Q : VK} (h : rdE K Z E (mBm .count mo ml) σ H Q) : tBM K "list" (rCntV K) (rdE K Z E mo) (rdA K Z E ml) σ H Q := by
  refine rd_tru (m := .count) (g := fun bs S => .ok (.d (.int (bs.count true : Nat))) S) (fun n S => rfl) (fun n vs S hv => ?_) (fun n v S hv => ?_) (fun a bs W S H2 st ha q => ?_) h
  · match vs, hv with
    | [], _ => rfl
    | [z], hv => exact absurd rfl (hv z)
    | z :: _ :: _, _ =>
      cases z with
      | ref _ => rfl
      | d x =>
        cases x with
        | bl b => cases b <;> rfl
        | _ => rfl
  · match v, hv with
    | .ref _, _ => rfl
    | .d (.bl true), hv => exact absurd rfl hv
    | .d (.bl false), _ => rfl
    | .d .non, _ => rfl
    | .d (.int _), _ => rfl
    | .d (.str _), _ => rfl
    | .d (.tup _), _ => rfl
    | .d (.lst _), _ => rfl
    | .d (.dct _), _ => rfl
    | .d (.ins _ _), _ => rfl
    | .d (.exn _ _), _ => rfl
    | .d (.scr _), _ => rfl
  · refine ⟨a, _, _, rfl, rfl, SqL.of ha, rfl, bl_flat bs, ?_⟩
    rw [bl_count]
    exact q W _ H2 (Wd.le.refl _) st (.int _)
theorem bl_find : ∀ {bs : List Bool} {i : Nat}, bs.findIdx? id = some i → bs[i]? = some true ∧ ∀ m, m < i → bs[m]? = some false
  | [], i, h => by simp at h
  | b :: bs, i, h => by
    rw [List.findIdx?_cons] at h
    cases b with
    | true =>
      simp at h
      subst h
      exact ⟨rfl, fun m hm => absurd hm (Nat.not_lt_zero _)⟩
    | false =>
      simp at h
      obtain ⟨j, hj, e⟩ := h
      subst e
      obtain ⟨h1, h2⟩ := bl_find hj
      exact ⟨by simpa using h1, fun m hm => by
        cases m with
        | zero => rfl
        | succ m => simpa using h2 m (by omega)⟩
theorem rd_index {mo : Mv} {ml : Ml} {Q : VK} (h : rdE K Z E (mBm .index mo ml) σ H Q) : tBM K "list" (rIndex K) (rdE K Z E mo) (rdA K Z E ml) σ H Q := by
  refine rd_tru (m := .index) (g := fun bs S => (match bs.findIdx? id with
        | some i => .ok (.d (.int (i : Nat))) S
        | none => .bad)) (fun n S => rfl) (fun n vs S hv => ?_) (fun n v S hv => ?_) (fun a bs W S H2 st ha q => ?_) h
  · match vs, hv with
    | [], _ => rfl
    | [z], hv => exact absurd rfl (hv z)
    | z :: _ :: _, _ =>
      cases z with
      | ref _ => rfl
      | d x =>
        cases x with
        | bl b => cases b <;> rfl
        | _ => rfl
  · match v, hv with
    | .ref _, _ => rfl
    | .d (.bl true), hv => exact absurd rfl hv
    | .d (.bl false), _ => rfl
    | .d .non, _ => rfl
    | .d (.int _), _ => rfl
    | .d (.str _), _ => rfl
    | .d (.tup _), _ => rfl
    | .d (.lst _), _ => rfl
    | .d (.dct _), _ => rfl
    | .d (.ins _ _), _ => rfl
    | .d (.exn _ _), _ => rfl
    | .d (.scr _), _ => rfl
  · split at q
    · rename_i j hj
      obtain ⟨h1, h2⟩ := bl_find hj
      refine ⟨a, _, _, j, .bl true, rfl, rfl, SqL.of ha, rfl, bl_flat bs, by rw [List.getElem?_map, h1]; rfl, rfl, fun m z hm hz => ?_, q W _ H2 (Wd.le.refl _) st (.int _)⟩
      rw [List.getElem?_map, h2 m hm] at hz
      cases hz
      rfl
    · exact q.elim
def mBm0 (mo : Mv) : Mv := fun ρ S => (mo ρ S).bind fun x S => if lstAt S x then bmop .pop x [] S else .bad
theorem rd_pop {mo : Mv} {Q : VK} (h : rdE K Z E (mBm0 mo) σ H Q) : tBM0 K "list" rPop (rdE K Z E mo) σ H Q := by
  obtain ⟨W, ρ, S, er, st, h⟩ := h
  refine ⟨W, ρ, S, er, st, rd_one er h fun x H1 W1 a S1 l1 er1 st1 ra h1 => ?_⟩
  split at h1
  · rename_i hl
    obtain ⟨n, ad, ds, vs, rfl, rfl, hS, ha, hH⟩ := lstAt_ref st1 ra hl
    refine ⟨.inl ⟨rfl, vs, SqL.of hH⟩, ?_⟩
    simp only [bmop] at h1
    rw [hS] at h1
    dsimp only at h1
    split at h1
    · rename_i y hy
      obtain ⟨ws, k1, k2, k3, k4⟩ := st1.cell n _ ad hS ha
      rw [k3.len] at hy
      obtain ⟨w, hw, rw'⟩ := k3.get' hy
      refine ⟨ad, ws, w, rfl, rfl, k1, hw, ?_⟩
      refine h1 W1 w _ (Wd.le.refl _) (st1.setLst hS ha ?_ k3.dropLast) rw'
      rw [List.length_dropLast]
      omega
    · exact h1.elim
  · exact h1.elim

/-! ### slices -/
def rdO (K : PySem.W.Frag) (Z : Sx) (E : WX) (m : Env → Store → Res (Option Int)) : TO := fun σ H Q => ∃ W ρ S, EnvR K Z W ρ σ ∧ Sto K Z W S H ∧ Po K Z E (fun _ a b => a = b) W σ Q (m ρ S)
theorem rd_onone {Q : Option Int → Hp → Prop} (h : rdO K Z E (fun _ S => .ok none S) σ H Q) : tNoPart σ H Q := by
  obtain ⟨W, ρ, S, er, st, h⟩ := h
  exact h W none H (Wd.le.refl _) st rfl
theorem rd_osome {m : Mv} {Q : Option Int → Hp → Prop} (h : rdO K Z E (fun ρ S => (m ρ S).bind fun v S => (match v with
    | .d (.int i) => .ok (some i) S
    | _ => .bad)) σ H Q) : tPart (rdE K Z E m) σ H Q := by
  obtain ⟨W, ρ, S, er, st, h⟩ := h
  refine ⟨W, ρ, S, er, st, rd_one er h fun x H1 W1 a S1 l1 er1 st1 ra h1 => ?_⟩
  split at h1
  · rename_i i
    cases (show Rl K Z W1.F (.int i) x from ra)
    exact ⟨i, rfl, h1 W1 _ H1 (Wd.le.refl _) st1 rfl⟩
  · exact h1.elim
def mCut (ma : Mv) (ml mh : Env → Store → Res (Option Int)) : Mv := fun ρ S => (ma ρ S).bind fun x S => (ml ρ S).bind fun l S => (mh ρ S).bind fun h S => (match vw S x with
    | some x => (ofO (cutop x l h) S).bind fun z S => .ok (.d z) S
    | none => .bad)
theorem rd_cut {ma : Mv} {ml mh : Env → Store → Res (Option Int)} {Q : VK} (h : rdE K Z E (mCut ma ml mh) σ H Q) : tSl (rCutD K Z) (rdE K Z E ma) (rdO K Z E ml) (rdO K Z E mh) σ H Q := by
  obtain ⟨W, ρ, S, er, st, h⟩ := h
  refine ⟨W, ρ, S, er, st, rd_one er h fun x H1 W1 a S1 l1 er1 st1 ra h1 => ⟨W1, ρ, S1, er1, st1, rd_one er1 h1 fun lo H2 W2 b S2 l2 er2 st2 rb h2 => ⟨W2, ρ, S2, er2, st2, rd_one er2 h2 fun hi H3 W3 c S3 l3 er3 st3 rc h3 => ?_⟩⟩⟩
  subst rb rc
  obtain ⟨d, e, q⟩ := vw1_po h3
  obtain ⟨z, ez, g⟩ := ofO_gv q
  exact ⟨W3, S3, d, z, st3, st3.tv (ra.mono (l2.trans l3)) e, ez, g⟩
end
end Wk

set_option Elab.async false
set_option linter.all false
set_option maxRecDepth 100000
set_option maxHeartbeats 1000000
/-! WkQ: dicts written out; comprehensions. -/
namespace Wk
open PySem PySem.Spec L2
open PyProof.Rows hiding St

section
variable {K : PySem.W.Frag} {Z : Sx} {W : Wd} {S : Store} {H : Hp} {E : WX} {P : Pg} {σ : L2.St}
abbrev Mk2 := Env → Store → Res (List (Sum Int Str × D))
def rdKs (K : PySem.W.Frag) (Z : Sx) (E : WX) (m : Mk2) : L2.St → Hp → (List (V × V) → Hp → Prop) → Prop := fun σ H Q => ∃ W ρ S, EnvR K Z W ρ σ ∧ Sto K Z W S H ∧ Po K Z E (fun W kvs ps => ∃ kws, RlK K Z W.F kvs kws ∧ ps = kws.map fun kv => (kV kv.1, kv.2)) W σ Q (m ρ S)
theorem rd_pnil {Q : List (V × V) → Hp → Prop} (h : rdKs K Z E (fun _ S => .ok [] S) σ H Q) : tPairs [] σ H Q := by
  obtain ⟨W, ρ, S, er, st, h⟩ := h
  exact h W [] H (Wd.le.refl _) st ⟨[], .nil, rfl⟩
theorem rd_pcons {key : Sum Int Str} {m : Mv} {mk : Mk2} {trs : List (TE × TE)} {Q : List (V × V) → Hp → Prop} (ih : ∀ {σ H Q}, rdKs K Z E mk σ H Q → tPairs trs σ H Q)
    (h : rdKs K Z E (fun ρ S => (m ρ S).bind fun v S => (frz v S).bind fun x S => (mk ρ S).bind fun ys S => .ok ((key, x) :: ys) S) σ H Q) : tPairs ((tC (kV key), rdE K Z E m) :: trs) σ H Q := by
  obtain ⟨W, ρ, S, er, st, h⟩ := h
  refine ⟨W, ρ, S, er, st, rd_one er h fun x H1 W1 a S1 l1 er1 st1 ra h1 => ?_⟩
  obtain ⟨W2, S2, y, l2, am, st2, r2, q⟩ := frz_po st1 ra h1
  refine ih ⟨W2, ρ, S2, er1.mono l2, st2, rd_one (er1.mono l2) q fun ps H2 W3 b S3 l3 er3 st3 rb h3 => ?_⟩
  obtain ⟨kws, rk, rfl⟩ := rb
  exact h3 W3 _ H2 (Wd.le.refl _) st3 ⟨(key, x) :: kws, .cons (Rl.mono l3.1 r2) rk, rfl⟩
theorem RlK.keys {F : Hp} : ∀ {kvs : List (Sum Int Str × D)} {kws : List (Sum Int Str × V)}, RlK K Z F kvs kws → kws.map (·.1) = kvs.map (·.1)
  | _, _, .nil => rfl
  | _, _, .cons h r => by rw [List.map_cons, List.map_cons, RlK.keys r]
theorem valV_none {kvs : List (Sum Int Str × V)} {k : Sum Int Str} (h : k ∉ kvs.map (·.1)) : valV kvs k = none := by
  unfold valV
  rw [Option.map_eq_none_iff, List.find?_eq_none]
  intro p hp q
  exact h (by
    have : p.1 = k := by simpa using q
    rw [← this]
    exact List.mem_map_of_mem hp)
theorem merge_nodup : ∀ {more kvs : List (Sum Int Str × V)}, (kvs.map (·.1) ++ more.map (·.1)).Nodup → mergeK kvs more = kvs ++ more
  | [], kvs, _ => by
    show kvs = kvs ++ []
    rw [List.append_nil]
  | p :: more, kvs, h => by
    have e : putK kvs p.1 p.2 = kvs ++ [(p.1, p.2)] := putK_new p.2 (valV_none fun q => by
      rw [List.nodup_append] at h
      exact h.2.2 _ q _ (by rw [List.map_cons]; exact List.mem_cons_self) rfl)
    show mergeK (putK kvs p.1 p.2) more = _
    rw [e, merge_nodup, List.append_assoc]
    · rfl
    · rw [List.map_append, List.append_assoc]
      exact h
def mDct (mk : Mk2) : Mv := fun ρ S => (mk ρ S).bind fun xs S => .ok (.d (.dct xs)) S
theorem rd_disp {mk : Mk2} {trs : List (TE × TE)} {Q : VK} (ih : ∀ {σ H Q}, rdKs K Z E mk σ H Q → tPairs trs σ H Q) (hk : ∀ ρ S xs S', mk ρ S = .ok xs S' → (xs.map (·.1)).Nodup ∧ xs.length ≤ 15) (h : rdE K Z E (mDct mk) σ H Q) : tDisp trs σ H Q := by
  obtain ⟨W, ρ, S, er, st, h⟩ := h
  intro p hp
  have pW := pn_none st hp
  refine ih ⟨⟨W.F, W.am, upn W.pn p (.dK [])⟩, ρ, S, er.ext (Ex.refl _) ⟨[], by simp⟩, st.pinNew hp ⟨(fun _ z => nomatch z), (fun _ z => nomatch z)⟩, ?_⟩
  have off : ∀ {W' : Wd} {S' : Store} {H' : Hp}, Wd.le ⟨W.F, W.am, upn W.pn p (.dK [])⟩ W' → Sto K Z W' S' H' → Sto K Z ⟨W'.F, W'.am, W.pn⟩ S' H' := fun {W' S' H'} l s => Sto.pinOff (pn := W'.pn) s fun a o e => by
    rw [l.2.2]
    show upn W.pn p (.dK []) a = some o
    unfold upn
    by_cases q : a = p
    · rw [q, pW] at e
      cases e
    · rw [if_neg q]
      exact e
  revert h
  unfold mDct
  cases e : mk ρ S with
  | bad => exact fun h => h
  | exc x S1 =>
    intro h W' cls dd H' l s xr
    exact h ⟨W'.F, W'.am, W.pn⟩ cls dd H' ⟨l.1, l.2.1, rfl⟩ (off l s) xr
  | ok xs S1 =>
    intro h W' ps H2 l s ⟨kws, rk, ep⟩
    have pD : W'.pn p = some (.dK []) := by
      rw [l.2.2]
      exact if_pos rfl
    obtain ⟨h1, h2, h3, h4⟩ := s.pin p _ pD
    obtain ⟨nd, hz⟩ := hk ρ S xs S1 e
    have hlen : kws.length = xs.length := by
      have := congrArg List.length rk.keys
      simpa using this
    refine ⟨h1, kws, ep, by omega, ?_⟩
    have em : mergeK [] kws = kws := by
      have := merge_nodup (more := kws) (kvs := []) (by rw [List.map_nil, List.nil_append, rk.keys]; exact nd)
      rw [this, List.nil_append]
    rw [em]
    have ex := Ex.new (o := HO.dK kws) h2
    have s2 : Sto K Z ⟨W'.F, W'.am, W.pn⟩ S1 (upd H2 p (.dK kws)) := by
      refine Sto.pinOff (pn := upn W'.pn p (.dK kws)) (Sto.pinSet (F := W'.F) (am := W'.am) (pn := W'.pn) s pD ⟨(fun _ z => nomatch z), (fun _ z => nomatch z)⟩) fun a o e => ?_
      unfold upn
      by_cases q : a = p
      · rw [q, pW] at e
        cases e
      · rw [if_neg q, l.2.2]
        show upn W.pn p (.dK []) a = some o
        unfold upn
        rw [if_neg q]
        exact e
    exact h ⟨upd W'.F p (.dK kws), W'.am, W.pn⟩ (.ref p) _ ⟨l.1.trans ex, l.2.1, rfl⟩ (s2.told upd_same h2 h3 pW fun _ z => nomatch z) (.dct upd_same (RlK.mono ex rk))
end
end Wk

set_option Elab.async false
set_option linter.all false
set_option maxRecDepth 100000
set_option maxHeartbeats 1000000
/-! WkPa: sum of a list of lists. -/
namespace Wk
open PySem PySem.Spec L2
open PyProof.Rows hiding St

section
variable {prog : Program} {w : World} {A : Around} {E : Value → Shared → Prop} {s : Shared}
/-- two lists put together -/
theorem cat_lists {l b : Addr} {xs ys : Array Value} {Q : Value → Shared → Prop} (hl : s.heap.IsList l xs) (hb : s.heap.IsList b ys) (hz : xs.size + ys.size ≤ sizeLine)
    (q : Q (.ref s.heap.objs.size) { s with heap := s.heap.push { cls := .type "list", data := .seq (xs ++ ys) } }) : wpAny (model prog w) A (binaryOp .Add (.ref l) (.ref b)) Q E s := by
  obtain ⟨⟨c1, d1, t1, l1⟩, h1, e1, n1, f1⟩ := hl
  obtain ⟨⟨c2, d2, t2, l2⟩, h2, e2, n2, f2⟩ := hb
  dsimp only at e1 f1 e2 f2
  subst e1 f1 e2 f2
  have m := list_addW l b xs ys n1 n2 d1 d2 l1 l2 hz
  exact concat_meets ⟨_, h1, rfl⟩ ⟨_, h2, rfl⟩ noFill_list_add seq_list_add PySem.F.slot_list_add PySem.F.entry_list_add
    (PySem.F.args_list_add_2 _ _) m ⟨h1, h2, q⟩
/-- what stands in the state behind i turns -/
def SumAt (h0 h : Heap) (e : Addr) (its : Nat → Array Value) (i : Nat) (t : Addr) (acc : Array Value) : Prop :=
  (i = 0 ∧ t = e ∧ acc = #[]) ∨ (0 < i ∧ h0.objs.size ≤ t ∧ h.get? t = some { cls := .type "list", dict := none, data := .seq acc 0, slots := #[] })
/-- the items put together -/
def catN (its : Nat → Array Value) : Nat → Array Value
  | 0 => #[]
  | i + 1 => catN its i ++ its i
theorem catN_le {its : Nat → Array Value} : ∀ {i n : Nat}, i ≤ n → (catN its i).size ≤ (catN its n).size
  | i, 0, h => by
    have : i = 0 := by omega
    subst this
    exact Nat.le_refl _
  | i, n + 1, h => by
    rcases Nat.lt_or_ge i (n + 1) with q | q
    · have := catN_le (its := its) (i := i) (n := n) (by omega)
      show _ ≤ (catN its n ++ its n).size
      rw [Array.size_append]
      omega
    · have : i = n + 1 := by omega
      subst this
      exact Nat.le_refl _
variable {R : Result → Shared → Prop} {I : Addr} {fp wr : List Addr} {n : Nat} {Pv : Nat → Value → Prop} {St : Nat → Heap → Prop}
theorem sum_lists_loop (W : PySem.Walks prog w A.in1 I fp wr n Pv St) (h0 : Heap) (e : Addr) (its : Nat → Array Value) (S : Addr) (hS0 : h0.objs.size ≤ S) (hwr : ∀ b ∈ wr, h0.objs.size ≤ b)
    (hval : ∀ i v, Pv i v → ∃ b, v = .ref b ∧ h0.IsList b (its i)) (he : h0.IsList e #[]) (hSf : S ∉ fp) (hex : ∀ i h, St i h → ∀ b ∈ fp, ∃ o, h.get? b = some o) (hz : (catN its n).size ≤ sizeLine) :
    ∀ (k i : Nat) (s : Shared) (t : Addr) (c : Nat), n - i = k → i ≤ n → St i s.heap → s.heap.get? S = some { cls := .type "list", dict := none, data := .seq #[.ref t] c, slots := #[] } → SumAt h0 s.heap e its i t (catN its i) → t ≠ S → t ∉ wr →
      (∀ b o, h0.get? b = some o → s.heap.get? b = some o) →
      (∀ h' tk t', (∀ b o, h0.get? b = some o → h'.get? b = some o) → SumAt h0 h' e its n t' (catN its n) → R (.ok (.ret (.ref t'))) { s with heap := h', toks := tk }) →
      codeAny (model prog w) A (.builtin "sum.loop" ⟨[.ref I, .ref S, rawInt 2, rawInt 0], []⟩) R s := by
  have hSw : S ∉ wr := fun h => hSf (W.sub _ h)
  have old : ∀ {b : Addr} {o : Obj}, h0.get? b = some o → b ≠ S ∧ b ∉ wr := fun {b o} q =>
    ⟨Nat.ne_of_lt (Nat.lt_of_lt_of_le (Heap.lt_size q) hS0), fun z => Nat.lt_irrefl _ (Nat.lt_of_lt_of_le (Heap.lt_size q) (hwr b z))⟩
  intro k
  induction k with
  | zero =>
    intro i s t c hk hi hst hS hT htS htw hkp hR
    have hin : i = n := by omega
    subst hin
    refine codeAny_builtin PySem.F.entry_sum_loop ?_
    rw [Around.under_plainId PySem.F.plain_sum_loop _]
    show wpAny _ A.in1 (seqItems? (.ref S) >>= _) _ _ s
    refine wpAny_bind (wpAny_seqItems hS rfl ?_)
    show wpAny _ A.in1 (tryCatch (pyNext (.ref I)) _ >>= _) _ _ s
    refine wpAny_bind (wpAny_tryCatch (W.done s _ _ hst fun h' tk hk' => ?_))
    refine wpAny_pure (hR h' tk t (fun b o q => hk' b o (old q).2 (hkp b o q)) ?_)
    rcases hT with ⟨z1, z2, z3⟩ | ⟨z1, z2, z3⟩
    · exact .inl ⟨z1, z2, z3⟩
    · exact .inr ⟨z1, z2, hk' _ _ htw z3⟩
  | succ k ih =>
    intro i s t c hk hi hst hS hT htS htw hkp hR
    have hlt : i < n := by omega
    refine codeAny_builtin PySem.F.entry_sum_loop ?_
    rw [Around.under_plainId PySem.F.plain_sum_loop _]
    show wpAny _ A.in1 (seqItems? (.ref S) >>= _) _ _ s
    refine wpAny_bind (wpAny_seqItems hS rfl ?_)
    show wpAny _ A.in1 (tryCatch (pyNext (.ref I)) _ >>= _) _ _ s
    refine wpAny_bind (wpAny_tryCatch (W.item i s _ _ hlt hst fun v h' tk hP hst' hk' => ?_))
    obtain ⟨b, rfl, hb⟩ := hval i v hP
    have hkp' : ∀ b o, h0.get? b = some o → h'.get? b = some o := fun b o q => hk' b o (old q).2 (hkp b o q)
    have hS' := hk' S _ hSw hS
    have ht : h'.IsList t (catN its i) := by
      rcases hT with ⟨z1, z2, z3⟩ | ⟨z1, z2, z3⟩
      · obtain ⟨o, g, r⟩ := he
        rw [z2, z3]
        exact ⟨o, hkp' e o g, r⟩
      · exact ⟨_, hk' _ _ htw z3, rfl, 0, rfl⟩
    have hb' : h'.IsList b (its i) := by
      obtain ⟨o, g, r⟩ := hb
      exact ⟨o, hkp' b o g, r⟩
    have hz1 : (catN its i).size + (its i).size ≤ sizeLine := by
      have := catN_le (its := its) (i := i + 1) (n := n) hlt
      have q : (catN its (i + 1)).size = (catN its i).size + (its i).size := Array.size_append
      omega
    show wpAny _ A.in1 ((holding [Value.ref b] (binaryOp .Add (.ref t) (.ref b))).attempt >>= _) _ _ _
    refine wpAny_bind (wpAny_attempt (wpAny_holding (cat_lists (s := { s with heap := h', toks := tk }) ht hb' hz1 ?_)))
    show wpAny _ A.in1 (updateSeq S (fun _ => #[Value.ref h'.objs.size]) >>= _) _ _ _
    have hS1 : (h'.push { cls := .type "list", data := .seq (catN its i ++ its i) }).get? S = some { cls := .type "list", dict := none, data := .seq #[.ref t] c, slots := #[] } := Heap.get?_push_of_some _ hS'
    have hS2 := Heap.get?_update_self (Obj.mapSeq fun _ => #[Value.ref h'.objs.size]) hS1 rfl
    have hneS : h'.objs.size ≠ S := Nat.ne_of_gt (Heap.lt_size hS')
    refine wpAny_bind (wpAny_updateSeq hS1 rfl ?_)
    refine wpAny_bind (wpAny_letGo ?_)
    refine wpAny_bind (wpAny_updateSeq hS2 rfl ?_)
    have hS3 := Heap.get?_update_self (Obj.mapSeq fun _ => #[Value.ref h'.objs.size]) hS2 rfl
    have keep : ∀ b o, b ≠ S → h'.get? b = some o → (((h'.push { cls := .type "list", data := .seq (catN its i ++ its i) }).update S (Obj.mapSeq fun _ => #[Value.ref h'.objs.size])).update S (Obj.mapSeq fun _ => #[Value.ref h'.objs.size])).get? b = some o := fun b o hb q =>
      (Heap.get?_update_other _ _ (Ne.symm hb)).trans ((Heap.get?_update_other _ _ (Ne.symm hb)).trans (Heap.get?_push_of_some _ q))
    have hsz : (((h'.push { cls := .type "list", data := .seq (catN its i ++ its i) }).update S (Obj.mapSeq fun _ => #[Value.ref h'.objs.size])).update S (Obj.mapSeq fun _ => #[Value.ref h'.objs.size])).objs.size = h'.objs.size + 1 := by
      rw [Heap.size_update, Heap.size_update, Heap.size_push]
    have hfp' : ∀ b ∈ fp, b < h'.objs.size := fun b hb => by
      obtain ⟨o, q⟩ := hex _ _ hst' b hb
      exact Heap.lt_size q
    refine wpAny_pure ⟨plainId_quiet PySem.F.plain_sum_loop _, ih (i + 1) _ h'.objs.size _ (by omega) hlt (W.frame _ _ _ hst' fun b hb o q => keep b o (fun z => hSf (z ▸ hb)) q) hS3 (.inr ⟨Nat.succ_pos _, ?_, ?_⟩) hneS (fun z => Nat.lt_irrefl _ (hfp' _ (W.sub _ z))) (fun b o q => keep b o (old q).1 (hkp' b o q)) fun h'' tk'' t'' hk'' hT'' => hR h'' tk'' t'' hk'' hT''⟩
    · exact Nat.le_of_lt (Nat.lt_of_le_of_lt hS0 (Heap.lt_size hS'))
    · exact (Heap.get?_update_other _ _ (Ne.symm hneS)).trans ((Heap.get?_update_other _ _ (Ne.symm hneS)).trans (Heap.get?_push_size _ rfl))
theorem call_sum_lists {l e : Addr} {items : Array Value} {its : Nat → Array Value} {Q : Value → Shared → Prop} (hh : A.handled = none) (hl : s.heap.IsList l items) (he : s.heap.IsList e #[])
    (hval : ∀ i v, items[i]? = some v → ∃ b, v = .ref b ∧ s.heap.IsList b (its i)) (hz : (catN its items.size).size ≤ sizeLine)
    (q : ∀ h' tk t, (∀ b o, s.heap.get? b = some o → h'.get? b = some o) → SumAt s.heap h' e its items.size t (catN its items.size) → Q (.ref t) { s with heap := h', toks := tk }) :
    wpAny (model prog w) A (call (.builtin "sum") [.ref l, .ref e]) Q E s := by
  have hlt : l < s.heap.objs.size := by
    obtain ⟨o, g, _⟩ := hl
    exact Heap.lt_size g
  have helt : e < s.heap.objs.size := by
    obtain ⟨o, g, _⟩ := he
    exact Heap.lt_size g
  refine call_function_tree PySem.F.kind_sum PySem.F.plain_sum PySem.F.entry_sum (by unfold argsOk; kernel_rfl) ?_
  unfold Builtin.«sum»
  simp only [List.length_cons, List.length_nil]
  rw [if_neg (by decide)]
  refine wpAny_bind (wpAny_of_eq (show Builtin.Builtins.bindParams "sum" ["start"] 0 ⟨[Value.ref e], []⟩ = pure [some (.ref e)] from rfl) ?_)
  refine wpAny_bind (wpAny_pyIter_list hl ?_)
  have he1 : (s.heap.push { cls := .type "list_iterator", data := .fields #[.ref l, .int 0 0] }).IsList e #[] := by
    obtain ⟨o, g, r⟩ := he
    exact ⟨o, Heap.get?_push_of_some _ g, r⟩
  refine wpAny_bind (wpAny_pure ?_)
  simp only [List.forIn_cons, List.forIn_nil]
  refine wpAny_bind (wpAny_bind (wpAny_bind (wpAny_isInstance (T := "list") (b := false) he1.typeIs PySem.F.sub_list_str ?_)))
  simp only [Bool.false_eq_true, if_false]
  refine wpAny_pure (wpAny_bind (wpAny_bind (wpAny_isInstance (T := "list") (b := false) he1.typeIs PySem.F.sub_list_bytes ?_)))
  simp only [Bool.false_eq_true, if_false]
  refine wpAny_pure (wpAny_bind (wpAny_bind (wpAny_isInstance (T := "list") (b := false) he1.typeIs PySem.F.sub_list_bytearray ?_)))
  simp only [Bool.false_eq_true, if_false]
  refine wpAny_pure (wpAny_pure ?_)
  refine wpAny_bind (wpAny_newObj_type ?_)
  have hz1 : (s.heap.push { cls := .type "list_iterator", data := .fields #[.ref l, .int 0 0] }).objs.size = s.heap.objs.size + 1 := Heap.size_push ..
  refine wpAny_pure ⟨plainId_quiet PySem.F.plain_sum_loop _, sum_lists_loop (PySem.Walks.list (A := A.in1) (by simpa using hh) s.heap.objs.size l (Nat.ne_of_lt hlt) items) s.heap e its _ (by rw [hz1]; exact Nat.le_succ _) (fun b hb => ?_) hval he ?_ ?_ hz
    items.size 0 _ e 0 rfl (Nat.zero_le _) ⟨⟨_, Heap.get?_push_of_some _ (Heap.get?_push_size _ rfl), rfl, rfl⟩, ?_⟩ (Heap.get?_push_size _ rfl) (.inl ⟨rfl, rfl, rfl⟩) ?_ ?_ (fun b o g => Heap.get?_push_of_some _ (Heap.get?_push_of_some _ g)) fun h' tk t hk hT => q h' tk t hk hT⟩
  · rw [List.mem_singleton.mp hb]
    exact Nat.le_refl _
  · rw [hz1]
    simp only [List.mem_cons, List.not_mem_nil, or_false, not_or]
    exact ⟨Nat.succ_ne_self _, Nat.ne_of_gt (Nat.lt_succ_of_lt hlt)⟩
  · rintro i h ⟨⟨o, g, _⟩, ⟨o', g', _⟩⟩ b hb
    rcases List.mem_cons.mp hb with z | z
    · rw [z]
      exact ⟨o, g⟩
    · rw [List.mem_singleton.mp z]
      exact ⟨o', g'⟩
  · obtain ⟨o, g, r⟩ := hl
    exact ⟨o, Heap.get?_push_of_some _ (Heap.get?_push_of_some _ g), r⟩
  · rw [hz1]
    exact Nat.ne_of_lt (Nat.lt_succ_of_lt helt)
  · intro z
    rw [List.mem_singleton.mp z] at helt
    exact Nat.lt_irrefl _ helt
end

theorem refs_are : ∀ {ps : List (Addr × List V)} {us : List Value}, Vals (ps.map fun p => V.ref p.1) us → us = ps.map fun p => Value.ref p.1
  | [], _, .nil => rfl
  | p :: ps, _, .cons r t => by
    cases r
    rw [refs_are t]
    rfl
theorem Vals.cat : ∀ {xs ys : List V} {us vs : List Value}, Vals xs us → Vals ys vs → Vals (xs ++ ys) (us ++ vs)
  | _, _, _, _, .nil, h => h
  | _, _, _, _, .cons r t, h => .cons r (Vals.cat t h)
theorem catN_vals {ps : List (Addr × List V)} {its : Nat → Array Value} (h : ∀ i p, ps[i]? = some p → Vals p.2 (its i).toList) : ∀ {n : Nat}, n ≤ ps.length → Vals ((ps.take n).map (·.2)).flatten (catN its n).toList
  | 0, _ => .nil
  | n + 1, hn => by
    have e : ps[n]? = some ps[n] := List.getElem?_eq_getElem hn
    have q := catN_vals h (n := n) (Nat.le_of_succ_le hn)
    rw [List.take_succ, e, List.map_append, List.flatten_append]
    show Vals _ (catN its n ++ its n).toList
    rw [Array.toList_append]
    refine Vals.cat q ?_
    have := h n _ e
    simpa using this
section
variable {X : Cx}
/-- sum(xs, []), xs a list of lists -/
def rSumL (K : PySem.W.Frag) : List V → Hp → VK → Prop := fun vs H Q => ∃ (l e : Addr) (ps : List (Addr × List V)), vs = [V.ref l, V.ref e] ∧ SqL K H l (ps.map fun p => V.ref p.1) ∧ (∀ p ∈ ps, SqL K H p.1 p.2) ∧ H e = some (.lst []) ∧
  (ps.map (·.2)).flatten.length ≤ sizeLine ∧ (ps = [] → Q (.ref e) H) ∧ ∀ p, H p = none → Q (.ref p) (upd H p (.lst (ps.map (·.2)).flatten))
theorem cr_sumL (hc : X.calm = true) : CallR X (.builtin "sum") (rSumL X.K) := by
  intro pins s σ H vs us Q I r h
  obtain ⟨l, e, ps, rfl, hl, hp, he, hz, q0, q1⟩ := h
  have eu : us = [Value.ref l, Value.ref e] := by
    cases r with
    | cons r t =>
      cases r
      cases t with
      | cons r t =>
        cases r
        cases t
        rfl
  subst eu
  obtain ⟨items, rv, pl, _⟩ := I.list hl
  have ei := refs_are rv
  obtain ⟨ei0, ev, epl, _⟩ := I.list (SqL.of he)
  cases ev
  have ex : ∀ i : Nat, ∃ a : Array Value, ∀ p : Addr × List V, ps[i]? = some p → Vals p.2 a.toList ∧ s.heap.IsList p.1 a := fun i => by
    cases hi : ps[i]? with
    | none => exact ⟨#[], fun p z => nomatch z⟩
    | some p =>
      obtain ⟨us, r1, p1, _⟩ := I.list (hp p (List.mem_of_getElem? hi))
      refine ⟨us.toArray, fun p' z => ?_⟩
      cases z
      exact ⟨by simpa using r1, p1.isList⟩
  obtain ⟨its, hits⟩ := Classical.skolem.mp ex
  have hlen : items.toArray.size = ps.length := by rw [List.size_toArray, ei, List.length_map]
  have hv : Vals (ps.map (·.2)).flatten (catN its items.toArray.size).toList := by
    have := catN_vals (ps := ps) (its := its) (fun i p z => (hits i p z).1) (n := items.toArray.size) (by rw [hlen]; exact Nat.le_refl _)
    rw [List.take_of_length_le (by rw [hlen]; exact Nat.le_refl _)] at this
    exact this
  have hz2 : (catN its items.toArray.size).size ≤ sizeLine := by
    have := hv.length
    have e2 : (catN its items.toArray.size).toList.length = (catN its items.toArray.size).size := Array.length_toList
    rw [← e2, ← this]
    exact hz
  refine call_sum_lists (I.ok.hd hc) pl.isList epl.isList (its := its) (fun i v hv' => ?_) hz2 fun h' tk t hk hT => ?_
  · rw [ei] at hv'
    have hv' : (ps.map fun p => Value.ref p.1)[i]? = some v := by simpa using hv'
    rw [List.getElem?_map] at hv'
    cases hi : ps[i]? with
    | none =>
      rw [hi] at hv'
      cases hv'
    | some p =>
      rw [hi] at hv'
      cases hv'
      exact ⟨_, rfl, (hits i p hi).2⟩
  · rcases hT with ⟨z1, z2, z3⟩ | ⟨z1, z2, z3⟩
    · have en : ps = [] := List.length_eq_zero_iff.mp (by rw [← hlen]; exact z1)
      rw [z2]
      exact ⟨.ref e, H, I.kept hk, rfl, q0 en⟩
    · refine ⟨.ref t, upd H t (.lst (ps.map (·.2)).flatten), I.laid hk z2 (show ObjOk X.prog X.w _ _ _ (.lst (ps.map (·.2)).flatten) from ⟨hz, _, 0, hv, ?_⟩), rfl, q1 _ (I.hok.fresh z2)⟩
      rw [Array.toArray_toList]
      exact z3
end
end Wk

set_option Elab.async false
set_option linter.all false
set_option maxRecDepth 100000
set_option maxHeartbeats 3200000
/-! WkPb: built-ins of one argument, written in two words: tuple(range(n)), sum(xs, []), sorted(set(xs)), sorted({x: True for x in xs}). -/
namespace Wk
open PySem PySem.Spec L2
open PyProof.Rows hiding St

section
variable {P : Program} {w : World} {A : Around} {E : Value → Shared → Prop} {s : Shared}
/-- set(l), l a list of ints -/
theorem call_set_listI {l : Addr} {items : Array Value} (ns : List Int) {Q : Value → Shared → Prop} (hh : A.handled = none) (hl : s.heap.IsList l items) (hit : IntsAre items.toList ns) (hb : ns.length + 1 < scanBound)
    (q : ∀ (h' : Heap) (tk c : Nat), SetR w h' s.heap.objs.size (fun j => decide (j ∈ ns)) c → c ≤ ns.length → (∀ b o, s.heap.get? b = some o → h'.get? b = some o) → Q (.ref s.heap.objs.size) { s with heap := h', toks := tk }) :
    wpAny (model P w) A (call (.type "set") [.ref l]) Q E s := by
  have size : items.size = ns.length := by
    have e := IntsAre.length hit
    rwa [Array.length_toList] at e
  have ⟨c, tl, hmro⟩ := PySem.F.called_set.mro
  have made := PySem.F.called_set.made
  have subs := PySem.F.called_set.sub
  refine wpAny_call (codeAny_of_tree ?_)
  show wpAny _ _ (callAny (.type "set") _) _ _ _
  refine wpAny_pure ⟨Code.quiet_builtin _ (by decide +kernel), codeAny_builtin PySem.F.entry_type_call ?_⟩
  rw [Around.under_plain (weight_type_call_type "set" [.ref l] []) rfl]
  have k1 := PySem.F.called_set.notType
  have k2 := PySem.F.called_set.canCreate
  have k3 := PySem.F.typeCall_set_1 (.ref l)
  repeat (any_goals (first | assumption | wp_step))
  let o0 : Obj := { cls := .type "set", dict := none, data := .set #[] 0 (.fresh 0 0 (!w.params.followText "set-order")) }
  refine codeAny_mono (code_set_led1 (.ref l) (E := E) (Q₁ := fun obj s₁ => obj = .ref s.heap.objs.size ∧ s₁ = { s with heap := s.heap.push o0 }) ⟨rfl, rfl⟩) fun r s₁ hr => ?_
  cases r with
  | error e => exact hr
  | ok fl =>
    cases fl with
    | ret obj =>
      obtain ⟨rfl, rfl⟩ := hr
      have hS : (s.heap.push o0).get? s.heap.objs.size = some o0 := Heap.get?_push_size _ rfl
      have hT : Shared.TypeIs { s with heap := s.heap.push o0 } (.ref s.heap.objs.size) "set" := ⟨_, hS, rfl⟩
      have k4 := PySem.F.called_set.init.lookup
      have k5 := PySem.F.called_set.init.bind (.ref s.heap.objs.size)
      repeat (any_goals (first | assumption | wp_step))
      refine codeAny_mono (codeAny_call_builtin (R := wants (fun r s₂ => r = .none ∧ ∃ h' tk c, s₂ = { s with heap := h', toks := tk } ∧ SetR w h' s.heap.objs.size (fun j => decide (j ∈ ns)) c ∧ c ≤ ns.length ∧ (∀ b o, s.heap.get? b = some o → h'.get? b = some o)) E)
        PySem.F.called_set.init.plain PySem.F.entry_set_init (check_set_init_1 hT ?_)) fun r₂ s₂ hr₂ => ?_
      · obtain ⟨⟨ocls, odict, odata, oslots⟩, hol, hcl, nl, hdl⟩ := hl
        dsimp only at hcl hdl
        subst hcl hdl
        have hol' : (s.heap.push o0).get? l = some { cls := .type "list", dict := odict, data := .seq items nl, slots := oslots } := Heap.get?_push_of_some _ hol
        have k6 := PySem.F.sub_list_set
        have k7 := PySem.F.sub_list_frozenset
        have k8 : (Value.type "list" == Value.type "dict") = false := by decide
        have hl1 : (s.heap.push o0).IsList l items := ⟨_, hol', rfl, nl, rfl⟩
        unfold Builtin.«set.__init__» noKeywords Builtin.Frozenset.updateFrom
        generalize hPI : pyIter = PI
        wp_walk
        subst hPI
        refine wpAny_pyIter_list hl1 ?_
        refine wpAny_bind (wpAny_runValue ?_)
        have hlS : l < s.heap.objs.size := Heap.lt_size hol
        have hh3 : A.in1.in1.in1.handled = none := by simp [hh]
        have hz1 : (s.heap.push o0).objs.size = s.heap.objs.size + 1 := Heap.size_push ..
        have hneI : l ≠ (s.heap.push o0).objs.size := by
          rw [hz1]
          exact Nat.ne_of_lt (Nat.lt_succ_of_lt hlS)
        have hSf : s.heap.objs.size ∉ [(s.heap.push o0).objs.size, l] := by
          rw [hz1]
          simp only [List.mem_cons, List.not_mem_nil, or_false, not_or]
          exact ⟨Nat.ne_of_lt (Nat.lt_succ_self _), Nat.ne_of_gt hlS⟩
        have hval : ∀ (i : Nat) (v : Value), items[i]? = some v → ∃ k t, ns[i]? = some k ∧ v = .int k t := fun i v hv => by
          have hi : i < ns.length := by
            rw [← size]
            exact (Array.getElem?_eq_some_iff.mp hv).1
          obtain ⟨t, e⟩ := IntsAre.int_at hit i v (by rw [Array.getElem?_toList]; exact hv)
          refine ⟨ns[i], t, List.getElem?_eq_getElem hi, ?_⟩
          rw [e, List.getD_eq_getElem?_getD, List.getElem?_eq_getElem hi]
          rfl
        refine set_update_ints ((PySem.Walks.list hh3 _ l hneI items).toS) s.heap.objs.size hSf ns size hb hval (items.size - 0) 0 _ (by omega) (Nat.zero_le _) ⟨⟨_, Heap.get?_push_size _ rfl, rfl, rfl⟩, hl1.push _⟩ ?hseed ?hrest
        case hseed =>
          exact ⟨0, Nat.le_refl 0, setR_new_at (Heap.get?_push_of_some _ hS)⟩
        case hrest =>
          intro s' c' hm hc' hS'
          obtain ⟨h', g2, d', tk', os'⟩ := s'
          have e1 : g2 = s.gens := hm.gens
          have e2 : d' = s.drawn := hm.drawn
          have e3 : os' = s.os := hm.os
          subst e1 e2 e3
          show wpAny _ _ _ _ _ _
          refine wpAny_pure ?_
          show wpAny _ _ (ret Value.none) _ _ _
          rw [size] at hc'
          refine wpAny_pure ⟨rfl, h', tk', c', rfl, hS', hc', fun b o e => ?_⟩
          have hb0 : b < s.heap.objs.size := Heap.lt_size e
          refine hm.heap b o ?_ (Heap.get?_push_of_some _ (Heap.get?_push_of_some _ e))
          simp only [List.mem_cons, List.not_mem_nil, or_false, not_or]
          refine ⟨Nat.ne_of_lt hb0, ?_⟩
          rw [hz1]
          exact Nat.ne_of_lt (Nat.lt_succ_of_lt hb0)
      · cases r₂ with
        | error e => exact hr₂
        | ok fl₂ =>
          cases fl₂ with
          | ret r =>
            obtain ⟨rfl, h', tk, c', rfl, hS', hc', hk'⟩ := hr₂
            repeat (any_goals (first | assumption | wp_step))
            exact q _ _ _ hS' hc' hk'
          | _ => exact hr₂.elim
    | _ => exact hr.elim
end
end Wk

set_option Elab.async false
set_option linter.all false
set_option maxRecDepth 100000
set_option maxHeartbeats 1000000
/-! WkPc: built-ins written in two words. -/
namespace Wk
open PySem PySem.Spec L2
open PyProof.Rows hiding St

/-! ### the sorted members -/
theorem insI_mem {k j : Int} : ∀ {xs : List Int}, j ∈ insI k xs ↔ j = k ∨ j ∈ xs
  | [] => by simp [insI]
  | x :: r => by
    unfold insI
    split
    · simp
    · split
      · rename_i h
        subst h
        simp
      · rw [List.mem_cons, insI_mem, List.mem_cons]
        constructor
        · rintro (h | h | h)
          · exact .inr (.inl h)
          · exact .inl h
          · exact .inr (.inr h)
        · rintro (h | h | h)
          · exact .inr (.inl h)
          · exact .inl h
          · exact .inr (.inr h)
theorem insI_rise {k : Int} : ∀ {xs : List Int}, xs.Pairwise (· < ·) → (insI k xs).Pairwise (· < ·)
  | [], _ => by simp [insI]
  | x :: r, h => by
    unfold insI
    rw [List.pairwise_cons] at h
    split
    · rename_i q
      rw [List.pairwise_cons]
      refine ⟨fun y hy => ?_, List.pairwise_cons.mpr h⟩
      rcases List.mem_cons.mp hy with e | e
      · rw [e]
        exact q
      · have := h.1 y e
        omega
    · split
      · exact List.pairwise_cons.mpr h
      · rw [List.pairwise_cons]
        refine ⟨fun y hy => ?_, insI_rise h.2⟩
        rcases insI_mem.mp hy with e | e
        · omega
        · exact h.1 y e
theorem setI_mem {j : Int} : ∀ {xs : List Int}, j ∈ setI xs ↔ j ∈ xs
  | [] => by simp [setI]
  | x :: r => by
    unfold setI
    rw [insI_mem, setI_mem, List.mem_cons]
theorem setI_rise : ∀ {xs : List Int}, (setI xs).Pairwise (· < ·)
  | [] => .nil
  | x :: r => insI_rise setI_rise
theorem rise_uniq : ∀ {xs ys : List Int}, xs.Pairwise (· < ·) → ys.Pairwise (· < ·) → (∀ k, k ∈ xs ↔ k ∈ ys) → xs = ys
  | [], [], _, _, _ => rfl
  | [], y :: ys, _, _, h => by
    have := (h y).mpr List.mem_cons_self
    cases this
  | x :: xs, [], _, _, h => by
    have := (h x).mp List.mem_cons_self
    cases this
  | x :: xs, y :: ys, a, b, h => by
    rw [List.pairwise_cons] at a b
    have e : x = y := by
      rcases List.mem_cons.mp ((h x).mp List.mem_cons_self) with q | q
      · exact q
      · rcases List.mem_cons.mp ((h y).mpr List.mem_cons_self) with p | p
        · exact p.symm
        · have := b.1 x q
          have := a.1 y p
          omega
    subst e
    rw [rise_uniq a.2 b.2 fun k => ?_]
    have q := h k
    rw [List.mem_cons, List.mem_cons] at q
    constructor
    · intro hk
      rcases q.mp (.inr hk) with e | e
      · have := a.1 k hk
        omega
      · exact e
    · intro hk
      rcases q.mpr (.inr hk) with e | e
      · have := b.1 k hk
        omega
      · exact e
theorem setI_len : ∀ {xs : List Int}, (setI xs).length ≤ xs.length
  | [] => Nat.le_refl _
  | x :: r => by
    have ins : ∀ {k : Int} {ys : List Int}, (insI k ys).length ≤ ys.length + 1 := fun {k} => by
      intro ys
      induction ys with
      | nil => simp [insI]
      | cons y ys ih =>
        unfold insI
        split
        · simp
        · split
          · simp
          · simp only [List.length_cons]
            omega
    unfold setI
    have := @ins x (setI r)
    have := setI_len (xs := r)
    simp only [List.length_cons]
    omega
theorem ints_vals {K : PySem.W.Frag} {Z : Sx} {F : Hp} : ∀ {ds : List D} {us : List V} {is : List Int}, intsOf ds = some is → RlL K Z F ds us → us = is.map V.int
  | [], _, _, e, .nil => by
    cases e
    rfl
  | d :: ds, _, _, e, .cons r rs => by
    cases d with
    | int i =>
      unfold intsOf at e
      cases h : intsOf ds with
      | none =>
        rw [h] at e
        cases e
      | some js =>
        rw [h] at e
        cases e
        cases r
        rw [ints_vals h rs]
        rfl
    | _ => cases e
section
variable {K : PySem.W.Frag} {Z : Sx} {W : Wd} {S : Store} {H : Hp} {E : WX} {P : Pg} {σ : L2.St}
/-- a built-in of one argument -/
def mSp (P : Pg) (b : Bi) (m : Mv) : Mv := fun ρ S => (m ρ S).bind fun v S => (match vwL S [v] with
  | some xs => (ofO (biop P b xs) S).bind fun z S => .ok (.d z) S
  | none => .bad)
theorem rd_sp {b : Bi} {m : Mv} {Q : VK} (h : rdE K Z E (mSp P b m) σ H Q) : rdE K Z E m σ H fun x H1 => ∃ W S d z, Sto K Z W S H1 ∧ Tv K Z W.F H1 d x ∧ biop P b [d] = some z ∧ Gv K Z W S z Q := by
  obtain ⟨W, ρ, S, er, st, h⟩ := h
  refine ⟨W, ρ, S, er, st, rd_one er h fun x H1 W1 a S1 l1 er1 st1 ra h1 => ?_⟩
  split at h1
  · rename_i xs e
    obtain ⟨z, e2, g⟩ := ofO_gv h1
    have t := st1.tvL (.cons ra .nil) e
    cases t with
    | cons t tr =>
      cases tr
      exact ⟨W1, S1, _, z, st1, t, e2, g⟩
  · exact h1.elim
end
section
variable {X : Cx} {Z : Sx} {E : WX} {P : Pg} {a : Expr} {m : Mv} {p p2 pos pos2 : Pos}
theorem rgV_is (i j : Int) {F : Hp} {K : PySem.W.Frag} : RlL K Z F (rngD i (j - i).toNat) (rgV i j) := by
  have := rlL_ints (K := K) (Z := Z) (F := F) ((List.range (j - i).toNat).map fun k => i + (k : Nat))
  rw [List.map_map, List.map_map] at this
  exact this
theorem rdE_imp {K : PySem.W.Frag} {σ : L2.St} {H : Hp} {Q Q' : VK} (h : rdE K Z E m σ H Q) (i : ∀ x H1, Q x H1 → Q' x H1) : rdE K Z E m σ H Q' := by
  obtain ⟨W, ρ, S, er, st, h⟩ := h
  exact ⟨W, ρ, S, er, st, Po.imp h i⟩
theorem pe_tupRange (hc : X.calm = true) (hg : Gl X "tuple") (hm : X.mg "tuple" = none) (hg2 : Gl X "range") (hm2 : X.mg "range" = none) (hs : starE a = false) (ha : PE X a (rdE X.K Z E m)) :
    PE X (.Call (.Name "tuple" p) [.Call (.Name "range" p2) [a] [] pos2] [] pos) (rdE X.K Z E (mSp P .tupleRange1 m)) := by
  refine PE.imp (pe_tupRg hc hg hm (prg_1 hg2 hm2 ha (star_cons hs [] X.env))) fun σ H Q h => rdE_imp (rd_sp h) fun x H1 q => ?_
  obtain ⟨W, S, d, z, st, t, e, g⟩ := q
  cases t with
  | int j =>
    simp only [biop] at e
    split at e
    · rename_i hj
      cases e
      refine ⟨j, rfl, ⟨by omega, by omega, by omega, by omega, by omega⟩, ?_⟩
      have r := rgV_is (Z := Z) (F := W.F) (K := X.K) 0 j
      rw [Int.sub_zero] at r
      refine g.tup st ?_ r
      unfold rngD
      rw [List.length_map, List.length_range, sizeLine_eq]
      omega
    · cases e
  | _ => simp [biop] at e
theorem pe_lstRange (hc : X.calm = true) (hg : Gl X "list") (hm : X.mg "list" = none) (hg2 : Gl X "range") (hm2 : X.mg "range" = none) (hs : starE a = false) (ha : PE X a (rdE X.K Z E m)) :
    PE X (.Call (.Name "list" p) [.Call (.Name "range" p2) [a] [] pos2] [] pos) (rdE X.K Z E (mSp P .listRange1 m)) := by
  refine PE.imp (pe_listRg hc hg hm (prg_1 hg2 hm2 ha (star_cons hs [] X.env))) fun σ H Q h => rdE_imp (rd_sp h) fun x H1 q => ?_
  obtain ⟨W, S, d, z, st, t, e, g⟩ := q
  cases t with
  | int j =>
    simp only [biop] at e
    split at e
    · rename_i hj
      cases e
      refine ⟨j, rfl, ⟨by omega, by omega, by omega, by omega, by omega⟩, ?_⟩
      have r := rgV_is (Z := Z) (F := W.F) (K := X.K) 0 j
      rw [Int.sub_zero] at r
      refine g.lst st ?_ r
      unfold rngD
      rw [List.length_map, List.length_range, sizeLine_eq]
      omega
    · cases e
  | _ => simp [biop] at e
/-- what the lists in a list are -/
theorem joinD_vals {K : PySem.W.Frag} {F : Hp} : ∀ {ds : List D} {us : List V} {ys : List D}, joinD ds = some ys → RlL K Z F ds us →
    ∃ ps : List (Addr × List V), us = ps.map (fun p => V.ref p.1) ∧ (∀ p ∈ ps, F p.1 = some (.lst p.2)) ∧ RlL K Z F ys (ps.map (·.2)).flatten
  | [], _, _, e, .nil => by
    cases e
    exact ⟨[], rfl, fun p h => absurd h (by simp), RlL.nil⟩
  | d :: ds, _, _, e, .cons r rs => by
    cases d with
    | lst xs =>
      unfold joinD at e
      cases h : joinD ds with
      | none =>
        rw [h] at e
        cases e
      | some zs =>
        rw [h] at e
        cases e
        obtain ⟨ps, e1, e2, e3⟩ := joinD_vals h rs
        cases r with
        | lst hF n r =>
          refine ⟨(_, _) :: ps, by rw [e1]; rfl, fun p hp => ?_, r.app e3⟩
          rcases List.mem_cons.mp hp with z | z
          · rw [z]
            exact hF
          · exact e2 p z
    | _ => cases e
theorem pe_sumL (hc : X.calm = true) (hg : Gl X "sum") (hm : X.mg "sum" = none) (hs : starE a = false) (ha : PE X a (rdE X.K Z E m)) :
    PE X (.Call (.Name "sum" p) [a, .List [] p2] [] pos) (rdE X.K Z E (mSp P .sum m)) := by
  refine PE.imp (pe_callB (cr_sumL hc) hg hm boot_sum (pa_cons ha (pa_cons (pe_lst pa_nil) pa_nil) (star_cons hs [_] X.env)) (he := star_cons hs [_] X.env)) fun σ H Q h => rdE_imp (rd_sp h) fun x H1 q => ?_
  obtain ⟨W, S, d, z, st, t, e, g⟩ := q
  refine ⟨Nat.zero_le _, fun q hq => ?_⟩
  cases t with
  | lst hl n r =>
    simp only [biop] at e
    obtain ⟨ys, e1, e2⟩ := Option.bind_eq_some_iff.mp e
    split at e2
    · rename_i hz
      cases e2
      obtain ⟨ps, rfl, k2, k3⟩ := joinD_vals e1 r
      have st2 := st.grow (o := .lst []) hq
      have ne : ∀ {b : Addr} {o : HO}, H1 b = some o → (upd H1 q (.lst [])) b = some o := fun {b o} hb => Ex.new hq b o hb
      refine ⟨_, q, ps, rfl, SqL.of (ne hl), fun p hp => SqL.of (ne (st.ex _ _ (k2 p hp))), upd_same, by rw [← k3.len]; exact hz, fun e0 => ?_, fun p hp => ?_⟩
      · subst e0
        cases k3
        exact g.lst st (Nat.zero_le _) .nil q hq
      · exact g.lst st2 hz k3 p hp
    · cases e2
  | _ => simp [biop] at e
/-- set(xs), a list of fewer than 64 ints -/
def rSetI (K : PySem.W.Frag) (w : World) : List V → Hp → VK → Prop := fun xs H Q => ∃ (l : Addr) (ns : List Int), xs = [V.ref l] ∧ SqL K H l (ns.map V.int) ∧ ns.length < 64 ∧
  ∀ b c, H b = none → c ≤ ns.length → Q (.ref b) (upd H b (SetO w b (fun j => decide (j ∈ ns)) c))
theorem cr_setI (hc : X.calm = true) : CallR X (.type "set") (rSetI X.K X.w) := by
  intro pins s σ H xs us Q I r h
  obtain ⟨l, ns, rfl, hl, hf, q⟩ := h
  rw [Vals.ref1 r]
  obtain ⟨its, rv, pl, hz⟩ := I.list hl
  have fresh : H s.heap.objs.size = none := I.hok.fresh (Nat.le_refl _)
  refine call_set_listI (P := X.prog) (w := X.w) ns (I.ok.hd hc) pl.isList (by simpa using rv.ints) (by unfold scanBound; omega) fun h' tk c R hc2 k => ?_
  exact ⟨.ref s.heap.objs.size, _, I.laid (t' := tk) k (Nat.le_refl _) (setO_new R), rfl, q _ c fresh hc2⟩
theorem sortD_some {xs : List D} {z : D} (h : sortD xs = some z) : ∃ is, intsOf xs = some is ∧ is.length < 64 ∧ z = .lst ((setI is).map .int) := by
  unfold sortD at h
  obtain ⟨is, h1, h2⟩ := Option.bind_eq_some_iff.mp h
  split at h2
  · rename_i q
    cases h2
    exact ⟨is, h1, q, rfl⟩
  · cases h2
theorem setI_line {is : List Int} (h : is.length < 64) : ((setI is).map D.int).length ≤ sizeLine := by
  have := @setI_len is
  rw [List.length_map, sizeLine_eq]
  omega
theorem pe_sortedSet (hc : X.calm = true) (hg : Gl X "sorted") (hm : X.mg "sorted" = none) (hg2 : Gl X "set") (hm2 : X.mg "set" = none) (hs : starE a = false) (ha : PE X a (rdE X.K Z E m)) :
    PE X (.Call (.Name "sorted" p) [.Call (.Name "set" p2) [a] [] pos2] [] pos) (rdE X.K Z E (mSp P .sortedSet m)) := by
  refine PE.imp (pe_callB (cr_sortedSet hc) hg hm (by kernel_rfl) (pa_cons (pe_callTy (cr_setI hc) hg2 hm2 (by kernel_rfl) (pa_cons ha pa_nil (star_cons hs [] X.env)) (he := star_cons hs [] X.env)) pa_nil)) fun σ H Q h => rdE_imp (rd_sp h) fun x H1 q => ?_
  obtain ⟨W, S, d, z, st, t, e, g⟩ := q
  cases t with
  | lst hl n r =>
    simp only [biop] at e
    obtain ⟨is, e1, h64, rfl⟩ := sortD_some e
    have ev := ints_vals e1 r
    subst ev
    refine ⟨_, is, rfl, SqL.of hl, h64, fun b c hb hcl => ⟨b, _, c, rfl, upd_same, by omega, fun ns q hr hmem hlen hq => ?_⟩⟩
    have en : ns = setI is := rise_uniq hr setI_rise fun k => by rw [hmem, setI_mem, decide_eq_true_eq]
    rw [en]
    exact g.lst (st.grow hb) (setI_line h64) (rlL_ints _) q hq
  | _ => simp [biop] at e
/-- keys put in, one behind another -/
def addKs : List Int → List Int → List Int
  | ks, [] => ks
  | ks, k :: r => addKs (if k ∈ ks then ks else ks ++ [k]) r
def keysV (ks : List Int) : List (Sum Int Str × V) := ks.map fun k => (Sum.inl k, V.bl true)
theorem putK_keys {ks : List Int} {k : Int} : putK (keysV ks) (.inl k) (.bl true) = keysV (if k ∈ ks then ks else ks ++ [k]) := by
  unfold putK
  have e : ((keysV ks).any fun kv => decide (kv.1 = .inl k)) = decide (k ∈ ks) := by
    rw [Bool.eq_iff_iff, List.any_eq_true, decide_eq_true_eq]
    unfold keysV
    constructor
    · rintro ⟨q, hq, e⟩
      obtain ⟨j, hj, rfl⟩ := List.mem_map.mp hq
      have e := of_decide_eq_true e
      injection e with e
      rw [← e]
      exact hj
    · intro h
      exact ⟨_, List.mem_map.mpr ⟨k, h, rfl⟩, by simp⟩
  rw [e]
  by_cases h : k ∈ ks
  · rw [if_pos (decide_eq_true h), if_pos h]
    unfold keysV
    rw [List.map_map]
    refine List.map_congr_left fun j _ => ?_
    show (if Sum.inl j = Sum.inl k then _ else _) = _
    split <;> rfl
  · rw [if_neg (by simpa using h), if_neg h]
    unfold keysV
    rw [List.map_append]
    rfl
theorem addKs_take {is : List Int} {i : Nat} {k : Int} (h : is[i]? = some k) : addKs [] (is.take (i + 1)) = if k ∈ addKs [] (is.take i) then addKs [] (is.take i) else addKs [] (is.take i) ++ [k] := by
  have gen : ∀ (xs ks : List Int), addKs ks (xs ++ [k]) = if k ∈ addKs ks xs then addKs ks xs else addKs ks xs ++ [k] := by
    intro xs
    induction xs with
    | nil => intro ks; rfl
    | cons x xs ih => intro ks; exact ih _
  rw [List.take_succ, h]
  exact gen _ _
theorem addKs_facts : ∀ {xs ks : List Int}, ks.Nodup → (addKs ks xs).Nodup ∧ (∀ j, j ∈ addKs ks xs ↔ j ∈ ks ∨ j ∈ xs) ∧ (addKs ks xs).length ≤ ks.length + xs.length
  | [], ks, h => ⟨h, fun j => by simp [addKs], Nat.le_refl _⟩
  | x :: xs, ks, h => by
    have hn : (if x ∈ ks then ks else ks ++ [x]).Nodup := by
      split
      · exact h
      · rename_i q
        rw [List.nodup_append]
        refine ⟨h, by simp, fun a ha b hb e => ?_⟩
        rw [List.mem_singleton.mp hb] at e
        exact q (e ▸ ha)
    obtain ⟨h1, h2, h3⟩ := addKs_facts (xs := xs) hn
    refine ⟨h1, fun j => ?_, ?_⟩
    · show j ∈ addKs _ xs ↔ _
      rw [h2, List.mem_cons]
      split
      · rename_i q
        constructor
        · rintro (e | e)
          · exact .inl e
          · exact .inr (.inr e)
        · rintro (e | e | e)
          · exact .inl e
          · exact .inl (e ▸ q)
          · exact .inr e
      · rw [List.mem_append, List.mem_singleton, or_assoc]
    · show (addKs _ xs).length ≤ _
      refine Nat.le_trans h3 ?_
      split
      · simp only [List.length_cons]
        omega
      · simp only [List.length_cons, List.length_append, List.length_nil]
        omega
theorem pe_sortedKeys {t : Str} {i : Nat} {tp kp vp dpos : Pos} {sc : Scope} {j : Nat} (hc : X.calm = true) (hN : X.N.Nodup) (hg : Gl X "sorted") (hm : X.mg "sorted" = none) (hi : X.N[i]? = some t) (ok : BlkOk X.N X.env.scope sc [(t, i)])
    (hgt : ∀ (s : Shared) (H : Hp) (C : Addr) (cl : List (Str × Addr)) (fp : List Addr), PG (X.blk s H sc (compEnvC sc cl C X.env) fp) (.Name t tp) (gName i))
    (hk : ∀ (s : Shared) (H : Hp) (C : Addr) (cl : List (Str × Addr)) (fp : List Addr), PE (X.blk s H sc (compEnvC sc cl C X.env) fp) (.Name t kp) (tVar i))
    (hset : ∀ x, foldedSetIterable a X.env x = pure x) (ha : PE X a (rdE X.K Z E m)) :
    PE X (.Call (.Name "sorted" p) [.DictComp (.Name t kp) (.Constant (.bool true) j vp) [⟨.Name t tp, a, [], 0⟩] sc dpos] [] pos) (rdE X.K Z E (mSp P .sortedKeys m)) := by
  refine ⟨fun pins s σ H Q I h => ?_⟩
  have hlt : i < σ.length := by
    rw [I.len]
    exact (List.getElem?_eq_some_iff.mp hi).1
  refine (pe_callB (call_sortedDI hc) hg hm (by kernel_rfl) (pa_cons (pe_dc hc hN (pi_tup ha) ok hgt (fun _ _ _ _ _ => pts_nil) hk (fun _ _ _ _ _ => pe_bl) hset) pa_nil)).run pins s σ H Q I (rdE_imp (rd_sp h) fun x H1 q => ?_)
  obtain ⟨W, S, d, z, st, tv, e, g⟩ := q
  cases tv with
  | tup hF n r =>
    simp only [biop] at e
    obtain ⟨is, e1, h64, rfl⟩ := sortD_some e
    have ev := ints_vals e1 r
    subst ev
    have hq := st.ex.t hF
    refine ⟨_, rfl, ⟨_, hq⟩, fun D hD => dc_tup (xs := is.map V.int) (fun i' H => H = upd H1 D (.dK (keysV (addKs [] (is.take i'))))) rfl (fun i' H _ e => by rw [e]; exact (Ex.new hD).t hq) (fun i' x H hx eH => ?_) fun H eH => ?_⟩
    · rw [List.getElem?_map] at hx
      cases hk : is[i']? with
      | none =>
        rw [hk] at hx
        cases hx
      | some k =>
        rw [hk] at hx
        cases hx
        refine ⟨?_, ?_⟩
        · show ((σ.set i none).set i _).set i none = σ.set i none
          rw [List.set_set, List.set_set]
        · refine ite_tt (Q := H = upd H1 D (.dK (keysV (addKs [] (is.take (i' + 1)))))) ?_
          refine ⟨.int k, ?_, keysV (addKs [] (is.take i')), .inl k, rfl, by rw [eH]; exact upd_same, ?_, ?_⟩
          · show ((σ.set i none).set i (some (V.int k)))[i]? = _
            rw [List.getElem?_set_self (by rw [List.length_set]; exact hlt)]
          · have := (addKs_facts (xs := is.take i') (ks := []) .nil).2.2
            have l2 : (is.take i').length ≤ is.length := by
              rw [List.length_take]
              omega
            unfold keysV
            rw [List.length_map, sizeLine_eq]
            simp only [List.length_nil] at this
            omega
          · rw [eH, upd_upd, putK_keys, addKs_take hk]
    · have et : is.take (is.map V.int).length = is := List.take_of_length_le (by rw [List.length_map]; exact Nat.le_refl _)
      rw [et] at eH
      subst eH
      obtain ⟨f1, f2, f3⟩ := addKs_facts (xs := is) (ks := []) .nil
      refine ⟨D, keysV (addKs [] is), addKs [] is, rfl, Rd.of upd_same, ?_, ?_, fun ys q hp hs hq2 => ?_⟩
      · unfold keysV
        rw [List.map_map]
        rfl
      · simp only [List.length_nil] at f3
        omega
      · have en : ys = setI is := rise_uniq ?_ setI_rise fun k => ?_
        · rw [en]
          exact g.lst (st.grow hD) (setI_line h64) (rlL_ints _) q hq2
        · have nd : ys.Nodup := hp.nodup_iff.mpr f1
          exact List.Pairwise.imp₂ (fun a b h1 h2 => by
            have : a ≠ b := h2
            omega) hs nd
        · rw [hp.mem_iff, f2, setI_mem]
          simp
  | _ => simp [biop] at e
end
end Wk

set_option Elab.async false
set_option linter.all false
set_option maxRecDepth 100000
set_option maxHeartbeats 1000000
/-! WkR: the written text against the core language: expressions. -/
namespace Wk
open PySem PySem.Spec L2
open PyProof.Rows hiding St

structure Sc where
  N : List Str
  sc : Scope
  fnc : Str → Bool
  /-- may it make lambdas? -/
  lam : Bool
def okGl (c : Sc) (x : Str) : Bool := (match c.sc.names.lookup x with
  | some .globalImplicit => true
  | _ => false) && !(x == ("__debug__" : Str)) && !decide (x = ("__name__" : Str))
def okBl (T : Tx) (c : Sc) (x : Str) : Bool := okGl c x && decide (x ∈ T.bl)
def okVar (c : Sc) (i : Nat) (x : Str) : Bool := decide (c.N[i]? = some x) && (match c.sc.names.lookup x with
  | some .local => true
  | some .cell => true
  | some .free => true
  | _ => false) && !(x == ("__debug__" : Str)) && !(x == ("__classdict__" : Str))
def okNm (c : Sc) (i : Nat) (x : Str) : Bool := decide (c.N[i]? = some x) && (match c.sc.names.lookup x with
  | some .local => true
  | some .cell => c.fnc x
  | _ => false)
def okNs (c : Sc) : List Nat → List Expr → Bool
  | [], [] => true
  | i :: is, .Name x _ :: es => okNm c i x && okNs c is es
  | _, _ => false
def okPt (c : Sc) : Pt → Expr → Bool
  | .nm i, .Name x _ => okNm c i x
  | .tup is, .Tuple es _ _ => okNs c is es
  | _, _ => false
def okC : D → Expr → Bool
  | .non, .Constant .none _ _ => true
  | .bl b, .Constant (.bool b') _ _ => b == b'
  | .int i, .Constant (.int j) _ _ => decide (i = j)
  | .str s, .Constant (.str t) _ _ => decide (s = t)
  | _, _ => false
def noSet : Expr → Bool
  | .Set _ _ _ => false
  | _ => true
def noSl : Expr → Bool
  | .Slice _ _ _ _ => false
  | _ => true
def isCon (T : Tx) (x : Str) (j : Nat) : Bool := match T.gl.lookup x with
  | some (.con i) => i == j
  | _ => false
def isFnN (T : Tx) (x : Str) (j : Nat) : Bool := match T.gl.lookup x with
  | some (.fn i) => i == j
  | _ => false
def isClsN (T : Tx) (x : Str) (j : Nat) : Bool := match T.gl.lookup x with
  | some (.cls i) => i == j
  | _ => false
def okTy (T : Tx) (c : Sc) : TyR → Expr → Bool
  | .ty t, .Name x _ => okBl T c x && decide (x = Str.ofString (tyS t)) && !decide (t = .non)
  | .cls j, .Name x _ => okGl c x && isClsN T x j
  | .exc j, .Name x _ => okGl c x && (match T.gl.lookup x with
    | some (.exc i) => i == j
    | _ => false)
  | _, _ => false
def okTys (T : Tx) (c : Sc) : List TyR → List Expr → Bool
  | [], [] => true
  | t :: ts, e :: es => okTy T c t e && okTys T c ts es
  | _, _ => false
def okTs (T : Tx) (c : Sc) (ts : List TyR) (e : Expr) : Bool := match ts, e with
  | t :: ts, .Tuple es _ _ => okTys T c (t :: ts) es && decide (ts.length < 100)
  | [t], e => okTy T c t e
  | _, _ => false
/-- a call's arguments against the def -/
def okCall (T : Tx) (f off n : Nat) (is : List Nat) (kws : List Keyword) : Bool := match T.P.fns[f]?, T.ps[f]? with
  | some d, some l => decide (n + off ≤ d.pars) && is.all (fun i => decide (n + off ≤ i) && decide (i < d.pars)) && decide (kws.filterMap (·.arg) = is.map fun i => (l[i]?).getD Str.empty)
  | _, _ => false
def restE (op : BoolOp) (y : Expr) (rest : List Expr) (pos : Pos) : Expr := match rest with
  | [] => y
  | _ :: _ => .BoolOp op (y :: rest) pos
def ownL (N : List Str) (own : List Nat) : List (Str × Nat) := own.map fun i => ((N[i]?).getD Str.empty, i)
def blkSc (c : Sc) (scope : Scope) : Sc := ⟨c.N, relS scope c.sc, fun x => scope.names.lookup x == some .cell, false⟩
def lamSc (c : Sc) (scope : Scope) : Sc := ⟨c.N, scope, fun _ => false, false⟩
def okLam (c : Sc) (params : Arguments) (scope : Scope) : Bool := c.lam && (match lamPar params with
  | some qs => lamSB3 c.sc scope qs c.N
  | none => false)
def isHear (T : Tx) (f : Nat) : Bool := match T.P.fns[f]? with
  | some d => d.star
  | none => false
def isExcN (T : Tx) (x : Str) (j : Nat) : Bool := match T.gl.lookup x with
  | some (.exc i) => i == j
  | _ => false
/-- what is walked: its arguments -/
def itArgs (T : Tx) (c : Sc) (k : ItK) (tg iter : Expr) : Option (List Expr) := match k, iter with
  | .seq, e => if noSet e then some [e] else none
  | .rng1, .Call (.Name x _) [a] [] _ => if okBl T c x && decide (x = ("range" : Str)) then some [a] else none
  | .rng2, .Call (.Name x _) [a, b] [] _ => if okBl T c x && decide (x = ("range" : Str)) then some [a, b] else none
  | .zip, .Call (.Name x _) [a, b] [] _ => (match tg with
    | .Tuple _ _ _ => if okBl T c x && decide (x = ("zip" : Str)) then some [a, b] else none
    | _ => none)
  | .enum, .Call (.Name x _) [a] [] _ => (match tg with
    | .Tuple _ _ _ => if okBl T c x && decide (x = ("enumerate" : Str)) then some [a] else none
    | _ => none)
  | _, _ => none
def isNew : CE → Bool
  | .lst _ => true
  | .comp _ _ _ _ _ _ => true
  | .comp2 _ _ _ _ _ _ _ _ _ _ _ => true
  | _ => false
def okBm (m : Bm) (name : Str) (es : List Expr) : Bool := match m, es with
  | .append, [_] => decide (name = ("append" : Str))
  | .popAt, [_] => decide (name = ("pop" : Str))
  | .pop, [] => decide (name = ("pop" : Str))
  | .count, [_] => decide (name = ("count" : Str))
  | .index, [_] => decide (name = ("index" : Str))
  | _, _ => false
def ixOf (N : List Str) (t : Str) : Nat := N.findIdx (· == t)
/-- a built-in in two words: its one argument -/
def spArg (T : Tx) (c : Sc) (b : Bi) (x : Str) (e : Expr) (es : List Expr) : Option Expr := match b, e, es with
  | .tupleRange1, .Call (.Name y _) [a] [] _, [] => if decide (x = ("tuple" : Str)) && okBl T c x && decide (y = ("range" : Str)) && okBl T c y then some a else none
  | .listRange1, .Call (.Name y _) [a] [] _, [] => if decide (x = ("list" : Str)) && okBl T c x && decide (y = ("range" : Str)) && okBl T c y then some a else none
  | .sortedSet, .Call (.Name y _) [a] [] _, [] => if decide (x = ("sorted" : Str)) && okBl T c x && decide (y = ("set" : Str)) && okBl T c y then some a else none
  | .sum, a, [.List [] _] => if decide (x = ("sum" : Str)) && okBl T c x then some a else none
  | .sortedKeys, .DictComp (.Name k _) (.Constant (.bool true) _ _) [⟨.Name t _, a, [], ia⟩] scope _, [] =>
    if decide (x = ("sorted" : Str)) && okBl T c x && decide (ia = 0) && decide (k = t) && noSet a && blkC c.N c.sc scope [(t, ixOf c.N t)] && okNm (blkSc c scope) (ixOf c.N t) t && okVar (blkSc c scope) (ixOf c.N t) t then some a else none
  | _, _, _ => none
def kD : Sum Int Str → D
  | .inl i => .int i
  | .inr s => .str s
mutual
def okE (T : Tx) (c : Sc) : CE → Expr → Bool
  | .var i, .Name x _ => okVar c i x
  | .cst d, e => okC d e
  | .glo j, .Name x _ => okGl c x && isCon T x j
  | .live e, ex => isNew e && okE T c e ex
  | .bin o a b, .BinOp x op y _ => decide (opS o = op) && okE T c a x && okE T c b y
  | .neg a, .UnaryOp .USub x _ => okE T c a x
  | .cmp o a b, .Compare x [op] [y] _ => decide (coS o = op) && noSet y && okE T c a x && okE T c b y
  | .chn o p a b d, .Compare x [op, op'] [y, z] _ => decide (coS o = op) && decide (coS p = op') && noSet z && okE T c a x && okE T c b y && okE T c d z
  | .land a b, .BoolOp .And (x :: y :: rest) pos => okE T c a x && okE T c b (restE .And y rest pos)
  | .lor a b, .BoolOp .Or (x :: y :: rest) pos => okE T c a x && okE T c b (restE .Or y rest pos)
  | .lnot a, .UnaryOp .Not x _ => okE T c a x
  | .ite d a b, .IfExp x y z _ => okE T c d x && okE T c a y && okE T c b z
  | .tup es, .Tuple xs _ _ => decide (es.length ≤ 1000) && okL T c es xs
  | .lst es, .List xs _ => decide (es.length ≤ 1000) && okL T c es xs
  | .tupS es, .Tuple xs _ _ => okS T c es xs
  | .lstS es, .List xs _ => okS T c es xs
  | .dct kvs, .Dict ks vs _ => (kvs.isEmpty && ks.isEmpty && vs.isEmpty) || (decide (kvs.length ≤ 15) && !kvs.isEmpty && decide ((kvs.map (·.1)).Nodup) && okK T c kvs ks vs)
  | .ix a i, .Subscript x y _ => noSl y && okE T c a x && okE T c i y
  | .cut a lo hi, .Subscript x (.Slice l h none _) _ => okE T c a x && okP T c lo l && okP T c hi h
  | .fld a f, .Attribute x name _ => decide (T.nms[f]? = some name) && notSup x && okE T c a x
  | .isi a ts, .Call (.Name x _) [y, te] [] _ => okBl T c x && decide (x = ("isinstance" : Str)) && !starE y && okTs T c ts te && okE T c a y
  | .call f as ks, .Call (.Name x _) es kws _ => okGl c x && isFnN T x f && okCall T f 0 as.length (ks.map (·.1)) kws && decide ((ks.map (·.1)).Nodup) && okL T c as es && okKs T c ks kws
  | .mk j as ks, .Call (.Name x _) es kws _ => okGl c x && isClsN T x j && (match (T.P.cls[j]?).bind (·.init) with
    | some f => okCall T f 1 as.length (ks.map (·.1)) kws
    | none => false) && decide ((ks.map (·.1)).Nodup) && okL T c as es && okKs T c ks kws
  | .meth o m as ks, .Call (.Attribute x name apos) es kws pos => decide (T.nms[m]? = some name) && notSup x && (apos.endLine == pos.line) && decide (es.length + kws.length + 1 < 30) && (T.P.cls.all fun kd => match kd.meths.lookup m with
    | some f => okCall T f 1 as.length (ks.map (·.1)) kws
    | none => true) && decide ((ks.map (·.1)).Nodup) && okE T c o x && okL T c as es && okKs T c ks kws
  | .heard f body, .Call (.Name x _) [.Lambda params ex scope _] [] _ => okGl c x && isFnN T x f && isHear T f && okLam c params scope && okE T (lamSc c scope) body ex
  | .bi b as, .Call (.Name x _) (e :: es) [] _ => (match biId b with
    | some (_, n) => decide (x = Str.ofString n) && okBl T c x && okL T c as (e :: es)
    | none => match spArg T c b x e es with
      | some a => decide (as.length = 1) && okL T c as [a]
      | none => false)
  | .bm m o as, .Call (.Attribute x name apos) es [] pos => notSup x && (apos.endLine == pos.line) && okE T c o x && okL T c as es && okBm m name es
  | .comp own k as p cond elt, .ListComp el [⟨tg, iter, ifs, ia⟩] scope _ => decide (ia = 0) && blkC c.N c.sc scope (ownL c.N own) && ptIn p own && noSet iter && okPt (blkSc c scope) p tg && (match itArgs T c k tg iter with
    | some es => okL T c as es
    | none => false) && okF T (blkSc c scope) cond ifs && okE T (blkSc c scope) elt el
  | .comp2 own own1 k as p cond k1 as1 p1 cond1 elt, .ListComp el [⟨tg, iter, ifs, ia⟩, ⟨tg1, iter1, ifs1, ia1⟩] scope _ => decide (ia = 0) && decide (ia1 = 0) && blkC c.N c.sc scope (ownL c.N own) && ptIn p own && ptIn p1 own1 && own1.all (fun i => own.contains i) && noSet iter && noSet iter1 && okPt (blkSc c scope) p tg && okPt (blkSc c scope) p1 tg1 && (match itArgs T c k tg iter with
    | some es => okL T c as es
    | none => false) && (match itArgs T (blkSc c scope) k1 tg1 iter1 with
    | some es => okL T (blkSc c scope) as1 es
    | none => false) && okF T (blkSc c scope) cond ifs && okF T (blkSc c scope) cond1 ifs1 && okE T (blkSc c scope) elt el
  | _, _ => false
def okL (T : Tx) (c : Sc) : List CE → List Expr → Bool
  | [], [] => true
  | e :: es, x :: xs => !starE x && okE T c e x && okL T c es xs
  | _, _ => false
def okS (T : Tx) (c : Sc) : List (Bool × CE) → List Expr → Bool
  | [], [] => true
  | (true, e) :: es, .Starred x _ :: xs => okE T c e x && okS T c es xs
  | (false, e) :: es, x :: xs => !starE x && okE T c e x && okS T c es xs
  | _, _ => false
def okK (T : Tx) (c : Sc) : List (Sum Int Str × CE) → List (Option Expr) → List Expr → Bool
  | [], [], [] => true
  | (k, e) :: es, some y :: ys, x :: xs => okC (kD k) y && okE T c e x && okK T c es ys xs
  | _, _, _ => false
def okKs (T : Tx) (c : Sc) : List (Nat × CE) → List Keyword → Bool
  | [], [] => true
  | (_, e) :: es, ⟨n, x, _⟩ :: xs => n.isSome && okE T c e x && okKs T c es xs
  | _, _ => false
def okF (T : Tx) (c : Sc) : Option CE → List Expr → Bool
  | none, [] => true
  | some e, [x] => okE T c e x
  | _, _ => false
def okP (T : Tx) (c : Sc) : Option CE → Option Expr → Bool
  | none, none => true
  | some e, some x => okE T c e x
  | _, _ => false
end
end Wk

set_option Elab.async false
set_option linter.all false
set_option maxRecDepth 100000
set_option maxHeartbeats 1000000
/-! WkS: what the checks tell. -/
namespace Wk
open PySem PySem.Spec L2
open PyProof.Rows hiding St

structure Ctx (T : Tx) (Z : Sx) (cl : Cl) (k : Nat) (c : Sc) (X : Cx) (E : WX) : Prop where
  calm : X.calm = true
  N : X.N = c.N
  sc : X.env.scope = c.sc
  fnc : ∀ x, c.fnc x = true → X.fn x = true
  nd : X.N.Nodup
  G : Gd T Z cl k X.prog X.w X.K X.mg X.base X.A
  tk : Takes X E
  lam : c.lam = true → ∃ cd P, X.env.code = .ref cd ∧ LamX.TabB X.base X.mg cd P ∧ (P, X.env.qual ++ "<lambda>") ∈ Z.tb ∧ (∀ p ∈ Z.tb, p.1 = P → p.2 = X.env.qual ++ "<lambda>") ∧ Room (k + 5) X.A
section
variable {T : Tx} {Z : Sx} {cl : Cl} {k : Nat} {c : Sc} {X : Cx} {E : WX}
theorem Ctx.blk (C : Ctx T Z cl k c X E) {scope : Scope} (s : Shared) (H : Hp) (a : Addr) (cs : List (Str × Addr)) (fp : List Addr) : Ctx T Z cl k (blkSc c scope) (X.blk s H scope (compEnvC scope cs a X.env) fp) (fun _ _ _ _ => False) := by
  refine ⟨C.calm, C.N, ?_, fun x h => h, C.nd, C.G, fun u s' h => ?_, fun z => nomatch z⟩
  · show relS scope X.env.scope = relS scope c.sc
    rw [C.sc]
  · obtain ⟨_, _, _, _, _, _, _, _, _, _, _, _, _, _, _, _, h⟩ := h
    exact h.elim
theorem Ctx.gl (C : Ctx T Z cl k c X E) {x : Str} (h : okGl c x = true) : Gl X x ∧ (x == ("__debug__" : Str)) = false ∧ x ≠ ("__name__" : Str) := by
  unfold okGl at h
  simp only [Bool.and_eq_true, Bool.not_eq_true', decide_eq_false_iff_not] at h
  obtain ⟨⟨h1, h2⟩, h3⟩ := h
  refine ⟨?_, h2, h3⟩
  show X.env.scope.names.lookup x = some .globalImplicit
  rw [C.sc]
  split at h1
  · assumption
  · cases h1
theorem Ctx.bl (C : Ctx T Z cl k c X E) {x : Str} (h : okBl T c x = true) : Gl X x ∧ X.mg x = none ∧ (x == ("__debug__" : Str)) = false ∧ x ≠ ("__name__" : Str) := by
  unfold okBl at h
  rw [Bool.and_eq_true] at h
  obtain ⟨h1, h2, h3⟩ := C.gl h.1
  exact ⟨h1, C.G.bl x (of_decide_eq_true h.2), h2, h3⟩
theorem Ctx.var (C : Ctx T Z cl k c X E) {x : Str} {i : Nat} {pos : Pos} (h : okVar c i x = true) : PE X (.Name x pos) (tVar i) := by
  unfold okVar at h
  simp only [Bool.and_eq_true, Bool.not_eq_true', decide_eq_true_eq] at h
  obtain ⟨⟨⟨h1, h2⟩, h3⟩, h4⟩ := h
  refine pe_var (by rw [C.N]; exact h1) ?_ h3 h4
  unfold Vis
  rw [C.sc]
  split at h2
  · rename_i e
    exact .inl e
  · rename_i e
    exact .inr (.inl e)
  · rename_i e
    exact .inr (.inr e)
  · cases h2
theorem Ctx.nm (C : Ctx T Z cl k c X E) {x : Str} {i : Nat} (h : okNm c i x = true) : X.N[i]? = some x ∧ L2.Loc X.env.scope x ∧ (X.fn x = true ∨ X.env.scope.names.lookup x = some .local) := by
  unfold okNm at h
  simp only [Bool.and_eq_true, decide_eq_true_eq] at h
  obtain ⟨h1, h2⟩ := h
  refine ⟨by rw [C.N]; exact h1, ?_⟩
  unfold L2.Loc
  rw [C.sc]
  split at h2
  · rename_i e
    exact ⟨.inl e, .inr e⟩
  · rename_i e
    exact ⟨.inr e, .inl (C.fnc x h2)⟩
  · cases h2
theorem Ctx.pgs (C : Ctx T Z cl k c X E) : ∀ {is : List Nat} {es : List Expr}, okNs c is es = true → PGs X es (gNs is) ∧ (assignEach es X.env).length = is.length ∧ (assignEach es X.env).findIdx? (·.1) = none
  | [], [], _ => ⟨pgs_nil, rfl, rfl⟩
  | i :: is, .Name x p :: es, h => by
    simp only [okNs, Bool.and_eq_true] at h
    obtain ⟨h1, h2, h3⟩ := C.pgs h.2
    obtain ⟨n1, n2, n3⟩ := C.nm h.1
    refine ⟨pgs_cons (pg_name C.nd n1 n2 n3) h1 rfl, congrArg (· + 1) h2, ?_⟩
    show List.findIdx? (·.1) ((false, assign (.Name x p) X.env) :: assignEach es X.env) = none
    rw [List.findIdx?_cons, h3]
    rfl
theorem Ctx.pg (C : Ctx T Z cl k c X E) {p : Pt} {e : Expr} (h : okPt c p e = true) : PG X e (gP X.K p) := by
  cases p with
  | nm i =>
    cases e with
    | Name x pos =>
      obtain ⟨n1, n2, n3⟩ := C.nm (show okNm c i x = true from h)
      exact pg_name C.nd n1 n2 n3
    | _ => exact (Bool.false_ne_true h).elim
  | tup is =>
    cases e with
    | Tuple es kk pos =>
      obtain ⟨h1, h2, h3⟩ := C.pgs (show okNs c is es = true from h)
      exact pg_tup C.calm h1 h2 h3
    | _ => exact (Bool.false_ne_true h).elim
theorem pe_cst {d : D} {e : Expr} (h : okC d e = true) : ∃ v, PE X e (tC v) ∧ ∀ F, Rl X.K Z F d v := by
  unfold okC at h
  split at h
  · exact ⟨.non, pe_non, fun F => .non⟩
  · rename_i b b' _ _
    have : b = b' := by simpa using h
    subst this
    exact ⟨.bl b, pe_bl, fun F => .bl b⟩
  · rename_i i j _ _
    have : i = j := of_decide_eq_true h
    subst this
    exact ⟨.int i, pe_int, fun F => .int i⟩
  · rename_i s t _ _
    have : s = t := of_decide_eq_true h
    subst this
    exact ⟨.str s, pe_str, fun F => .str s⟩
  · cases h
theorem noSet_behind {op : CmpOp} {b : Expr} (h : noSet b = true) : behindInMarks op b = false := by
  cases b <;> first | rfl | cases h
theorem noSet_folded {e : Expr} (h : noSet e = true) (env : PySem.Env) (x : Value) : foldedSetIterable e env x = pure x := by
  cases e <;> first | rfl | cases h
theorem noSl_plain {e : Expr} (h : noSl e = true) : PlainIx e := by
  intro o i
  cases e <;> first | rfl | cases h
def plT : Expr → Bool
  | .UnaryOp .Not _ _ => false
  | .BoolOp _ _ _ => false
  | .IfExp _ _ _ _ => false
  | .Compare _ _ _ _ => false
  | _ => true
theorem plT_is {e : Expr} (h : plT e = true) (env : PySem.Env) (whole : Sem Value) : isTrue e env whole = (do let v ← whole; standAt e.pos; holding [v] (truthy v)) := by
  cases e with
  | UnaryOp op x p => cases op <;> first | rfl | cases h
  | BoolOp _ _ _ => cases h
  | IfExp _ _ _ _ => cases h
  | Compare _ _ _ _ => cases h
  | _ => rfl
/-- a test, whatever is around it -/
structure PX (X : Cx) (e : Expr) (t : TT) : Prop where
  pt : PT X e t
  pw : ∀ op vs pos, e = .BoolOp op vs pos → PW X e t
theorem PX.imp {e : Expr} {t t' : TT} (h : PX X e t) (i : ∀ σ H Q, t' σ H Q → t σ H Q) : PX X e t' :=
  ⟨PT.imp h.pt i, fun op vs pos q => ⟨fun wh pins s σ H Q I w => (h.pw op vs pos q).run wh pins s σ H Q I (i σ H Q w)⟩⟩
def Both (X : Cx) (Z : Sx) (E : WX) (P : Pg) (e : Expr) (m : Mv) : Prop := PE X e (rdE X.K Z E m) ∧ PX X e (rdT X.K Z E fun ρ S => tst P (m ρ S))
theorem both_of {P : Pg} {e : Expr} {m : Mv} (h : PE X e (rdE X.K Z E m)) (hp : plT e = true) : Both X Z E P e m :=
  ⟨h, PT.imp (pt_truth h (plT_is hp X.env)) fun σ H Q q => rd_tst q, fun op vs pos q => by
    subst q
    cases hp⟩
theorem Both.rest {P : Pg} {op : BoolOp} {y : Expr} {rest : List Expr} {pos : Pos} {m : Mv} (h : Both X Z E P (restE op y rest pos) m) : PE X (.BoolOp op (y :: rest) pos) (rdE X.K Z E m) ∧ PW X (.BoolOp op (y :: rest) pos) (rdT X.K Z E fun ρ S => tst P (m ρ S)) := by
  cases rest with
  | nil =>
    cases op with
    | And => exact ⟨pe_one h.1, pw_and1 h.2.pt⟩
    | Or => exact ⟨pe_one h.1, pw_or1 h.2.pt⟩
  | cons z zs => exact ⟨h.1, h.2.pw _ _ _ rfl⟩
theorem both_and {P : Pg} {x y : Expr} {rest : List Expr} {pos : Pos} {ma mb : Mv} (ha : Both X Z E P x ma) (hb : Both X Z E P (restE .And y rest pos) mb) : Both X Z E P (.BoolOp .And (x :: y :: rest) pos) (mAnd P ma mb) := by
  have hb := hb.rest
  have pw : PW X (.BoolOp .And (x :: y :: rest) pos) (rdT X.K Z E fun ρ S => tst P (mAnd P ma mb ρ S)) := ⟨fun wh pins s σ H Q I w => (pw_and ha.2.pt hb.2).run wh pins s σ H Q I (rd_andT w)⟩
  exact ⟨PE.imp (pe_andT ha.1 hb.1) fun σ H Q h => rd_and h, pw.pt, fun _ _ _ _ => pw⟩
theorem both_or {P : Pg} {x y : Expr} {rest : List Expr} {pos : Pos} {ma mb : Mv} (ha : Both X Z E P x ma) (hb : Both X Z E P (restE .Or y rest pos) mb) : Both X Z E P (.BoolOp .Or (x :: y :: rest) pos) (mOr P ma mb) := by
  have hb := hb.rest
  have pw : PW X (.BoolOp .Or (x :: y :: rest) pos) (rdT X.K Z E fun ρ S => tst P (mOr P ma mb ρ S)) := ⟨fun wh pins s σ H Q I w => (pw_or ha.2.pt hb.2).run wh pins s σ H Q I (rd_orT w)⟩
  exact ⟨PE.imp (pe_orT ha.1 hb.1) fun σ H Q h => rd_or h, pw.pt, fun _ _ _ _ => pw⟩
theorem both_not {P : Pg} {x : Expr} {pos : Pos} {ma : Mv} (ha : Both X Z E P x ma) : Both X Z E P (.UnaryOp .Not x pos) (mNot P ma) :=
  ⟨PE.imp (pe_notT ha.1) fun σ H Q h => rd_not h, PT.imp (pt_not ha.2.pt) fun σ H Q h => rd_notT h, fun op vs pos q => nomatch q⟩
theorem both_ite {P : Pg} {x y z : Expr} {pos : Pos} {mc ma mb : Mv} (hc : Both X Z E P x mc) (ha : Both X Z E P y ma) (hb : Both X Z E P z mb) : Both X Z E P (.IfExp x y z pos) (mIte P mc ma mb) := by
  refine ⟨PE.imp (pe_ifExp hc.2.pt ha.1 hb.1) fun σ H Q h => rd_ite h, ⟨fun pins s σ H Q I h => ?_⟩, fun op vs pos q => nomatch q⟩
  obtain ⟨W, ρ, S, er, st, h⟩ := h
  have e : tst P (mIte P mc ma mb ρ S) = (tst P (mc ρ S)).bind fun t S => (match t with
    | true => tst P (ma ρ S)
    | false => tst P (mb ρ S)) := by
    unfold mIte
    cases tst P (mc ρ S) with
    | ok t S1 => cases t <;> rfl
    | exc x S1 => rfl
    | bad => rfl
  dsimp only at h
  rw [e] at h
  show wpAny _ _ (isTrue x X.env (eval x X.env) >>= fun t => if t = true then isTrue y X.env (eval y X.env) else isTrue z X.env (eval z X.env)) _ _ s
  refine wpAny_bind (thn (hc.2.pt.run pins s σ H _ I ⟨W, ρ, S, er, st, Po.bind h⟩) fun b s1 ⟨H1, I1, W1, t, S1, l1, st1, et, q⟩ => ?_)
  subst et
  cases t with
  | true =>
    rw [if_pos rfl]
    exact ha.2.pt.run pins s1 σ H1 Q I1 ⟨W1, ρ, S1, er.mono l1, st1, q⟩
  | false =>
    rw [if_neg Bool.false_ne_true]
    exact hb.2.pt.run pins s1 σ H1 Q I1 ⟨W1, ρ, S1, er.mono l1, st1, q⟩
end
end Wk

set_option Elab.async false
set_option linter.all false
set_option maxRecDepth 100000
set_option maxHeartbeats 1000000
/-! WkT: comparisons; argument lists; comprehensions. -/
namespace Wk
open PySem PySem.Spec L2
open PyProof.Rows hiding St

section
variable {T : Tx} {Z : Sx} {cl : Cl} {k : Nat} {c : Sc} {X : Cx} {E : WX}
def mCmp (P : Pg) (cl : Cl) (o : Co) (ma mb : Mv) : Mv := fun ρ S => (ma ρ S).bind fun x S => (mb ρ S).bind fun y S => (cmpM P cl o x y S).bind fun r S => .ok (.d (.bl r)) S
def mChn (P : Pg) (cl : Cl) (o p : Co) (ma mb mc : Mv) : Mv := fun ρ S => (ma ρ S).bind fun x S => (mb ρ S).bind fun y S => (cmpM P cl o x y S).bind fun r S => (match r with
    | true => (mc ρ S).bind fun z S => (cmpM P cl p y z S).bind fun r S => .ok (.d (.bl r)) S
    | false => .ok (.d (.bl false)) S)
/-- the answer of a comparison, handed out -/
theorem cmp_out {K : PySem.W.Frag} {W : Wd} {S : Store} {σ : L2.St} {P : Pg} {o : Co} {x y : Vl} {Q : VK} (h : Po K Z E (Rv K Z) W σ Q ((cmpM P cl o x y S).bind fun r S => .ok (.d (.bl r)) S)) : Po K Z E (fun _ (k : Bool) v => v = V.bl k) W σ Q (cmpM P cl o x y S) :=
  Po.imp (Po.bind (R := fun _ (k : Bool) v => v = V.bl k) h) fun v H1 ⟨W1, a, S1, l, st, e, q⟩ => by
    subst e
    exact q W1 _ H1 (Wd.le.refl _) st (.bl a)
theorem rd_cmp {P : Pg} {o : Co} {ma mb : Mv} {σ : L2.St} {H : Hp} {Q : VK} (h : rdE X.K Z E (mCmp P cl o ma mb) σ H Q) : rdE X.K Z E ma σ H fun x H1 => rdE X.K Z E mb σ H1 fun y H2 => rCmpM X.K Z E P cl o σ x y H2 Q := by
  obtain ⟨W, ρ, S, er, st, h⟩ := h
  exact ⟨W, ρ, S, er, st, rd_one er h fun x H1 W1 a S1 l1 er1 st1 ra h1 => ⟨W1, ρ, S1, er1, st1, rd_one er1 h1 fun y H2 W2 b S2 l2 er2 st2 rb h2 => ⟨W2, S2, a, b, st2, ra.mono l2, rb, cmp_out h2⟩⟩⟩
/-- a bool's truth is itself -/
theorem bool_tru {K : PySem.W.Frag} {o : Co} {P : Pg} {σ : L2.St} {x y : V} {H : Hp} {Q : Bool → Hp → Prop} (h : rCmpM K Z E P cl o σ x y H fun z H' => ∃ k, TruV K z H' k ∧ Q k H') : rCmpM K Z E P cl o σ x y H fun z H' => ∃ k, z = .bl k ∧ Q k H' := by
  obtain ⟨W, S, a, b, st, ra, rb, h⟩ := h
  refine ⟨W, S, a, b, st, ra, rb, h.eqn fun q S1 e W1 u H1 l st1 r ⟨k, t, qq⟩ => ?_⟩
  subst r
  have : k = q := t
  subst this
  exact ⟨k, rfl, qq⟩
theorem both_cmp (C : Ctx T Z cl k c X E) {o : Co} {x y : Expr} {pos : Pos} {ma mb : Mv} (hs : noSet y = true) (ha : PE X x (rdE X.K Z E ma)) (hb : PE X y (rdE X.K Z E mb)) : Both X Z E T.P (.Compare x [coS o] [y] pos) (mCmp T.P cl o ma mb) := by
  have ok := cmpM_ok C.G C.tk o
  refine ⟨⟨fun pins s σ H Q I h => ?_⟩, ⟨fun pins s σ H Q I h => ?_⟩, fun op vs pos q => nomatch q⟩
  · exact wpAny_Compare1 (binT ha hb I (rd_cmp h) fun v u s2 x y H2 I2 rx ry q => ok pins s2 σ H2 x y v u Q I2 rx ry q) (noSet_behind hs)
  · have h := rd_cmp (rd_tst h)
    refine wpAny_isTrue_Compare1 (thn (ha.run pins s σ H _ I h) fun v s1 ⟨x1, H1, I1, r1, q1⟩ => thn (hb.run pins s1 σ H1 _ I1 q1) fun u s2 ⟨y1, H2, I2, r2, q2⟩ => ?_) (noSet_behind hs)
    refine thn (ok pins s2 σ H2 x1 y1 v u _ I2 r1 r2 (bool_tru q2)) fun w s3 ⟨z, H3, I3, r3, b, e, q3⟩ => ?_
    subst e
    cases r3
    exact wpAny_truthy_bool ⟨H3, I3, q3⟩
theorem rd_chn {P : Pg} {o p : Co} {ma mb mc : Mv} {σ : L2.St} {H : Hp} {Q : VK} (h : rdE X.K Z E (mChn P cl o p ma mb mc) σ H Q) : rdE X.K Z E ma σ H fun x H1 => rdE X.K Z E mb σ H1 fun y H2 => rCmpM X.K Z E P cl o σ x y H2 fun z H3 =>
    ∃ b, z = .bl b ∧ if b = true then rdE X.K Z E mc σ H3 (fun w H4 => rCmpM X.K Z E P cl p σ y w H4 Q) else Q (.bl false) H3 := by
  obtain ⟨W, ρ, S, er, st, h⟩ := h
  refine ⟨W, ρ, S, er, st, rd_one er h fun x H1 W1 a S1 l1 er1 st1 ra h1 => ⟨W1, ρ, S1, er1, st1, rd_one er1 h1 fun y H2 W2 b S2 l2 er2 st2 rb h2 => ⟨W2, S2, a, b, st2, ra.mono l2, rb, ?_⟩⟩⟩
  refine Po.imp (Po.bind (R := fun _ (k : Bool) v => v = V.bl k) h2) fun v H3 ⟨W3, t, S3, l3, st3, e, q⟩ => ⟨t, e, ?_⟩
  cases t with
  | false => exact q W3 _ H3 (Wd.le.refl _) st3 (.bl false)
  | true =>
    exact ⟨W3, ρ, S3, er2.mono l3, st3, rd_one (er2.mono l3) q fun w H4 W4 d S4 l4 er4 st4 rd q4 => ⟨W4, S4, b, d, st4, rb.mono (l3.trans l4), rd, cmp_out q4⟩⟩
theorem both_chn (C : Ctx T Z cl k c X E) {o p : Co} {x y z : Expr} {pos : Pos} {ma mb mc : Mv} (hs : noSet z = true) (ha : PE X x (rdE X.K Z E ma)) (hb : PE X y (rdE X.K Z E mb)) (hc : PE X z (rdE X.K Z E mc)) : Both X Z E T.P (.Compare x [coS o, coS p] [y, z] pos) (mChn T.P cl o p ma mb mc) := by
  have ok := cmpM_ok C.G C.tk o
  have ok' := cmpM_ok C.G C.tk p
  have hm : lastMarks [coS o, coS p] [y, z] = false := noSet_behind hs
  refine ⟨⟨fun pins s σ H Q I h => ?_⟩, ⟨fun pins s σ H Q I h => ?_⟩, fun op vs pos q => nomatch q⟩
  · refine Compare_chain (thn (ha.run pins s σ H _ I (rd_chn h)) fun v s1 ⟨x1, H1, I1, r1, q1⟩ => chain_link (thn (hb.run pins s1 σ H1 _ I1 q1) fun u s2 ⟨y1, H2, I2, r2, q2⟩ => ?_)) hm
    refine thn (ok pins s2 σ H2 x1 y1 v u _ I2 r1 r2 q2) fun w s3 ⟨z1, H3, I3, r3, b, e, q3⟩ => ?_
    subst e
    cases r3
    refine wpAny_truthy_bool ?_
    cases b with
    | false => exact ite_ff ⟨.bl false, H3, I3, rfl, q3⟩
    | true => exact ite_tt (chain_last (thn (hc.run pins s3 σ H3 _ I3 q3) fun w' s4 ⟨z2, H4, I4, r4, q4⟩ => ok' pins s4 σ H4 y1 z2 u w' Q I4 r2 r4 q4))
  · refine isTrue_chain (thn (ha.run pins s σ H _ I (rd_chn (rd_tst h))) fun v s1 ⟨x1, H1, I1, r1, q1⟩ => test_link (thn (hb.run pins s1 σ H1 _ I1 q1) fun u s2 ⟨y1, H2, I2, r2, q2⟩ => ?_)) hm
    refine thn (ok pins s2 σ H2 x1 y1 v u _ I2 r1 r2 q2) fun w s3 ⟨z1, H3, I3, r3, b, e, q3⟩ => ?_
    subst e
    cases r3
    refine wpAny_truthy_bool ?_
    cases b with
    | false =>
      obtain ⟨k', t, q'⟩ := q3
      have : k' = false := t
      subst this
      exact ite_ff ⟨H3, I3, q'⟩
    | true =>
      refine ite_tt (test_last (thn (hc.run pins s3 σ H3 _ I3 q3) fun w' s4 ⟨z2, H4, I4, r4, q4⟩ => ?_))
      refine thn (ok' pins s4 σ H4 y1 z2 u w' _ I4 r2 r4 (bool_tru q4)) fun w2 s5 ⟨z3, H5, I5, r5, b2, e2, q5⟩ => ?_
      subst e2
      cases r5
      exact wpAny_truthy_bool ⟨H5, I5, q5⟩

/-! ### argument lists -/
inductive PEs (X : Cx) (Z : Sx) (E : WX) (P : Pg) (cl : Cl) (th : Th) : List CE → List Expr → Prop
  | nil : PEs X Z E P cl th [] []
  | cons {e : CE} {x : Expr} {es : List CE} {xs : List Expr} : starE x = false → PE X x (rdE X.K Z E (evE P cl th e)) → PEs X Z E P cl th es xs → PEs X Z E P cl th (e :: es) (x :: xs)
variable {P : Pg} {th : Th}
theorem PEs.pa : ∀ {es : List CE} {xs : List Expr}, PEs X Z E P cl th es xs → PA X xs (rdA X.K Z E (evL P cl th es))
  | _, _, .nil => PA.imp pa_nil fun σ H Q h => rd_nil (by simpa only [evL] using h)
  | e :: es, x :: xs, .cons hs h r => PA.imp (pa_cons h (PEs.pa r) (star_cons hs xs X.env)) fun σ H Q h => rd_cons (by simpa only [evL] using h)
theorem PEs.stars : ∀ {es : List CE} {xs : List Expr}, PEs X Z E P cl th es xs → ∀ x ∈ xs, starE x = false
  | _, _, .nil, x, h => by simp at h
  | _, _, .cons hs _ r, x, h => by
    rcases List.mem_cons.mp h with q | q
    · rw [q]
      exact hs
    · exact PEs.stars r x q
theorem PEs.one {e : CE} {xs : List Expr} (h : PEs X Z E P cl th [e] xs) : ∃ x, xs = [x] ∧ PE X x (rdE X.K Z E (evE P cl th e)) := by
  cases h with
  | cons _ h r =>
    cases r
    exact ⟨_, rfl, h⟩
theorem it_rule (C : Ctx T Z cl k c X E) {kk : ItK} {tg iter : Expr} {es : List Expr} {as : List CE} (h : itArgs T c kk tg iter = some es) (hl : PEs X Z E P cl th as es) : PI X tg iter (rdI X.K Z E fun ρ S => itR kk (evL P cl th as ρ S)) := by
  unfold itArgs at h
  split at h
  · split at h
    · cases h
      cases hl with
      | cons hs he r =>
        cases r
        refine PI.imp (pi_seq he) fun σ H R q => ?_
        obtain ⟨W, ρ, S, er, st, q⟩ := q
        refine ⟨W, ρ, S, er, st, ?_⟩
        dsimp only at q ⊢
        rw [evL_one] at q
        exact q
    · cases h
  · split at h
    · rename_i hx
      rw [Bool.and_eq_true, decide_eq_true_eq] at hx
      obtain ⟨h1, rfl⟩ := hx
      obtain ⟨g1, g2, _, _⟩ := C.bl h1
      cases h
      exact pi_rng1 g1 g2 hl.pa (hl.stars _ (by simp))
    · cases h
  · split at h
    · rename_i hx
      rw [Bool.and_eq_true, decide_eq_true_eq] at hx
      obtain ⟨h1, rfl⟩ := hx
      obtain ⟨g1, g2, _, _⟩ := C.bl h1
      cases h
      exact pi_rng2 g1 g2 hl.pa (hl.stars _ (by simp)) (hl.stars _ (by simp))
    · cases h
  · split at h
    · split at h
      · rename_i hx
        rw [Bool.and_eq_true, decide_eq_true_eq] at hx
        obtain ⟨h1, rfl⟩ := hx
        obtain ⟨g1, g2, _, _⟩ := C.bl h1
        cases h
        exact pi_zipD g1 g2 hl.pa (hl.stars _ (by simp)) (hl.stars _ (by simp))
      · cases h
    · cases h
  · split at h
    · split at h
      · rename_i hx
        rw [Bool.and_eq_true, decide_eq_true_eq] at hx
        obtain ⟨h1, rfl⟩ := hx
        obtain ⟨g1, g2, _, _⟩ := C.bl h1
        cases h
        exact pi_enumD g1 g2 hl.pa (hl.stars _ (by simp))
      · cases h
    · cases h
  · cases h
theorem ownL_snd (N : List Str) : ∀ own : List Nat, (ownL N own).map (·.2) = own
  | [] => rfl
  | i :: own => by
    show i :: (ownL N own).map (·.2) = i :: own
    rw [ownL_snd N own]
theorem comp_rule (C : Ctx T Z cl k c X E) {own : List Nat} {p : Pt} {tg iter el : Expr} {ifs : List Expr} {scope : Scope} {pos : Pos} {mi : Env → Store → Res (List D)} {tc : Mt} {te : Mv} (hb : blkC c.N c.sc scope (ownL c.N own) = true) (hp : ptIn p own = true) (hs : noSet iter = true) (ht : okPt (blkSc c scope) p tg = true)
    (hi : PI X tg iter (rdI X.K Z E mi)) (hf : ∀ X' E', Ctx T Z cl k (blkSc c scope) X' E' → PTs X' ifs (rdT X'.K Z E' tc)) (he : ∀ X' E', Ctx T Z cl k (blkSc c scope) X' E' → PE X' el (rdE X'.K Z E' te)) :
    PE X (.ListComp el [⟨tg, iter, ifs, 0⟩] scope pos) (rdN X.K Z E fun ρ S => (mi ρ S).bind fun its S => loopD (fun x acc S => compT (setPt p x (Wk.wipe ρ own)) tc te acc S) its [] S) := by
  have ok : BlkOk X.N X.env.scope scope (ownL c.N own) := by
    rw [C.N, C.sc]
    exact blkOk_by hb
  refine PE.imp (pe_lc (own := ownL c.N own) (g := gP X.K p) (tt := rdT X.K Z (fun _ _ _ _ => False) tc) (te := rdE X.K Z (fun _ _ _ _ => False) te) C.calm C.nd hi ok (fun s H a cs fp => (C.blk (scope := scope) s H a cs fp).pg ht) (fun s H a cs fp => hf _ _ (C.blk s H a cs fp)) (fun s H a cs fp => he _ _ (C.blk s H a cs fp)) (noSet_folded hs X.env)) fun σ H Q h => ?_
  rw [ownL_snd]
  exact lc_ok hp h
theorem own_in {N : List Str} {own own1 : List Nat} (h : own1.all (fun i => own.contains i) = true) : ∀ i ∈ own1, i ∈ (ownL N own).map (·.2) := fun i hi => by
  rw [ownL_snd]
  have := List.all_eq_true.mp h i hi
  simpa using this
theorem comp2_rule (C : Ctx T Z cl k c X E) {own own1 : List Nat} {p p1 : Pt} {tg iter tg1 iter1 el : Expr} {ifs ifs1 : List Expr} {scope : Scope} {pos : Pos} {mi mi1 : Env → Store → Res (List D)} {tc tc1 : Mt} {te : Mv} (hb : blkC c.N c.sc scope (ownL c.N own) = true) (hp : ptIn p own = true) (hp1 : ptIn p1 own1 = true) (ho : own1.all (fun i => own.contains i) = true) (hs : noSet iter = true) (hs1 : noSet iter1 = true) (ht : okPt (blkSc c scope) p tg = true) (ht1 : okPt (blkSc c scope) p1 tg1 = true)
    (hi : PI X tg iter (rdI X.K Z E mi)) (hi1 : ∀ X' E', Ctx T Z cl k (blkSc c scope) X' E' → PI X' tg1 iter1 (rdI X'.K Z E' mi1)) (hf : ∀ X' E', Ctx T Z cl k (blkSc c scope) X' E' → PTs X' ifs (rdT X'.K Z E' tc)) (hf1 : ∀ X' E', Ctx T Z cl k (blkSc c scope) X' E' → PTs X' ifs1 (rdT X'.K Z E' tc1)) (he : ∀ X' E', Ctx T Z cl k (blkSc c scope) X' E' → PE X' el (rdE X'.K Z E' te)) :
    PE X (.ListComp el [⟨tg, iter, ifs, 0⟩, ⟨tg1, iter1, ifs1, 0⟩] scope pos) (rdN X.K Z E fun ρ S => (mi ρ S).bind fun its S => loopD (fun x acc S => compT2 (setPt p x (Wk.wipe ρ own)) tc (fun ρ1 S => (mi1 ρ1 S).nox) (fun ρ1 x1 acc S => compT (setPt p1 x1 (Wk.wipe ρ1 own1)) tc1 te acc S) acc S) its [] S) := by
  have ok : BlkOk X.N X.env.scope scope (ownL c.N own) := by
    rw [C.N, C.sc]
    exact blkOk_by hb
  refine PE.imp (pe_lc2 (own := ownL c.N own) (vs1 := own1) (g := gP X.K p) (g1 := gP X.K p1) (wi1 := rdI X.K Z (fun _ _ _ _ => False) mi1) (tt := rdT X.K Z (fun _ _ _ _ => False) tc) (tt1 := rdT X.K Z (fun _ _ _ _ => False) tc1) (te := rdE X.K Z (fun _ _ _ _ => False) te) C.calm C.nd hi ok (own_in ho) (fun s H a cs fp => (C.blk (scope := scope) s H a cs fp).pg ht) (fun s H a cs fp => hf _ _ (C.blk s H a cs fp)) (fun s H a cs fp => hi1 _ _ (C.blk s H a cs fp)) (fun s H a cs fp => (C.blk (scope := scope) s H a cs fp).pg ht1) (fun s H a cs fp => hf1 _ _ (C.blk s H a cs fp)) (fun s H a cs fp => he _ _ (C.blk s H a cs fp)) (noSet_folded hs X.env) (noSet_folded hs1)) fun σ H Q h => ?_
  rw [ownL_snd]
  exact lc2_ok hp hp1 h
end
end Wk

set_option Elab.async false
set_option linter.all false
set_option maxRecDepth 100000
set_option maxHeartbeats 4000000
/-! WkU: expressions do what they compute. -/
namespace Wk
open PySem PySem.Spec L2
open PyProof.Rows hiding St

section
variable {T : Tx} {Z : Sx} {cl : Cl} {k : Nat} {th : Th}
theorem okCall_some {f off n : Nat} {is : List Nat} {kws : List Keyword} (h : okCall T f off n is kws = true) : ∃ d l, T.P.fns[f]? = some d ∧ T.ps[f]? = some l ∧ n + off ≤ d.pars ∧ (∀ i ∈ is, n + off ≤ i ∧ i < d.pars) ∧ kws.filterMap (·.arg) = is.map fun i => (l[i]?).getD Str.empty := by
  unfold okCall at h
  split at h
  · rename_i d l h1 h2
    simp only [Bool.and_eq_true, decide_eq_true_eq, List.all_eq_true] at h
    exact ⟨d, l, h1, h2, h.1.1, h.1.2, h.2⟩
  · cases h
theorem isFn_is {x : Str} {j : Nat} (h : isFnN T x j = true) : T.gl.lookup x = some (.fn j) := by
  unfold isFnN at h
  split at h
  · rename_i i e
    have : i = j := by simpa using h
    rw [e, this]
  · cases h
theorem isCls_is {x : Str} {j : Nat} (h : isClsN T x j = true) : T.gl.lookup x = some (.cls j) := by
  unfold isClsN at h
  split at h
  · rename_i i e
    have : i = j := by simpa using h
    rw [e, this]
  · cases h
theorem isCon_is {x : Str} {j : Nat} (h : isCon T x j = true) : T.gl.lookup x = some (.con j) := by
  unfold isCon at h
  split at h
  · rename_i i e
    have : i = j := by simpa using h
    rw [e, this]
  · cases h
theorem boot_tyS {t : Ty} (h : t ≠ .non) : bootBuiltins (Str.ofString (tyS t)) = some (.type (tyS t)) := by
  cases t <;> first | exact absurd rfl h | kernel_rfl
theorem okTy_pe {c : Sc} {X : Cx} {E : WX} (C : Ctx T Z cl k c X E) {t : TyR} {e : Expr} (h : okTy T c t e = true) : PE X e (tC (clV Z t)) ∧ starE e = false := by
  unfold okTy at h
  split at h
  · rename_i t x p
    simp only [Bool.and_eq_true, decide_eq_true_eq, Bool.not_eq_true', decide_eq_false_iff_not] at h
    obtain ⟨⟨h1, rfl⟩, h2⟩ := h
    obtain ⟨g1, g2, g3, g4⟩ := C.bl h1
    exact ⟨pe_bltn g1 g2 (boot_tyS h2) (clV_rel (Z := Z) (.ty t)) g4 g3, rfl⟩
  · rename_i j x p
    rw [Bool.and_eq_true] at h
    obtain ⟨g1, g2, _⟩ := C.gl h.1
    exact ⟨pe_glob g1 (C.G.gc x j (isCls_is h.2)) (clV_rel (Z := Z) (.cls j)) g2, rfl⟩
  · rename_i j x p
    rw [Bool.and_eq_true] at h
    obtain ⟨g1, g2, _⟩ := C.gl h.1
    have e : T.gl.lookup x = some (.exc j) := by
      have q := h.2
      split at q
      · rename_i i e
        have : i = j := by simpa using q
        rw [e, this]
      · cases q
    exact ⟨pe_glob g1 (C.G.gx x j e) (clV_rel (Z := Z) (.exc j)) g2, rfl⟩
  · cases h
theorem okTys_pa {c : Sc} {X : Cx} {E : WX} (C : Ctx T Z cl k c X E) : ∀ {ts : List TyR} {es : List Expr}, okTys T c ts es = true → PA X es (fun _ H Q => Q (ts.map (clV Z)) H)
  | [], [], _ => pa_nil
  | t :: ts, e :: es, h => by
    simp only [okTys, Bool.and_eq_true] at h
    obtain ⟨h1, h2⟩ := okTy_pe C h.1
    exact PA.imp (pa_cons h1 (okTys_pa C h.2) (star_cons h2 es X.env)) fun σ H Q q => q
/-- how a dict's pairs are read -/
def trsOf (K : PySem.W.Frag) (Z : Sx) (E : WX) (P : Pg) (cl : Cl) (th : Th) (es : List (Sum Int Str × CE)) : List (TE × TE) := es.map fun p => (tC (kV p.1), rdE K Z E (evE P cl th p.2))
theorem trs_ok {K : PySem.W.Frag} {E : WX} {P : Pg} : ∀ (es : List (Sum Int Str × CE)) {σ : L2.St} {H : Hp} {Q : List (V × V) → Hp → Prop}, rdKs K Z E (evK P cl th es) σ H Q → tPairs (trsOf K Z E P cl th es) σ H Q
  | [], _, _, _, h => rd_pnil (by simpa only [evK] using h)
  | (key, e) :: es, _, _, _, h => rd_pcons (fun {σ H Q} q => trs_ok es q) (by simpa only [evK] using h)
theorem evK_keys {P : Pg} : ∀ {es : List (Sum Int Str × CE)} {ρ : Env} {S S' : Store} {xs : List (Sum Int Str × D)}, evK P cl th es ρ S = .ok xs S' → xs.map (·.1) = es.map (·.1)
  | [], _, _, _, _, e => by
    simp only [evK] at e
    cases e
    rfl
  | (key, c) :: es, ρ, S, S', xs, e => by
    simp only [evK] at e
    cases h1 : evE P cl th c ρ S with
    | bad =>
      rw [h1] at e
      cases e
    | exc x S1 =>
      rw [h1] at e
      cases e
    | ok x S1 =>
      rw [h1] at e
      change (frz x S1).bind _ = _ at e
      cases h2 : frz x S1 with
      | bad =>
        rw [h2] at e
        cases e
      | exc x S1 => exact absurd h2 frz_noexc
      | ok y S2 =>
        rw [h2] at e
        change (evK P cl th es ρ S2).bind _ = _ at e
        cases h3 : evK P cl th es ρ S2 with
        | bad =>
          rw [h3] at e
          cases e
        | exc x S1 =>
          rw [h3] at e
          cases e
        | ok ys S3 =>
          rw [h3] at e
          cases e
          rw [List.map_cons, List.map_cons, evK_keys h3]
theorem key_pe {X : Cx} {key : Sum Int Str} {y : Expr} (h : okC (kD key) y = true) : PE X y (tC (kV key)) := by
  obtain ⟨v, h1, h2⟩ := pe_cst (X := X) (Z := ⟨fun _ => 0, fun _ => 0, fun _ => Str.empty, fun _ => 0, fun _ => [], []⟩) h
  have := h2 (fun _ => none)
  cases key with
  | inl i =>
    cases this
    exact h1
  | inr s =>
    cases this
    exact h1
/-- lists of values, as frozen data -/
def mFrz (ml : Ml) : Env → Store → Res (List D) := fun ρ S => (ml ρ S).bind fun vs S => frzL vs S
theorem mFrz_len {P : Pg} {es : List CE} (hz : es.length ≤ 1000) : ∀ ρ S xs S', mFrz (evL P cl th es) ρ S = .ok xs S' → xs.length ≤ sizeLine := by
  intro ρ S xs S' e
  unfold mFrz at e
  cases h : evL P cl th es ρ S with
  | bad =>
    rw [h] at e
    cases e
  | exc x S1 =>
    rw [h] at e
    cases e
  | ok vs S1 =>
    rw [h] at e
    rw [frzL_len e, evL_len h, sizeLine_eq]
    omega
theorem tup_rule {X : Cx} {E : WX} {es : List CE} {xs : List Expr} {kk : Nat} {pos : Pos} (hz : es.length ≤ 1000) (h : PEs X Z E T.P cl th es xs) : PE X (.Tuple xs kk pos) (rdE X.K Z E (evE T.P cl th (.tup es))) := by
  refine PE.imp (pe_tup (PA.imp h.pa fun σ H Q q => rd_frz q)) fun σ H Q q => rd_tup (md := mFrz (evL T.P cl th es)) ?_
  obtain ⟨W, ρ, S, er, st, q⟩ := q
  refine ⟨W, ρ, S, er, st, ?_⟩
  dsimp only
  rw [small_tup (k := fun xs S => Res.ok (Vl.d (.tup xs)) S) (mFrz_len hz)]
  unfold mFrz
  rw [Res.bind_assoc]
  simpa only [evE] using q
theorem lst_ruleN {X : Cx} {E : WX} {es : List CE} {xs : List Expr} {pos : Pos} (hz : es.length ≤ 1000) (h : PEs X Z E T.P cl th es xs) : PE X (.List xs pos) (rdN X.K Z E (mFrz (evL T.P cl th es))) := by
  refine PE.imp (pe_lst (PA.imp h.pa fun σ H Q q => rd_frz q)) fun σ H Q q => rd_lstN (md := mFrz (evL T.P cl th es)) ?_
  obtain ⟨W, ρ, S, er, st, q⟩ := q
  refine ⟨W, ρ, S, er, st, ?_⟩
  dsimp only
  rw [small_tup (k := fun xs S => Res.ok xs S) (mFrz_len hz)]
  have e : ∀ r : Res (List D), r.bind (fun xs S => Res.ok xs S) = r := fun r => by cases r <;> rfl
  rw [e]
  exact q
theorem data_of {X : Cx} {E : WX} {ex : Expr} {m : Env → Store → Res (List D)} (h : PE X ex (rdN X.K Z E m)) : PE X ex (rdE X.K Z E fun ρ S => (m ρ S).bind fun ds S => .ok (.d (.lst ds)) S) := PE.imp h fun σ H Q q => rdN_data q
theorem live_of {X : Cx} {E : WX} {ex : Expr} {m : Env → Store → Res (List D)} (h : PE X ex (rdN X.K Z E m)) : PE X ex (rdE X.K Z E fun ρ S => (m ρ S).bind fun ds S => .ok (.ref S.length) (S ++ [.lst ds])) := PE.imp h fun σ H Q q => rdN_live q
/-- another way to write what is computed -/
theorem pe_eq {X : Cx} {E : WX} {ex : Expr} {m m' : Mv} (h : PE X ex (rdE X.K Z E m)) (e : ∀ ρ S, m' ρ S = m ρ S) : PE X ex (rdE X.K Z E m') := by
  have : m' = m := funext fun ρ => funext fun S => e ρ S
  rw [this]
  exact h
theorem sp_rule {c : Sc} {X : Cx} {E : WX} (C : Ctx T Z cl k c X E) {b : Bi} {x : Str} {p pos : Pos} {e a : Expr} {es : List Expr} {P : Pg} {m : Mv} (h : spArg T c b x e es = some a) (hs : starE a = false) (ha : PE X a (rdE X.K Z E m)) : PE X (.Call (.Name x p) (e :: es) [] pos) (rdE X.K Z E (mSp P b m)) := by
  unfold spArg at h
  split at h
  · split at h
    · rename_i hx
      simp only [Bool.and_eq_true, decide_eq_true_eq] at hx
      obtain ⟨⟨⟨rfl, h1⟩, rfl⟩, h2⟩ := hx
      cases h
      obtain ⟨g1, g2, _, _⟩ := C.bl h1
      obtain ⟨g3, g4, _, _⟩ := C.bl h2
      exact pe_tupRange C.calm g1 g2 g3 g4 hs ha
    · cases h
  · split at h
    · rename_i hx
      simp only [Bool.and_eq_true, decide_eq_true_eq] at hx
      obtain ⟨⟨⟨rfl, h1⟩, rfl⟩, h2⟩ := hx
      cases h
      obtain ⟨g1, g2, _, _⟩ := C.bl h1
      obtain ⟨g3, g4, _, _⟩ := C.bl h2
      exact pe_lstRange C.calm g1 g2 g3 g4 hs ha
    · cases h
  · split at h
    · rename_i hx
      simp only [Bool.and_eq_true, decide_eq_true_eq] at hx
      obtain ⟨⟨⟨rfl, h1⟩, rfl⟩, h2⟩ := hx
      cases h
      obtain ⟨g1, g2, _, _⟩ := C.bl h1
      obtain ⟨g3, g4, _, _⟩ := C.bl h2
      exact pe_sortedSet C.calm g1 g2 g3 g4 hs ha
    · cases h
  · split at h
    · rename_i hx
      simp only [Bool.and_eq_true, decide_eq_true_eq] at hx
      obtain ⟨rfl, h1⟩ := hx
      cases h
      obtain ⟨g1, g2, _, _⟩ := C.bl h1
      exact pe_sumL C.calm g1 g2 hs ha
    · cases h
  · split at h
    · rename_i hx
      simp only [Bool.and_eq_true, decide_eq_true_eq] at hx
      obtain ⟨⟨⟨⟨⟨⟨⟨rfl, h1⟩, rfl⟩, rfl⟩, h2⟩, h3⟩, h4⟩, h5⟩ := hx
      cases h
      obtain ⟨g1, g2, _, _⟩ := C.bl h1
      have nm : ∀ {c' : Sc} {i : Nat} {t : Str}, okNm c' i t = true → c'.N[i]? = some t := fun {c' i t} q => by
        unfold okNm at q
        simp only [Bool.and_eq_true, decide_eq_true_eq] at q
        exact q.1
      refine pe_sortedKeys C.calm C.nd g1 g2 (by rw [C.N]; exact (nm h4 : (blkSc c _).N[_]? = some _)) (by rw [C.N, C.sc]; exact blkOk_by h3) (fun s H A cs fp => ?_) (fun s H A cs fp => (C.blk s H A cs fp).var h5) (noSet_folded h2 X.env) ha
      exact (C.blk s H A cs fp).pg (p := .nm _) h4
    · cases h
  · cases h
end
end Wk

set_option Elab.async false
set_option linter.all false
set_option maxRecDepth 100000
set_option maxHeartbeats 4000000
/-! WkUa: what hears a lambda. -/
namespace Wk
open PySem PySem.Spec L2
open PyProof.Rows hiding St

section
variable {K : PySem.W.Frag} {Z : Sx} {W : Wd} {S : Store} {H H1 : Hp}
/-- the tables of code objects have grown, nothing else -/
theorem Sto.tabs (st : Sto K Z W S H) {P : Addr} {q : Str} (hm : (P, q) ∈ Z.tb) (e : ∀ b o, b ≠ P → H b = some o → H1 b = some o) (t : LamX.Tabs Z.tb H1) : Sto K Z W S H1 := by
  obtain ⟨t1, t2, t3⟩ := st.tab _ hm
  have nP : ∀ b o, H b = some o → (∀ ps, o ≠ .tbl ps) → b ≠ P := fun b o h n => (tabS_at t1 h n).symm
  have cp : ∀ b o, H b = some o → (∀ ps, o ≠ .tbl ps) → H1 b = some o := fun b o h n => e b o (nP b o h n) h
  refine ⟨fun b o h => e b o (fun z => ?_) (st.ex b o h), st.len, fun n c a hc ha => ?_, st.inj, fun n a ha z => ?_, fun a o h => ?_, fun p hp => ⟨t p hp, (st.tab p hp).2⟩⟩
  · rw [z, t2] at h
    cases h
  · have k := st.cell n c a hc ha
    cases c with
    | lst ds =>
      obtain ⟨vs, h1, h2, h3, h4⟩ := k
      exact ⟨vs, cp _ _ h1 (fun _ z => nomatch z), h2, h3, h4⟩
    | ins c fs =>
      obtain ⟨dx, gs, h1, h2, h3, h4⟩ := k
      exact ⟨dx, gs, cp _ _ h1 (fun _ z => nomatch z), cp _ _ h2 (fun _ z => nomatch z), h3, h4⟩
    | fz y => exact k
  · cases h : H a with
    | none => exact st.there n a ha h
    | some o =>
      by_cases q : a = P
      · obtain ⟨ps, h1, _⟩ := t _ hm
        rw [q, h1] at z
        cases z
      · rw [e a o q h] at z
        cases z
  · obtain ⟨h1, h2, h3, h4⟩ := st.pin a o h
    refine ⟨e a o (fun z => ?_) h1, h2, h3, h4⟩
    rw [z, t3] at h
    cases h
end
section
variable {T : Tx} {Z : Sx} {cl : Cl} {k : Nat} {c : Sc} {X : Cx} {E : WX}
/-- x(lambda: body) -/
theorem pe_heard {x : Str} {f : Nat} {d : FDef} {params : Arguments} {body : Expr} {scope : Scope} {qs : List Str} {m : Mv} {p lpos pos : Pos} (C : Ctx T Z cl k c X E) (hlam : c.lam = true) (hg : okGl c x = true) (hm : T.gl.lookup x = some (.fn f)) (hf : T.P.fns[f]? = some d) (hst : d.star = true)
    (hp : lamPar params = some qs) (L : LamS3 X.env.scope scope qs X.N) (hb : ∀ X' E', Ctx T Z cl k (lamSc c scope) X' E' → PE X' body (rdE X'.K Z E' m)) :
    PE X (.Call (.Name x p) [.Lambda params body scope lpos] [] pos) (rdE X.K Z E fun ρ S => hearM T.P (cl f none) (m ρ S)) := by
  obtain ⟨cd, P, hcode, TB, hmT, hu, hr⟩ := C.lam hlam
  obtain ⟨g1, g2, _⟩ := C.gl hg
  obtain ⟨name, qual, a, pg, bg, sg, dV, kV, doc, pm, cdv, ct, oc, an, od, osl, N, lk, hcd, Sg, hN, hva, hd, hcdd, hk, hbi, HG⟩ := C.G.hear f d hf hst
  refine ⟨fun pins s σ H Q I h => ?_⟩
  obtain ⟨W, ρ, S, er, st, h⟩ := h
  refine wpAny_Call_Name_kw (ld_glob I g1 (C.G.gf x f hm) ?_ g2)
  refine PySem.W.callWith_K (h₀ := X.base) I.ok.mod.kin hk ?_ (by rfl) (by rfl)
  show wpAny _ _ (spliced ((false, eval (.Lambda params body scope lpos) X.env) :: backTo pos (starEach [] X.env))) _ _ s
  refine Calls.spliced_cons (lam_make3 I TB hcode hmT hu (fun p hp => (st.tab p hp).1) hp (L.has I.ok) fun f' c' dV' doc' pm' ctv H1 s' I1 e1 T1 hf' hfn hfr hco hD => ?_)
  refine Calls.spliced_nil ⟨I1.kIn, ?_⟩
  have st1 := st.tabs hmT e1 T1
  have po : Po X.K Z (fun cls d _ H => E cls d σ H) (Rv X.K Z) W [] Q (hearM T.P (cl f none) (m ρ S)) := by
    exact Po.sig h fun _ _ _ q => q
  have rc : codeAny (model X.prog X.w) X.A (.call (.ref (Z.fa f)) ⟨[.ref f'], []⟩) (CR (L2.CX X.prog X.w) X.stack X.prog X.w H1 s' Q (fun cls d H' => E cls d σ H')) s' := by
    refine LamX.run_ofS (N := N) (ps := [a]) (us := [.ref f']) (vs := [.ref f']) lk hcd Sg hr I1.env0 (hbi s' (.ref f') I1.kIn) (.cons rfl .nil) rfl fun hr' => ?_
    exact HG X.A X.stack s' H1 (fun cls d H' => E cls d σ H') Q f' c' (X.env.qual ++ "<lambda>") (fun E' HZ Q' => rdE X.K Z (fun cls d _ H => E' cls d H) m σ HZ Q') W S (m ρ S) (hr.mono (by omega)) C.G.gs I1.env0
      (fun W' pn xe E' p1 p2 tk => pe_act3 (i := 0) (tb := rdE X.K Z (fun cls d _ H => E' cls d H) m) I1 L hp hf' hfn hfr hD tk hr' (fun s1 H1' hr2 =>
        hb _ _ ⟨rfl, C.N, rfl, (fun x h => nomatch h), C.nd, { C.G with room := hr2, gs := C.G.gs }, takes_of rfl rfl rfl rfl, fun z => nomatch z⟩) hN hva hd hcdd)
      hco st1 (fun E' HZ Q' stZ q => ⟨W, ρ, S, er, stZ, Po.sig q fun _ _ _ q => q⟩) po
  refine wpAny_call (codeAny_mono rc fun r s2 hq => ?_)
  cases r with
  | error e => exact C.tk e s2 (XE.of_call I1 (fun _ _ _ q => q) hq)
  | ok fl =>
    cases fl with
    | ret u => exact I1.after hq
    | next => exact False.elim hq
    | brk => exact False.elim hq
    | cont => exact False.elim hq
end
end Wk

set_option Elab.async false
set_option linter.all false
set_option maxRecDepth 100000
set_option maxHeartbeats 8000000
/-! WkV: all expressions. -/
namespace Wk
open PySem PySem.Spec L2
open PyProof.Rows hiding St

section
variable {T : Tx} {Z : Sx} {cl : Cl} {k : Nat} {th : Th}
def mComp (P : Pg) (cl : Cl) (th : Th) (own : List Nat) (kk : ItK) (as : List CE) (p : Pt) (cond : Option CE) (elt : CE) : Env → Store → Res (List D) := fun ρ S => (itR kk (evL P cl th as ρ S)).bind fun its S => loopD (fun x acc S => compT (setPt p x (Wk.wipe ρ own)) (fun ρ S => evC P cl th cond ρ S) (fun ρ S => evE P cl th elt ρ S) acc S) its [] S
def mComp2 (P : Pg) (cl : Cl) (th : Th) (own own1 : List Nat) (kk : ItK) (as : List CE) (p : Pt) (cond : Option CE) (kk1 : ItK) (as1 : List CE) (p1 : Pt) (cond1 : Option CE) (elt : CE) : Env → Store → Res (List D) := fun ρ S => (itR kk (evL P cl th as ρ S)).bind fun its S => loopD (fun x acc S => compT2 (setPt p x (Wk.wipe ρ own)) (fun ρ S => evC P cl th cond ρ S) (fun ρ1 S => (itR kk1 (evL P cl th as1 ρ1 S)).nox) (fun ρ1 x1 acc S => compT (setPt p1 x1 (Wk.wipe ρ1 own1)) (fun ρ S => evC P cl th cond1 ρ S) (fun ρ S => evE P cl th elt ρ S) acc S) acc S) its [] S
theorem args_ok {X : Cx} {E : WX} {as : List CE} {ks : List (Nat × CE)} {es : List Expr} {kws : List Keyword} (ha : PEs X Z E T.P cl th as es) (hk : PK X kws (rdK X.K Z E (evKs T.P cl th ks)) ∧ ∀ q ∈ kws, q.arg.isSome = true) (nd : ((ks.map (·.1)).Nodup)) :
    ArgsOk X Z E es kws (evL T.P cl th as) (evKs T.P cl th ks) as.length (ks.map (·.1)) :=
  ⟨ha.stars, hk.2, ha.pa, hk.1, fun ρ S vs S' e => evL_len e, fun ρ S zs S' e => evKs_keys e, nd⟩
theorem live_eq {P : Pg} {e : CE} {m : Env → Store → Res (List D)} (h : ∀ ρ S, evE P cl th e ρ S = (m ρ S).bind fun ds S => .ok (.d (.lst ds)) S) (ρ : Env) (S : Store) : evE P cl th (.live e) ρ S = (m ρ S).bind fun ds S => .ok (.ref S.length) (S ++ [.lst ds]) := by
  have q : evE P cl th (.live e) ρ S = (evE P cl th e ρ S).bind fun x S => (match x with
    | .d (.lst xs) => .ok (.ref S.length) (S ++ [.lst xs])
    | _ => .bad) := by simp only [evE] <;> rfl
  rw [q, h, Res.bind_assoc]
  rfl
theorem lst_eq {P : Pg} {es : List CE} (ρ : Env) (S : Store) : evE P cl th (.lst es) ρ S = (mFrz (evL P cl th es) ρ S).bind fun ds S => .ok (.d (.lst ds)) S := by
  simp only [evE]
  unfold mFrz
  rw [Res.bind_assoc]
theorem comp_eq {P : Pg} {own : List Nat} {kk : ItK} {as : List CE} {p : Pt} {cond : Option CE} {elt : CE} (ρ : Env) (S : Store) : evE P cl th (.comp own kk as p cond elt) ρ S = (mComp P cl th own kk as p cond elt ρ S).bind fun ds S => .ok (.d (.lst ds)) S := by
  simp only [evE]
  unfold mComp
  rw [Res.bind_assoc]
theorem comp2_eq {P : Pg} {own own1 : List Nat} {kk kk1 : ItK} {as as1 : List CE} {p p1 : Pt} {cond cond1 : Option CE} {elt : CE} (ρ : Env) (S : Store) : evE P cl th (.comp2 own own1 kk as p cond kk1 as1 p1 cond1 elt) ρ S = (mComp2 P cl th own own1 kk as p cond kk1 as1 p1 cond1 elt ρ S).bind fun ds S => .ok (.d (.lst ds)) S := by
  simp only [evE]
  unfold mComp2
  rw [Res.bind_assoc]
theorem okComp2 {T : Tx} {c : Sc} {own own1 : List Nat} {kk kk1 : ItK} {as as1 : List CE} {p p1 : Pt} {cond cond1 : Option CE} {elt : CE} {el : Expr} {gs : List Comprehension} {scope : Scope} {pos : Pos} (h : okE T c (.comp2 own own1 kk as p cond kk1 as1 p1 cond1 elt) (.ListComp el gs scope pos) = true) :
    ∃ tg iter ifs es tg1 iter1 ifs1 es1, gs = [⟨tg, iter, ifs, 0⟩, ⟨tg1, iter1, ifs1, 0⟩] ∧ blkC c.N c.sc scope (ownL c.N own) = true ∧ ptIn p own = true ∧ ptIn p1 own1 = true ∧ own1.all (fun i => own.contains i) = true ∧ noSet iter = true ∧ noSet iter1 = true ∧ okPt (blkSc c scope) p tg = true ∧ okPt (blkSc c scope) p1 tg1 = true ∧
      itArgs T c kk tg iter = some es ∧ okL T c as es = true ∧ itArgs T (blkSc c scope) kk1 tg1 iter1 = some es1 ∧ okL T (blkSc c scope) as1 es1 = true ∧ okF T (blkSc c scope) cond ifs = true ∧ okF T (blkSc c scope) cond1 ifs1 = true ∧ okE T (blkSc c scope) elt el = true := by
  match gs, h with
  | [], h => exact (Bool.false_ne_true h).elim
  | [⟨_, _, _, _⟩], h => exact (Bool.false_ne_true h).elim
  | ⟨_, _, _, _⟩ :: ⟨_, _, _, _⟩ :: _ :: _, h => exact (Bool.false_ne_true h).elim
  | [⟨tg, iter, ifs, ia⟩, ⟨tg1, iter1, ifs1, ia1⟩], h =>
    have h : (decide (ia = 0) && decide (ia1 = 0) && blkC c.N c.sc scope (ownL c.N own) && ptIn p own && ptIn p1 own1 && own1.all (fun i => own.contains i) && noSet iter && noSet iter1 && okPt (blkSc c scope) p tg && okPt (blkSc c scope) p1 tg1 && (match itArgs T c kk tg iter with
    | some es => okL T c as es
    | none => false) && (match itArgs T (blkSc c scope) kk1 tg1 iter1 with
    | some es => okL T (blkSc c scope) as1 es
    | none => false) && okF T (blkSc c scope) cond ifs && okF T (blkSc c scope) cond1 ifs1 && okE T (blkSc c scope) elt el) = true := h
    simp only [Bool.and_eq_true, decide_eq_true_eq] at h
    obtain ⟨⟨⟨⟨⟨⟨⟨⟨⟨⟨⟨⟨⟨⟨rfl, rfl⟩, h1⟩, h2⟩, h3⟩, h4⟩, h5⟩, h6⟩, h7⟩, h8⟩, h9⟩, h10⟩, h11⟩, h12⟩, h13⟩ := h
    split at h9
    · rename_i es ei
      split at h10
      · rename_i es1 ei1
        exact ⟨tg, iter, ifs, es, tg1, iter1, ifs1, es1, rfl, h1, h2, h3, h4, h5, h6, h7, h8, ei, h9, ei1, h10, h11, h12, h13⟩
      · cases h10
    · cases h9
mutual
theorem snd : ∀ (e : CE) (c : Sc) (ex : Expr), okE T c e ex = true → ∀ (X : Cx) (E : WX), Ctx T Z cl k c X E → Both X Z E T.P ex (evE T.P cl th e)
  | .var i, c, ex, h, X, E, C => by
    cases ex with
    | Name x p => exact both_of (PE.imp (C.var (show okVar c i x = true from h)) fun σ H Q q => rd_var q) rfl
    | _ => exact (Bool.false_ne_true h).elim
  | .cst d, c, ex, h, X, E, C => by
    obtain ⟨v, h1, h2⟩ := pe_cst (X := X) (Z := Z) (show okC d ex = true from h)
    refine both_of (PE.imp h1 fun σ H Q q => rd_cst h2 q) ?_
    cases ex with
    | Constant _ _ _ => rfl
    | _ => cases d <;> exact (Bool.false_ne_true h).elim
  | .glo j, c, ex, h, X, E, C => by
    cases ex with
    | Name x p =>
      have h : (okGl c x && isCon T x j) = true := h
      rw [Bool.and_eq_true] at h
      obtain ⟨g1, g2, _⟩ := C.gl h.1
      obtain ⟨d, v, u, e1, e2, e3, e4⟩ := C.G.gk x j (isCon_is h.2)
      refine both_of (PE.imp (pe_glob g1 e2 e3 g2) fun σ H Q q => rd_cst (E := E) (x := d) e4 ?_) rfl
      obtain ⟨W, ρ, S, er, st, q⟩ := q
      refine ⟨W, ρ, S, er, st, ?_⟩
      have q : Po X.K Z E (Rv X.K Z) W σ Q (match T.P.cons[j]? with
        | some x => .ok (.d x) S
        | none => .bad) := q
      rw [e1] at q
      exact q
    | _ => exact (Bool.false_ne_true h).elim
  | .live (.lst es), c, ex, h, X, E, C => by
    cases ex with
    | List xs p =>
      have h : (true && (decide (es.length ≤ 1000) && okL T c es xs)) = true := h
      simp only [Bool.true_and, Bool.and_eq_true, decide_eq_true_eq] at h
      exact both_of (pe_eq (live_of (lst_ruleN h.1 (sndL es c xs h.2 X E C))) (live_eq lst_eq)) rfl
    | _ => exact (Bool.false_ne_true h).elim
  | .live (.comp own kk as p cond elt), c, ex, h, X, E, C => by
    cases ex with
    | ListComp el gs scope pos =>
      cases gs with
      | nil => exact (Bool.false_ne_true h).elim
      | cons g gs =>
        cases gs with
        | cons g2 gs =>
          obtain ⟨_, _, _, _⟩ := g
          exact (Bool.false_ne_true h).elim
        | nil =>
          obtain ⟨tg, iter, ifs, ia⟩ := g
          have h : (true && (decide (ia = 0) && blkC c.N c.sc scope (ownL c.N own) && ptIn p own && noSet iter && okPt (blkSc c scope) p tg && (match itArgs T c kk tg iter with
            | some es => okL T c as es
            | none => false) && okF T (blkSc c scope) cond ifs && okE T (blkSc c scope) elt el)) = true := h
          simp only [Bool.true_and, Bool.and_eq_true, decide_eq_true_eq] at h
          obtain ⟨⟨⟨⟨⟨⟨⟨rfl, h1⟩, h2⟩, h3⟩, h4⟩, h5⟩, h6⟩, h7⟩ := h
          split at h5
          · rename_i es ei
            exact both_of (pe_eq (live_of (comp_rule C h1 h2 h3 h4 (it_rule C ei (sndL as c es h5 X E C)) (fun X' E' C' => sndF cond _ ifs h6 X' E' C') (fun X' E' C' => (snd elt _ el h7 X' E' C').1))) (live_eq comp_eq)) rfl
          · cases h5
    | _ => exact (Bool.false_ne_true h).elim
  | .comp own kk as p cond elt, c, ex, h, X, E, C => by
    cases ex with
    | ListComp el gs scope pos =>
      cases gs with
      | nil => exact (Bool.false_ne_true h).elim
      | cons g gs =>
        cases gs with
        | cons g2 gs =>
          obtain ⟨_, _, _, _⟩ := g
          exact (Bool.false_ne_true h).elim
        | nil =>
          obtain ⟨tg, iter, ifs, ia⟩ := g
          have h : (decide (ia = 0) && blkC c.N c.sc scope (ownL c.N own) && ptIn p own && noSet iter && okPt (blkSc c scope) p tg && (match itArgs T c kk tg iter with
            | some es => okL T c as es
            | none => false) && okF T (blkSc c scope) cond ifs && okE T (blkSc c scope) elt el) = true := h
          simp only [Bool.and_eq_true, decide_eq_true_eq] at h
          obtain ⟨⟨⟨⟨⟨⟨⟨rfl, h1⟩, h2⟩, h3⟩, h4⟩, h5⟩, h6⟩, h7⟩ := h
          split at h5
          · rename_i es ei
            exact both_of (pe_eq (data_of (comp_rule C h1 h2 h3 h4 (it_rule C ei (sndL as c es h5 X E C)) (fun X' E' C' => sndF cond _ ifs h6 X' E' C') (fun X' E' C' => (snd elt _ el h7 X' E' C').1))) comp_eq) rfl
          · cases h5
    | _ => exact (Bool.false_ne_true h).elim
  | .live (.var _), c, ex, h, X, E, C => (Bool.false_ne_true h).elim
  | .live (.cst _), c, ex, h, X, E, C => (Bool.false_ne_true h).elim
  | .live (.glo _), c, ex, h, X, E, C => (Bool.false_ne_true h).elim
  | .live (.live _), c, ex, h, X, E, C => (Bool.false_ne_true h).elim
  | .live (.bin _ _ _), c, ex, h, X, E, C => (Bool.false_ne_true h).elim
  | .live (.neg _), c, ex, h, X, E, C => (Bool.false_ne_true h).elim
  | .live (.cmp _ _ _), c, ex, h, X, E, C => (Bool.false_ne_true h).elim
  | .live (.chn _ _ _ _ _), c, ex, h, X, E, C => (Bool.false_ne_true h).elim
  | .live (.land _ _), c, ex, h, X, E, C => (Bool.false_ne_true h).elim
  | .live (.lor _ _), c, ex, h, X, E, C => (Bool.false_ne_true h).elim
  | .live (.lnot _), c, ex, h, X, E, C => (Bool.false_ne_true h).elim
  | .live (.ite _ _ _), c, ex, h, X, E, C => (Bool.false_ne_true h).elim
  | .live (.tup _), c, ex, h, X, E, C => (Bool.false_ne_true h).elim
  | .live (.tupS _), c, ex, h, X, E, C => (Bool.false_ne_true h).elim
  | .live (.lstS _), c, ex, h, X, E, C => (Bool.false_ne_true h).elim
  | .live (.dct _), c, ex, h, X, E, C => (Bool.false_ne_true h).elim
  | .live (.ix _ _), c, ex, h, X, E, C => (Bool.false_ne_true h).elim
  | .live (.cut _ _ _), c, ex, h, X, E, C => (Bool.false_ne_true h).elim
  | .live (.fld _ _), c, ex, h, X, E, C => (Bool.false_ne_true h).elim
  | .live (.isi _ _), c, ex, h, X, E, C => (Bool.false_ne_true h).elim
  | .live (.call _ _ _), c, ex, h, X, E, C => (Bool.false_ne_true h).elim
  | .live (.mk _ _ _), c, ex, h, X, E, C => (Bool.false_ne_true h).elim
  | .live (.meth _ _ _ _), c, ex, h, X, E, C => (Bool.false_ne_true h).elim
  | .live (.bi _ _), c, ex, h, X, E, C => (Bool.false_ne_true h).elim
  | .live (.bm _ _ _), c, ex, h, X, E, C => (Bool.false_ne_true h).elim
  | .live (.comp2 own own1 kk as p cond kk1 as1 p1 cond1 elt), c, ex, h, X, E, C => by
    cases ex with
    | ListComp el gs scope pos =>
      have h : (true && okE T c (.comp2 own own1 kk as p cond kk1 as1 p1 cond1 elt) (.ListComp el gs scope pos)) = true := h
      rw [Bool.true_and] at h
      obtain ⟨tg, iter, ifs, es, tg1, iter1, ifs1, es1, rfl, h1, h2, h3, h4, h5, h6, h7, h8, ei, h9, ei1, h10, h11, h12, h13⟩ := okComp2 h
      exact both_of (pe_eq (live_of (comp2_rule C h1 h2 h3 h4 h5 h6 h7 h8 (it_rule C ei (sndL as c es h9 X E C)) (fun X' E' C' => it_rule C' ei1 (sndL as1 _ es1 h10 X' E' C')) (fun X' E' C' => sndF cond _ ifs h11 X' E' C') (fun X' E' C' => sndF cond1 _ ifs1 h12 X' E' C') (fun X' E' C' => (snd elt _ el h13 X' E' C').1))) (live_eq comp2_eq)) rfl
    | _ => exact (Bool.false_ne_true h).elim
  | .live (.heard _ _), c, ex, h, X, E, C => (Bool.false_ne_true h).elim
  | .live .ask, c, ex, h, X, E, C => (Bool.false_ne_true h).elim
  | .bin o a b, c, ex, h, X, E, C => by
    cases ex with
    | BinOp x op y p =>
      have h : (decide (opS o = op) && okE T c a x && okE T c b y) = true := h
      simp only [Bool.and_eq_true, decide_eq_true_eq] at h
      obtain ⟨⟨rfl, h1⟩, h2⟩ := h
      exact both_of (PE.imp (pe_op (op_bin o) (snd a c x h1 X E C).1 (snd b c y h2 X E C).1) fun σ H Q q => rd_bin q) rfl
    | _ => exact (Bool.false_ne_true h).elim
  | .neg a, c, ex, h, X, E, C => by
    cases ex with
    | UnaryOp op x p =>
      cases op with
      | USub => exact both_of (PE.imp (pe_un un_neg (snd a c x h X E C).1) fun σ H Q q => rd_neg q) rfl
      | _ => exact (Bool.false_ne_true h).elim
    | _ => exact (Bool.false_ne_true h).elim
  | .cmp o a b, c, ex, h, X, E, C => by
    cases ex with
    | Compare x ops ys p =>
      cases ops with
      | nil => exact (Bool.false_ne_true h).elim
      | cons op ops =>
        cases ops with
        | cons _ _ => exact (Bool.false_ne_true h).elim
        | nil =>
          cases ys with
          | nil => exact (Bool.false_ne_true h).elim
          | cons y ys =>
            cases ys with
            | cons _ _ => exact (Bool.false_ne_true h).elim
            | nil =>
              have h : (decide (coS o = op) && noSet y && okE T c a x && okE T c b y) = true := h
              simp only [Bool.and_eq_true, decide_eq_true_eq] at h
              obtain ⟨⟨⟨rfl, h0⟩, h1⟩, h2⟩ := h
              exact both_cmp C h0 (snd a c x h1 X E C).1 (snd b c y h2 X E C).1
    | _ => exact (Bool.false_ne_true h).elim
  | .chn o q a b d, c, ex, h, X, E, C => by
    cases ex with
    | Compare x ops ys p =>
      match ops, ys, h with
      | [op, op'], [y, z], h =>
        have h : (decide (coS o = op) && decide (coS q = op') && noSet z && okE T c a x && okE T c b y && okE T c d z) = true := h
        simp only [Bool.and_eq_true, decide_eq_true_eq] at h
        obtain ⟨⟨⟨⟨⟨rfl, rfl⟩, h0⟩, h1⟩, h2⟩, h3⟩ := h
        exact both_chn C h0 (snd a c x h1 X E C).1 (snd b c y h2 X E C).1 (snd d c z h3 X E C).1
      | [], _, h => exact (Bool.false_ne_true h).elim
      | [_], _, h => exact (Bool.false_ne_true h).elim
      | _ :: _ :: _ :: _, _, h => exact (Bool.false_ne_true h).elim
      | [_, _], [], h => exact (Bool.false_ne_true h).elim
      | [_, _], [_], h => exact (Bool.false_ne_true h).elim
      | [_, _], _ :: _ :: _ :: _, h => exact (Bool.false_ne_true h).elim
    | _ => exact (Bool.false_ne_true h).elim
  | .land a b, c, ex, h, X, E, C => by
    cases ex with
    | BoolOp op vs p =>
      match op, vs, h with
      | .And, x :: y :: rest, h =>
        have h : (okE T c a x && okE T c b (restE .And y rest p)) = true := h
        rw [Bool.and_eq_true] at h
        exact both_and (snd a c x h.1 X E C) (snd b c _ h.2 X E C)
      | .Or, _, h => exact (Bool.false_ne_true h).elim
      | .And, [], h => exact (Bool.false_ne_true h).elim
      | .And, [_], h => exact (Bool.false_ne_true h).elim
    | _ => exact (Bool.false_ne_true h).elim
  | .lor a b, c, ex, h, X, E, C => by
    cases ex with
    | BoolOp op vs p =>
      match op, vs, h with
      | .Or, x :: y :: rest, h =>
        have h : (okE T c a x && okE T c b (restE .Or y rest p)) = true := h
        rw [Bool.and_eq_true] at h
        exact both_or (snd a c x h.1 X E C) (snd b c _ h.2 X E C)
      | .And, _, h => exact (Bool.false_ne_true h).elim
      | .Or, [], h => exact (Bool.false_ne_true h).elim
      | .Or, [_], h => exact (Bool.false_ne_true h).elim
    | _ => exact (Bool.false_ne_true h).elim
  | .lnot a, c, ex, h, X, E, C => by
    cases ex with
    | UnaryOp op x p =>
      cases op with
      | Not => exact both_not (snd a c x h X E C)
      | _ => exact (Bool.false_ne_true h).elim
    | _ => exact (Bool.false_ne_true h).elim
  | .ite d a b, c, ex, h, X, E, C => by
    cases ex with
    | IfExp x y z p =>
      have h : (okE T c d x && okE T c a y && okE T c b z) = true := h
      simp only [Bool.and_eq_true] at h
      exact both_ite (snd d c x h.1.1 X E C) (snd a c y h.1.2 X E C) (snd b c z h.2 X E C)
    | _ => exact (Bool.false_ne_true h).elim
  | .tup es, c, ex, h, X, E, C => by
    cases ex with
    | Tuple xs kk p =>
      have h : (decide (es.length ≤ 1000) && okL T c es xs) = true := h
      simp only [Bool.and_eq_true, decide_eq_true_eq] at h
      exact both_of (tup_rule h.1 (sndL es c xs h.2 X E C)) rfl
    | _ => exact (Bool.false_ne_true h).elim
  | .lst es, c, ex, h, X, E, C => by
    cases ex with
    | List xs p =>
      have h : (decide (es.length ≤ 1000) && okL T c es xs) = true := h
      simp only [Bool.and_eq_true, decide_eq_true_eq] at h
      exact both_of (pe_eq (data_of (lst_ruleN h.1 (sndL es c xs h.2 X E C))) lst_eq) rfl
    | _ => exact (Bool.false_ne_true h).elim
  | .tupS es, c, ex, h, X, E, C => by
    cases ex with
    | Tuple xs kk p => exact both_of (PE.imp (pe_tup (sndS es c xs h X E C)) fun σ H Q q => rd_tup (by simpa only [evE] using q)) rfl
    | _ => exact (Bool.false_ne_true h).elim
  | .lstS es, c, ex, h, X, E, C => by
    cases ex with
    | List xs p =>
      refine both_of (pe_eq (data_of (PE.imp (pe_lst (sndS es c xs h X E C)) fun σ H Q q => rd_lstN q)) fun ρ S => ?_) rfl
      simp only [evE]
      rw [Res.bind_assoc]
      congr 1
      funext xs S
      split <;> rfl
    | _ => exact (Bool.false_ne_true h).elim
  | .dct kvs, c, ex, h, X, E, C => by
    cases ex with
    | Dict ks vs p =>
      have h : ((kvs.isEmpty && ks.isEmpty && vs.isEmpty) || (decide (kvs.length ≤ 15) && !kvs.isEmpty && decide ((kvs.map (·.1)).Nodup) && okK T c kvs ks vs)) = true := h
      rcases Bool.or_eq_true_iff.mp h with h | h
      · simp only [Bool.and_eq_true, List.isEmpty_iff] at h
        obtain ⟨⟨rfl, rfl⟩, rfl⟩ := h
        refine both_of (PE.imp pe_dnewK fun σ H Q q => ?_) rfl
        obtain ⟨W, ρ, S, er, st, q⟩ := q
        simp only [evE, evK] at q
        intro b hb
        exact q ⟨upd W.F b (.dK []), W.am, W.pn⟩ (.ref b) _ (Wd.le.new (st.ex.free hb)) (st.new hb) (.dct upd_same .nil)
      simp only [Bool.and_eq_true, decide_eq_true_eq, Bool.not_eq_true'] at h
      obtain ⟨⟨⟨h1, h2⟩, h3⟩, h4⟩ := h
      obtain ⟨q1, q2, q3, q4⟩ := sndK kvs c ks vs h4 X E C p
      refine both_of (PE.imp (pe_disp q1 q2 (by rw [q3, q4]) (fun e => ?_) (by rw [q3]; exact h1)) fun σ H Q q => rd_disp (fun {σ H Q} z => trs_ok kvs z) (fun ρ S xs S' e => ?_) q) rfl
      · rw [e] at q3
        cases kvs with
        | nil => cases h2
        | cons _ _ => cases q3
      · have ek := evK_keys e
        refine ⟨by rw [ek]; exact h3, ?_⟩
        have := congrArg List.length ek
        simp only [List.length_map] at this
        omega
    | _ => exact (Bool.false_ne_true h).elim
  | .ix a i, c, ex, h, X, E, C => by
    cases ex with
    | Subscript x y p =>
      have h0 : okE T c (.ix a i) (.Subscript x y p) = (noSl y && okE T c a x && okE T c i y) := by
        cases y <;> rfl
      rw [h0] at h
      simp only [Bool.and_eq_true] at h
      have hu := C.G.room.un
      exact both_of (PE.imp (pe_ix (ix_data (by omega)) (snd a c x h.1.2 X E C).1 (snd i c y h.2 X E C).1 (noSl_plain h.1.1)) fun σ H Q q => rd_ix q) rfl
    | _ => exact (Bool.false_ne_true h).elim
  | .cut a lo hi, c, ex, h, X, E, C => by
    cases ex with
    | Subscript x y p =>
      cases y with
      | Slice l u st p2 =>
        cases st with
        | some _ => exact (Bool.false_ne_true h).elim
        | none =>
          have h : (okE T c a x && okP T c lo l && okP T c hi u) = true := h
          simp only [Bool.and_eq_true] at h
          exact both_of (PE.imp (pe_slice cut_data (snd a c x h.1.1 X E C).1 (sndP lo c l h.1.2 X E C) (sndP hi c u h.2 X E C)) fun σ H Q q => rd_cut q) rfl
      | _ => exact (Bool.false_ne_true h).elim
    | _ => exact (Bool.false_ne_true h).elim
  | .fld a f, c, ex, h, X, E, C => by
    cases ex with
    | Attribute x name p =>
      have h : (decide (T.nms[f]? = some name) && notSup x && okE T c a x) = true := h
      simp only [Bool.and_eq_true, decide_eq_true_eq] at h
      obtain ⟨⟨h1, h2⟩, h3⟩ := h
      have hn := C.G.nms f name h1
      subst hn
      exact both_of (PE.imp (pe_fldY (snd a c x h3 X E C).1 (base_of h2 _ _ _)) fun σ H Q q => rd_fld C.G q) rfl
    | _ => exact (Bool.false_ne_true h).elim
  | .isi a ts, c, ex, h, X, E, C => by
    cases ex with
    | Call fe es kws p =>
      cases fe with
      | Name x np =>
        match es, kws, h with
        | [y, te], [], h =>
          have h : (okBl T c x && decide (x = ("isinstance" : Str)) && !starE y && okTs T c ts te && okE T c a y) = true := h
          simp only [Bool.and_eq_true, decide_eq_true_eq, Bool.not_eq_true'] at h
          obtain ⟨⟨⟨⟨h1, rfl⟩, h2⟩, h3⟩, h4⟩ := h
          obtain ⟨g1, g2, _, _⟩ := C.bl h1
          have hp := (snd a c y h4 X E C).1
          unfold okTs at h3
          split at h3
          · rename_i t ts es kk tp
            simp only [Bool.and_eq_true, decide_eq_true_eq] at h3
            exact both_of (pe_isiT C.G g1 g2 hp (okTys_pa C h3.1) (by rw [List.length_cons]; omega) h2) rfl
          · rename_i t e _
            obtain ⟨q1, q2⟩ := okTy_pe C h3
            exact both_of (pe_isi1 C.G g1 g2 hp q1 h2 q2) rfl
          · cases h3
        | [], _, h => exact (Bool.false_ne_true h).elim
        | [_], _, h => exact (Bool.false_ne_true h).elim
        | [_, _], _ :: _, h => exact (Bool.false_ne_true h).elim
        | _ :: _ :: _ :: _, _, h => exact (Bool.false_ne_true h).elim
      | _ => exact (Bool.false_ne_true h).elim
    | _ => exact (Bool.false_ne_true h).elim
  | .call f as ks, c, ex, h, X, E, C => by
    cases ex with
    | Call fe es kws p =>
      cases fe with
      | Name x np =>
        have h : (okGl c x && isFnN T x f && okCall T f 0 as.length (ks.map (·.1)) kws && decide ((ks.map (·.1)).Nodup) && okL T c as es && okKs T c ks kws) = true := h
        simp only [Bool.and_eq_true, decide_eq_true_eq] at h
        obtain ⟨⟨⟨⟨⟨h1, h2⟩, h3⟩, h4⟩, h5⟩, h6⟩ := h
        obtain ⟨g1, g2, _⟩ := C.gl h1
        obtain ⟨d, l, e1, e2, e3, e4, e5⟩ := okCall_some h3
        have A := args_ok (cl := cl) (th := th) (sndL as c es h5 X E C) (sndKs ks c kws h6 X E C) h4
        refine both_of (pe_eq (pe_callG C.G C.tk g1 g2 (C.G.gf x f (isFn_is h2)) e1 A e3 e4 (by rw [C.G.ps f l e2]; exact e5)) fun ρ S => ?_) rfl
        simp only [evE]
        rfl
      | _ => exact (Bool.false_ne_true h).elim
    | _ => exact (Bool.false_ne_true h).elim
  | .mk j as ks, c, ex, h, X, E, C => by
    cases ex with
    | Call fe es kws p =>
      cases fe with
      | Name x np =>
        have h : (okGl c x && isClsN T x j && (match (T.P.cls[j]?).bind (·.init) with
          | some f => okCall T f 1 as.length (ks.map (·.1)) kws
          | none => false) && decide ((ks.map (·.1)).Nodup) && okL T c as es && okKs T c ks kws) = true := h
        simp only [Bool.and_eq_true, decide_eq_true_eq] at h
        obtain ⟨⟨⟨⟨⟨h1, h2⟩, h3⟩, h4⟩, h5⟩, h6⟩ := h
        split at h3
        · rename_i f hf
          obtain ⟨kd, k1, k2⟩ := Option.bind_eq_some_iff.mp hf
          obtain ⟨g1, g2, _⟩ := C.gl h1
          obtain ⟨d, l, e1, e2, e3, e4, e5⟩ := okCall_some h3
          have A := args_ok (cl := cl) (th := th) (sndL as c es h5 X E C) (sndKs ks c kws h6 X E C) h4
          refine both_of (pe_eq (pe_mkG C.G C.tk g1 g2 (C.G.gc x j (isCls_is h2)) k1 k2 e1 A e3 e4 (by rw [C.G.ps f l e2]; exact e5)) fun ρ S => ?_) rfl
          simp only [evE]
          rfl
        · cases h3
      | _ => exact (Bool.false_ne_true h).elim
    | _ => exact (Bool.false_ne_true h).elim
  | .meth o m as ks, c, ex, h, X, E, C => by
    cases ex with
    | Call fe es kws p =>
      cases fe with
      | Attribute x name apos =>
        have h : (decide (T.nms[m]? = some name) && notSup x && (apos.endLine == p.line) && decide (es.length + kws.length + 1 < 30) && (T.P.cls.all fun kd => match kd.meths.lookup m with
          | some f => okCall T f 1 as.length (ks.map (·.1)) kws
          | none => true) && decide ((ks.map (·.1)).Nodup) && okE T c o x && okL T c as es && okKs T c ks kws) = true := h
        simp only [Bool.and_eq_true, decide_eq_true_eq] at h
        obtain ⟨⟨⟨⟨⟨⟨⟨⟨h1, h2⟩, h3⟩, h4⟩, h5⟩, h6⟩, h7⟩, h8⟩, h9⟩ := h
        have A := args_ok (cl := cl) (th := th) (sndL as c es h8 X E C) (sndKs ks c kws h9 X E C) h6
        refine both_of (pe_eq (pe_methG C.G C.tk (C.G.nms m name h1) h2 h3 h4 (snd o c x h7 X E C).1 A fun j kd f hj hf => ?_) fun ρ S => ?_) rfl
        · have q := List.all_eq_true.mp h5 kd (List.mem_of_getElem? hj)
          rw [hf] at q
          obtain ⟨d, l, e1, e2, e3, e4, e5⟩ := okCall_some q
          exact ⟨d, e1, e3, e4, by rw [C.G.ps f l e2]; exact e5⟩
        · simp only [evE]
          rfl
      | _ => exact (Bool.false_ne_true h).elim
    | _ => exact (Bool.false_ne_true h).elim
  | .bi b as, c, ex, h, X, E, C => by
    cases ex with
    | Call fe es kws p =>
      cases fe with
      | Name x np =>
        match es, kws, h with
        | e :: es, [], h =>
          have h : (match biId b with
            | some (_, n) => decide (x = Str.ofString n) && okBl T c x && okL T c as (e :: es)
            | none => match spArg T c b x e es with
              | some a => decide (as.length = 1) && okL T c as [a]
              | none => false) = true := h
          split at h
          · rename_i ty n hb
            simp only [Bool.and_eq_true, decide_eq_true_eq] at h
            obtain ⟨⟨rfl, h1⟩, h2⟩ := h
            obtain ⟨g1, g2, g3, g4⟩ := C.bl h1
            have A := sndL as c (e :: es) h2 X E C
            refine both_of (pe_eq (pe_biG C.G C.calm hb g1 g2 g4 g3 A.stars A.pa) fun ρ S => ?_) rfl
            simp only [evE] <;> rfl
          · split at h
            · rename_i a ha
              rw [Bool.and_eq_true, decide_eq_true_eq] at h
              have A := sndL as c [a] h.2 X E C
              have hst := A.stars a (by simp)
              match as, h.1, A with
              | [g], _, A =>
                obtain ⟨_, eq, hp⟩ := A.one
                cases eq
                refine both_of (pe_eq (sp_rule (P := T.P) C ha hst hp) fun ρ S => ?_) rfl
                simp only [evE, evL_one]
                unfold mSp
                rw [Res.bind_assoc]
                rfl
            · cases h
        | [], _, h => exact (Bool.false_ne_true h).elim
        | _ :: _, _ :: _, h => exact (Bool.false_ne_true h).elim
      | _ => exact (Bool.false_ne_true h).elim
    | _ => exact (Bool.false_ne_true h).elim
  | .bm m o as, c, ex, h, X, E, C => by
    cases ex with
    | Call fe es kws p =>
      cases fe with
      | Attribute x name apos =>
        cases kws with
        | cons _ _ => exact (Bool.false_ne_true h).elim
        | nil =>
          have h : (notSup x && (apos.endLine == p.line) && okE T c o x && okL T c as es && okBm m name es) = true := h
          simp only [Bool.and_eq_true] at h
          obtain ⟨⟨⟨⟨h1, h2⟩, h3⟩, h4⟩, h5⟩ := h
          have hp := (snd o c x h3 X E C).1
          have A := sndL as c es h4 X E C
          match m, es, h5, A with
          | .append, [e], h5, A =>
            have h5 : name = ("append" : Str) := of_decide_eq_true h5
            subst h5
            have s1 := star_cons (A.stars e (by simp)) [] X.env
            refine both_of (pe_eq (PE.imp (pe_bm PySem.F.plainAttrs_list PySem.F.slot_list_append PySem.F.type_list_append mt_append hp A.pa (base_of h1 _ _ _) (by rw [s1]; rfl) h2 s1 rfl) fun σ H Q q => rd_append q) fun ρ S => ?_) rfl
            simp only [evE]
            rfl
          | .popAt, [e], h5, A =>
            have h5 : name = ("pop" : Str) := of_decide_eq_true h5
            subst h5
            have s1 := star_cons (A.stars e (by simp)) [] X.env
            refine both_of (pe_eq (PE.imp (pe_bm PySem.F.plainAttrs_list PySem.F.slot_list_pop PySem.F.type_list_pop mt_popAt hp A.pa (base_of h1 _ _ _) (by rw [s1]; rfl) h2 s1 rfl) fun σ H Q q => rd_popAt q) fun ρ S => ?_) rfl
            simp only [evE]
            rfl
          | .pop, [], h5, A =>
            have h5 : name = ("pop" : Str) := of_decide_eq_true h5
            subst h5
            cases A
            refine both_of (pe_eq (PE.imp (pe_bm0 PySem.F.plainAttrs_list PySem.F.slot_list_pop PySem.F.type_list_pop mt_pop hp (base_of h1 _ _ _) h2) fun σ H Q q => rd_pop q) fun ρ S => ?_) rfl
            simp only [evE, evL]
            rfl
          | .append, [], h5, A => cases h5
          | .append, _ :: _ :: _, h5, A => cases h5
          | .popAt, [], h5, A => cases h5
          | .popAt, _ :: _ :: _, h5, A => cases h5
          | .pop, _ :: _, h5, A => cases h5
          | .insert, _, h5, A => cases h5
          | .count, [e], h5, A =>
            have h5 : name = ("count" : Str) := of_decide_eq_true h5
            subst h5
            have s1 := star_cons (A.stars e (by simp)) [] X.env
            refine both_of (pe_eq (PE.imp (pe_bm PySem.F.plainAttrs_list PySem.F.slot_list_count PySem.F.type_list_count mt_countV hp A.pa (base_of h1 _ _ _) (by rw [s1]; rfl) h2 s1 rfl) fun σ H Q q => rd_count q) fun ρ S => ?_) rfl
            simp only [evE]
            rfl
          | .index, [e], h5, A =>
            have h5 : name = ("index" : Str) := of_decide_eq_true h5
            subst h5
            have s1 := star_cons (A.stars e (by simp)) [] X.env
            refine both_of (pe_eq (PE.imp (pe_bm PySem.F.plainAttrs_list PySem.F.slot_list_index PySem.F.type_list_index mt_index hp A.pa (base_of h1 _ _ _) (by rw [s1]; rfl) h2 s1 rfl) fun σ H Q q => rd_index q) fun ρ S => ?_) rfl
            simp only [evE]
            rfl
          | .count, [], h5, A => cases h5
          | .count, _ :: _ :: _, h5, A => cases h5
          | .index, [], h5, A => cases h5
          | .index, _ :: _ :: _, h5, A => cases h5
      | _ => exact (Bool.false_ne_true h).elim
    | _ => exact (Bool.false_ne_true h).elim
  | .comp2 own own1 kk as p cond kk1 as1 p1 cond1 elt, c, ex, h, X, E, C => by
    cases ex with
    | ListComp el gs scope pos =>
      obtain ⟨tg, iter, ifs, es, tg1, iter1, ifs1, es1, rfl, h1, h2, h3, h4, h5, h6, h7, h8, ei, h9, ei1, h10, h11, h12, h13⟩ := okComp2 h
      exact both_of (pe_eq (data_of (comp2_rule C h1 h2 h3 h4 h5 h6 h7 h8 (it_rule C ei (sndL as c es h9 X E C)) (fun X' E' C' => it_rule C' ei1 (sndL as1 _ es1 h10 X' E' C')) (fun X' E' C' => sndF cond _ ifs h11 X' E' C') (fun X' E' C' => sndF cond1 _ ifs1 h12 X' E' C') (fun X' E' C' => (snd elt _ el h13 X' E' C').1))) comp2_eq) rfl
    | _ => exact (Bool.false_ne_true h).elim
  | .heard f body, c, ex, h, X, E, C => by
    cases ex with
    | Call fn es ks p =>
      cases fn with
      | Name x px =>
        match es, ks, h with
        | [.Lambda params e scope lp], [], h =>
          have h : (okGl c x && isFnN T x f && isHear T f && okLam c params scope && okE T (lamSc c scope) body e) = true := h
          simp only [Bool.and_eq_true] at h
          obtain ⟨⟨⟨⟨h1, h2⟩, h3⟩, h4⟩, h5⟩ := h
          unfold isHear at h3
          split at h3
          · rename_i d hd
            unfold okLam at h4
            rw [Bool.and_eq_true] at h4
            obtain ⟨h4, h6⟩ := h4
            split at h6
            · rename_i qs hq
              refine both_of (PE.imp (pe_heard C h4 h1 (isFn_is h2) hd h3 hq (by rw [C.sc, C.N]; exact lamS3_by h6) fun X' E' C' => (snd body (lamSc c scope) e h5 X' E' C').1) fun σ H Q q => by simpa only [evE] using q) rfl
            · cases h6
          · cases h3
      | _ => exact (Bool.false_ne_true h).elim
    | _ => exact (Bool.false_ne_true h).elim
  | .ask, c, ex, h, X, E, C => (Bool.false_ne_true h).elim
theorem sndL : ∀ (es : List CE) (c : Sc) (xs : List Expr), okL T c es xs = true → ∀ (X : Cx) (E : WX), Ctx T Z cl k c X E → PEs X Z E T.P cl th es xs
  | [], c, xs, h, X, E, C => by
    cases xs with
    | nil => exact .nil
    | cons _ _ => exact (Bool.false_ne_true h).elim
  | e :: es, c, xs, h, X, E, C => by
    cases xs with
    | nil => exact (Bool.false_ne_true h).elim
    | cons x xs =>
      have h : (!starE x && okE T c e x && okL T c es xs) = true := h
      simp only [Bool.and_eq_true, Bool.not_eq_true'] at h
      exact .cons h.1.1 (snd e c x h.1.2 X E C).1 (sndL es c xs h.2 X E C)
theorem sndS : ∀ (es : List (Bool × CE)) (c : Sc) (xs : List Expr), okS T c es xs = true → ∀ (X : Cx) (E : WX), Ctx T Z cl k c X E → PA X xs (rdD X.K Z E (evS T.P cl th es))
  | [], c, xs, h, X, E, C => by
    cases xs with
    | nil => exact PA.imp pa_nil fun σ H Q q => rd_snil (by simpa only [evS] using q)
    | cons _ _ => exact (Bool.false_ne_true h).elim
  | (true, e) :: es, c, xs, h, X, E, C => by
    cases xs with
    | nil => exact (Bool.false_ne_true h).elim
    | cons x xs =>
      cases x with
      | Starred x p =>
        have h : (okE T c e x && okS T c es xs) = true := h
        rw [Bool.and_eq_true] at h
        exact PA.imp (StX.pa_star (snd e c x h.1 X E C).1 (sndS es c xs h.2 X E C)) fun σ H Q q => rd_sstar q
      | _ => exact (Bool.false_ne_true h).elim
  | (false, e) :: es, c, xs, h, X, E, C => by
    cases xs with
    | nil => exact (Bool.false_ne_true h).elim
    | cons x xs =>
      have h : (!starE x && okE T c e x && okS T c es xs) = true := h
      simp only [Bool.and_eq_true, Bool.not_eq_true'] at h
      exact PA.imp (pa_cons (snd e c x h.1.2 X E C).1 (sndS es c xs h.2 X E C) (star_cons h.1.1 xs X.env)) fun σ H Q q => rd_scons (by simpa only [evS] using q)
theorem sndK : ∀ (es : List (Sum Int Str × CE)) (c : Sc) (ks : List (Option Expr)) (vs : List Expr), okK T c es ks vs = true → ∀ (X : Cx) (E : WX), Ctx T Z cl k c X E → ∀ pos, PPs X pos ks vs (trsOf X.K Z E T.P cl th es) ∧ ks.all (·.isSome) = true ∧ ks.length = es.length ∧ vs.length = es.length
  | [], c, ks, vs, h, X, E, C, pos => by
    cases ks with
    | cons _ _ => exact (Bool.false_ne_true h).elim
    | nil =>
      cases vs with
      | cons _ _ => exact (Bool.false_ne_true h).elim
      | nil => exact ⟨pps_nil, rfl, rfl, rfl⟩
  | (key, e) :: es, c, ks, vs, h, X, E, C, pos => by
    cases ks with
    | nil => exact (Bool.false_ne_true h).elim
    | cons y ks =>
      cases y with
      | none => exact (Bool.false_ne_true h).elim
      | some y =>
        cases vs with
        | nil => exact (Bool.false_ne_true h).elim
        | cons x vs =>
          have h : (okC (kD key) y && okE T c e x && okK T c es ks vs) = true := h
          simp only [Bool.and_eq_true] at h
          obtain ⟨q1, q2, q3, q4⟩ := sndK es c ks vs h.2 X E C pos
          exact ⟨pps_cons (key_pe h.1.1) (snd e c x h.1.2 X E C).1 q1, by simpa using q2, congrArg (· + 1) q3, congrArg (· + 1) q4⟩
theorem sndKs : ∀ (es : List (Nat × CE)) (c : Sc) (kws : List Keyword), okKs T c es kws = true → ∀ (X : Cx) (E : WX), Ctx T Z cl k c X E → PK X kws (rdK X.K Z E (evKs T.P cl th es)) ∧ ∀ q ∈ kws, q.arg.isSome = true
  | [], c, kws, h, X, E, C => by
    cases kws with
    | cons _ _ => exact (Bool.false_ne_true h).elim
    | nil => exact ⟨⟨fun pos pins s σ H Q I q => pk_nil.run pos pins s σ H Q I (rd_knil (by simpa only [evKs] using q))⟩, fun q hq => by simp at hq⟩
  | (i, e) :: es, c, kws, h, X, E, C => by
    cases kws with
    | nil => exact (Bool.false_ne_true h).elim
    | cons kw kws =>
      obtain ⟨n, x, p⟩ := kw
      have h : (n.isSome && okE T c e x && okKs T c es kws) = true := h
      simp only [Bool.and_eq_true] at h
      obtain ⟨q1, q2⟩ := sndKs es c kws h.2 X E C
      refine ⟨⟨fun pos pins s σ H Q I q => (pk_cons (snd e c x h.1.2 X E C).1 q1).run pos pins s σ H Q I (rd_kcons (by simpa only [evKs] using q))⟩, fun q hq => ?_⟩
      rcases List.mem_cons.mp hq with z | z
      · rw [z]
        exact h.1.1
      · exact q2 q z
theorem sndF : ∀ (o : Option CE) (c : Sc) (ifs : List Expr), okF T c o ifs = true → ∀ (X : Cx) (E : WX), Ctx T Z cl k c X E → PTs X ifs (rdT X.K Z E fun ρ S => evC T.P cl th o ρ S)
  | none, c, ifs, h, X, E, C => by
    cases ifs with
    | cons _ _ => exact (Bool.false_ne_true h).elim
    | nil => exact ⟨fun pins s σ H Q I q => pts_nil.run pins s σ H Q I (by
        obtain ⟨W, ρ, S, er, st, q⟩ := q
        simp only [evC] at q
        exact q W true H (Wd.le.refl _) st rfl)⟩
  | some e, c, ifs, h, X, E, C => by
    cases ifs with
    | nil => exact (Bool.false_ne_true h).elim
    | cons x ifs =>
      cases ifs with
      | cons _ _ => exact (Bool.false_ne_true h).elim
      | nil => exact ⟨fun pins s σ H Q I q => (pts_one (snd e c x h X E C).2.pt).run pins s σ H Q I (by simpa only [evC] using q)⟩
theorem sndP : ∀ (o : Option CE) (c : Sc) (x : Option Expr), okP T c o x = true → ∀ (X : Cx) (E : WX), Ctx T Z cl k c X E → PO X x (rdO X.K Z E fun ρ S => evO T.P cl th o ρ S)
  | none, c, x, h, X, E, C => by
    cases x with
    | some _ => exact (Bool.false_ne_true h).elim
    | none => exact ⟨fun pins s σ H Q I q => po_none.run pins s σ H Q I (rd_onone (by simpa only [evO] using q))⟩
  | some e, c, x, h, X, E, C => by
    cases x with
    | none => exact (Bool.false_ne_true h).elim
    | some x => exact ⟨fun pins s σ H Q I q => (po_some (snd e c x h X E C).1).run pins s σ H Q I (rd_osome q)⟩
end
end
end Wk

set_option Elab.async false
set_option linter.all false
set_option maxRecDepth 100000
set_option maxHeartbeats 4000000
/-! WkW: statements: rules. -/
namespace Wk
open PySem PySem.Spec L2
open PyProof.Rows hiding St

section
variable {K : PySem.W.Frag} {Z : Sx} {E : WX} {W W' : Wd} {D : Ends} {σ : L2.St} {H : Hp} {ρ : Env} {S : Store}
def PoS (K : PySem.W.Frag) (Z : Sx) (E : WX) (W : Wd) (D : Ends) : SR → Prop
  | .nx ρ S => ∀ (W' : Wd) (σ' : L2.St) (H' : Hp), W.le W' → EnvR K Z W' ρ σ' → Sto K Z W' S H' → D.nx σ' H'
  | .ret v S => ∀ (W' : Wd) (u : V) (H' : Hp), W.le W' → Sto K Z W' S H' → Rv K Z W' v u → D.rt u H'
  | .brk ρ S => ∀ (W' : Wd) (σ' : L2.St) (H' : Hp), W.le W' → EnvR K Z W' ρ σ' → Sto K Z W' S H' → D.bk σ' H'
  | .cnt ρ S => ∀ (W' : Wd) (σ' : L2.St) (H' : Hp), W.le W' → EnvR K Z W' ρ σ' → Sto K Z W' S H' → D.ct σ' H'
  | .exc x ρ S => ∀ (W' : Wd) (cls : Value) (dd : Option Addr) (σ' : L2.St) (H' : Hp), W.le W' → EnvR K Z W' ρ σ' → Sto K Z W' S H' → Xr K Z W' H' x cls dd → E cls dd σ' H'
  | .bad => False
theorem PoS.mono {r : SR} (l : W.le W') (h : PoS K Z E W D r) : PoS K Z E W' D r := by
  cases r with
  | nx ρ S => exact fun W1 s H l1 => h W1 s H (l.trans l1)
  | ret v S => exact fun W1 s H l1 => h W1 s H (l.trans l1)
  | brk ρ S => exact fun W1 s H l1 => h W1 s H (l.trans l1)
  | cnt ρ S => exact fun W1 s H l1 => h W1 s H (l.trans l1)
  | exc x ρ S => exact fun W1 c d s H l1 => h W1 c d s H (l.trans l1)
  | bad => exact h
abbrev Ms := Env → Store → SR
def rdS (K : PySem.W.Frag) (Z : Sx) (E : WX) (m : Ms) : TS := fun D σ H => ∃ W ρ S, EnvR K Z W ρ σ ∧ Sto K Z W S H ∧ PoS K Z E W D (m ρ S)
/-- an expression first -/
theorem st_po {α β : Type} {R : Wd → α → β → Prop} {Q : β → Hp → Prop} {r : Res α} {k : α → Store → SR} (er : EnvR K Z W ρ σ) (h : PoS K Z E W D (r.st ρ k))
    (i : ∀ a S1, r = .ok a S1 → ∀ b H1 W1, W.le W1 → EnvR K Z W1 ρ σ → Sto K Z W1 S1 H1 → R W1 a b → PoS K Z E W1 D (k a S1) → Q b H1) : Po K Z E R W σ Q r := by
  cases r with
  | ok a S1 => exact fun W1 b H1 l st rb => i a S1 rfl b H1 W1 l (er.mono l) st rb (PoS.mono l h)
  | exc x S1 => exact fun W1 c d H1 l st xr => h W1 c d σ H1 l (er.mono l) st xr
  | bad => exact h
theorem frz_pos {v : Vl} {u : V} {k : Wk.D → Store → SR} (st : Sto K Z W S H) (r : Rv K Z W v u) (h : PoS K Z E W D ((frz v S).st ρ k)) : ∃ W' S' x, W.le W' ∧ W'.am = W.am ∧ Sto K Z W' S' H ∧ Rl K Z W'.F x u ∧ PoS K Z E W' D (k x S') := by
  cases e : frz v S with
  | bad =>
    rw [e] at h
    exact h.elim
  | exc x S1 => exact absurd e frz_noexc
  | ok x S1 =>
    rw [e] at h
    obtain ⟨W', l, s', r', am⟩ := st.frz r e
    exact ⟨W', S1, x, l, am, s', r', PoS.mono l h⟩
theorem rs_drop {m : Mv} (h : rdS K Z E (fun ρ S => (m ρ S).st ρ fun _ S => .nx ρ S) D σ H) : tDrop (rdE K Z E m) D σ H := by
  obtain ⟨W, ρ, S, er, st, h⟩ := h
  exact ⟨W, ρ, S, er, st, st_po er h fun a S1 e b H1 W1 l er1 st1 rb q => q W1 σ H1 (Wd.le.refl _) er1 st1⟩
theorem rs_ret {m : Mv} (h : rdS K Z E (fun ρ S => (m ρ S).st ρ fun v S => .ret v S) D σ H) : tRet (rdE K Z E m) D σ H := by
  obtain ⟨W, ρ, S, er, st, h⟩ := h
  exact ⟨W, ρ, S, er, st, st_po er h fun a S1 e b H1 W1 l er1 st1 rb q => q W1 b H1 (Wd.le.refl _) st1 rb⟩
def mAsg (p : Pt) (m : Mv) : Ms := fun ρ S => (m ρ S).st ρ fun v S => (match setPv p v S ρ with
    | some ρ => .nx ρ S
    | none => .bad)
theorem rs_asg {p : Pt} {m : Mv} (h : rdS K Z E (mAsg p m) D σ H) : tAsg (rdE K Z E m) (gP K p) D σ H := by
  obtain ⟨W, ρ, S, er, st, h⟩ := h
  refine ⟨W, ρ, S, er, st, st_po er h fun a S1 e b H1 W1 l er1 st1 rb q => ?_⟩
  cases p with
  | nm i =>
    show D.nx (σ.set i (some b)) H1
    exact q W1 _ H1 (Wd.le.refl _) (er1.set rb) st1
  | tup is =>
    simp only [setPv] at q
    cases hv : vw S1 a with
    | none =>
      rw [hv] at q
      exact q.elim
    | some x =>
      rw [hv] at q
      cases hs : setPt (.tup is) x ρ with
      | none =>
        simp only [Option.bind, hs] at q
        exact q.elim
      | some ρ1 =>
        simp only [Option.bind, hs] at q
        have go : ∀ {y : Wk.D}, y = x → Rl K Z W1.F y b → gP K (.tup is) b σ H1 D.nx := fun {y} ey ry => by
          subst ey
          exact gP_ok (fun _ => True) st1 ry er1 hs trivial (fun _ _ _ _ _ => trivial) fun σ' er' _ => q W1 σ' H1 (Wd.le.refl _) er' st1
        cases st1.tv rb hv with
        | tup h n r => exact go rfl (.tup h n r)
        | _ => simp [setPt] at hs
theorem gNs_refs {Q : L2.St → Hp → Prop} : ∀ {is : List Nat} {vs : List Vl} {us : List V} {ρ : Env} {σ : L2.St}, RvL K Z W vs us → vs.length = is.length → EnvR K Z W ρ σ → (∀ σ', EnvR K Z W (setAll is vs ρ) σ' → Q σ' H) → Q ((is.zip us).foldl (fun σ p => σ.set p.1 (some p.2)) σ) H
  | [], [], [], ρ, σ, .nil, _, er, h => h σ er
  | i :: is, v :: vs, u :: us, ρ, σ, .cons r rr, hl, er, h => gNs_refs (is := is) (us := us) (ρ := ρ.set i (some v)) (σ := σ.set i (some u)) rr (by simpa using hl) (er.set r) h
def mPar (is : List Nat) (ml : Ml) : Ms := fun ρ S => (ml ρ S).st ρ fun vs S => .nx (setAll is vs ρ) S
theorem rs_par {i j : Nat} {ml : Ml} (hl : ∀ ρ S vs S', ml ρ S = .ok vs S' → vs.length = 2) (h : rdS K Z E (mPar [i, j] ml) D σ H) : tPar i j (rdA K Z E ml) D σ H := by
  obtain ⟨W, ρ, S, er, st, h⟩ := h
  refine ⟨W, ρ, S, er, st, st_po er h fun a S1 e b H1 W1 l er1 st1 rb q => ?_⟩
  have hn := hl _ _ _ _ e
  have q2 := gNs_refs (is := [i, j]) (Q := D.nx) rb hn er1 fun σ' er' => q W1 σ' H1 (Wd.le.refl _) er' st1
  have h2 := rb.len
  match b, h2.symm.trans hn with
  | [v, w], _ => exact ⟨v, w, rfl, q2⟩
theorem rs_par3 {i j n : Nat} {ml : Ml} (hl : ∀ ρ S vs S', ml ρ S = .ok vs S' → vs.length = 3) (h : rdS K Z E (mPar [i, j, n] ml) D σ H) : tPar3 i j n (rdA K Z E ml) D σ H := by
  obtain ⟨W, ρ, S, er, st, h⟩ := h
  refine ⟨W, ρ, S, er, st, st_po er h fun a S1 e b H1 W1 l er1 st1 rb q => ?_⟩
  have hn := hl _ _ _ _ e
  have q2 := gNs_refs (is := [i, j, n]) (Q := D.nx) rb hn er1 fun σ' er' => q W1 σ' H1 (Wd.le.refl _) er' st1
  have h2 := rb.len
  match b, h2.symm.trans hn with
  | [v, w, x], _ => exact ⟨v, w, x, rfl, q2⟩
def mSetIx (mo mi me : Mv) : Ms := fun ρ S => (me ρ S).st ρ fun v S => (frz v S).st ρ fun x S => (mo ρ S).st ρ fun r S => (mi ρ S).st ρ fun k S => (match r, k with
    | .ref n, .d (.int k) => (match S[n]? with
      | some (.lst ds) => (match L2.ixN ds.length k with
        | some j => .nx ρ (S.set n (.lst (ds.set j x)))
        | none => .bad)
      | _ => .bad)
    | _, _ => .bad)
theorem rs_setIx {mo mi me : Mv} (h : rdS K Z E (mSetIx mo mi me) D σ H) : tAsg (rdE K Z E me) (gSub (rdE K Z E mo) (rdE K Z E mi) rSetL) D σ H := by
  obtain ⟨W, ρ, S, er, st, h⟩ := h
  refine ⟨W, ρ, S, er, st, st_po er h fun a S1 e b H1 W1 l1 er1 st1 rb q => ?_⟩
  obtain ⟨W2, S2, x, l2, am2, st2, rx, q⟩ := frz_pos st1 rb q
  refine ⟨W2, ρ, S2, er1.mono l2, st2, st_po (er1.mono l2) q fun r S3 e3 ro H3 W3 l3 er3 st3 rr q => ⟨W3, ρ, S3, er3, st3, st_po er3 q fun kk S4 e4 ri H4 W4 l4 er4 st4 rk q => ?_⟩⟩
  cases r with
  | d _ => exact False.elim q
  | ref n =>
    cases kk with
    | ref _ => exact False.elim q
    | d y =>
      cases y with
      | int i0 =>
        cases (show Rl K Z W4.F (.int i0) ri from rk)
        obtain ⟨a0, ha, rfl⟩ := rr
        have ha := l4.at ha
        have q : PoS K Z E W4 D (match S4[n]? with
          | some (.lst ds) => (match L2.ixN ds.length i0 with
            | some j => .nx ρ (S4.set n (.lst (ds.set j x)))
            | none => .bad)
          | _ => .bad) := q
        split at q
        · rename_i ds hS
          split at q
          · rename_i j hj
            obtain ⟨vs, k1, k2, k3, k4⟩ := st4.cell n _ a0 hS ha
            refine ⟨a0, vs, i0, j, rfl, rfl, k1, by rw [← k3.len]; exact hj, ?_⟩
            exact q W4 σ _ (Wd.le.refl _) er4 (st4.setLst hS ha (by rw [List.length_set]; exact k2) (k3.set j (Rl.mono (l3.trans l4).1 rx)))
          · exact q.elim
        · exact q.elim
      | _ => exact False.elim q
end
section
variable {T : Tx} {Z : Sx} {cl : Cl} {k : Nat} {X : Cx} {E : WX} {D : Ends} {σ : L2.St} {H : Hp}
/-- raise C(e, ..) -/
def mRaise (P : Pg) (j : Nat) (ml : Ml) : Ms := fun ρ S => (ml ρ S).st ρ fun vs S => (frzL vs S).st ρ fun xs S => (match P.exc[j]? with
    | some k => if k.flds.length = xs.length ∧ xs ≠ [] then .exc ⟨j, k.flds.zip xs⟩ ρ S else .bad
    | none => .bad)
theorem frzL_pos {K : PySem.W.Frag} {W : Wd} {S : Store} {ρ : Env} {vs : List Vl} {us : List V} {k : List Wk.D → Store → SR} (st : Sto K Z W S H) (r : RvL K Z W vs us) (h : PoS K Z E W D ((frzL vs S).st ρ k)) : ∃ W' S' xs, W.le W' ∧ W'.am = W.am ∧ Sto K Z W' S' H ∧ RlL K Z W'.F xs us ∧ PoS K Z E W' D (k xs S') := by
  cases e : frzL vs S with
  | bad =>
    rw [e] at h
    exact h.elim
  | exc x S1 => exact absurd e frzL_noexc
  | ok x S1 =>
    rw [e] at h
    obtain ⟨W', l, s', r', am⟩ := st.frzL r e
    exact ⟨W', S1, x, l, am, s', r', PoS.mono l h⟩
theorem rlF_zip {K : PySem.W.Frag} {F : Hp} : ∀ {fs : List Nat} {xs : List Wk.D} {us : List V}, RlL K Z F xs us → RlF K Z F (fs.zip xs) ((fs.map Z.nm).zip us)
  | [], _, _, _ => by
    rw [List.zip_nil_left, List.map_nil, List.zip_nil_left]
    exact .nil
  | _ :: _, [], [], .nil => by
    rw [List.zip_nil_right, List.zip_nil_right]
    exact .nil
  | f :: fs, x :: xs, u :: us, .cons r rr => by
    rw [List.map_cons, List.zip_cons_cons, List.zip_cons_cons]
    exact .cons r (rlF_zip rr)
theorem rs_raise {K : PySem.W.Frag} {P : Pg} {j : Nat} {kd : XDef} {ml : Ml} (hj : P.exc[j]? = some kd) (h : rdS K Z E (mRaise P j ml) D σ H) : tSup (Z.xa j) (kd.flds.map Z.nm) (rdA K Z E ml) σ H fun cls d H' => E cls d σ H' := by
  obtain ⟨W, ρ, S, er, st, h⟩ := h
  refine ⟨W, ρ, S, er, st, st_po er h fun a S1 e b H1 W1 l1 er1 st1 rb q => ?_⟩
  obtain ⟨W2, S2, xs, l2, am2, st2, rx, q⟩ := frzL_pos st1 rb q
  rw [hj] at q
  dsimp only at q
  split at q
  · rename_i hl
    refine ⟨by rw [List.length_map, hl.1, rx.len], fun d hd => ?_⟩
    have ex := Ex.new (o := HO.xd ((kd.flds.map Z.nm).zip b)) (st2.ex.free hd)
    refine q ⟨upd W2.F d (.xd ((kd.flds.map Z.nm).zip b)), W2.am, W2.pn⟩ _ _ σ _ (Wd.le.know ex) (er1.mono (l2.trans (Wd.le.know ex))) (st2.new hd) ?_
    exact ⟨rfl, d, _, rfl, upd_same, RlF.mono ex (rlF_zip rx)⟩
  · exact q.elim
def mSetF (P : Pg) (f : Nat) (mo me : Mv) : Ms := fun ρ S => (me ρ S).st ρ fun v S => (frz v S).st ρ fun x S => (mo ρ S).st ρ fun r S => (match r with
    | .ref n => (match S[n]? with
      | some (.ins c fs) => if fs.length < 1000 ∧ fldOk P c f = true then .nx ρ (S.set n (.ins c (putF f x fs))) else .bad
      | _ => .bad)
    | _ => .bad)
theorem rs_setF (G : Gd T Z cl k X.prog X.w X.K X.mg X.base X.A) {f : Nat} {mo me : Mv} (h : rdS X.K Z E (mSetF T.P f mo me) D σ H) : sFld X.K (rdE X.K Z E mo) (rdE X.K Z E me) (Z.nm f) D σ H := by
  obtain ⟨W, ρ, S, er, st, h⟩ := h
  refine ⟨W, ρ, S, er, st, st_po er h fun a S1 e b H1 W1 l1 er1 st1 rb q => ?_⟩
  obtain ⟨W2, S2, x, l2, am2, st2, rx, q⟩ := frz_pos st1 rb q
  refine ⟨W2, ρ, S2, er1.mono l2, st2, st_po (er1.mono l2) q fun r S3 e3 ro H3 W3 l3 er3 st3 rr q => ?_⟩
  split at q
  · rename_i n
    obtain ⟨a0, ha, rfl⟩ := rr
    split at q
    · rename_i c fs hS
      split at q
      · rename_i hz
        obtain ⟨dx, gs, k1, k2, k3, k4⟩ := st3.cell n _ a0 hS ha
        obtain ⟨kd, hc, hm⟩ := fldOk_cls hz.2
        have ck := G.cls c kd hc
        refine ⟨a0, Z.ca c, dx, gs, rfl, k1, ck.cls, ck.noat f hm, by rw [← k3.len]; exact hz.1, ?_⟩
        have nd : dx ≠ a0 := fun e => by
          rw [e, k1] at k2
          cases k2
        refine q W3 σ _ (Wd.le.refl _) er3 (st3.mut ha k4 (fun y e => by rw [k1] at e; cases e) (fun y e => by rw [k1] at e; cases e) (fun y e => by rw [k1] at e; cases e) ⟨dx, L2.putF (Z.nm f) b gs, upd_same, by rw [upd_ne nd]; exact k2, RlF.put G.inj (Rl.mono l3.1 rx) k3, k4⟩)
      · exact q.elim
    · exact q.elim
  · exact q.elim
end
section
variable {K : PySem.W.Frag} {Z : Sx} {E : WX} {W W' : Wd} {D : Ends} {σ : L2.St} {H : Hp} {ρ : Env} {S : Store} {P : Pg}
def mIf (P : Pg) (mc : Mv) (ma mb : Ms) : Ms := fun ρ S => (tst P (mc ρ S)).st ρ fun t S => (match t with
    | true => ma ρ S
    | false => mb ρ S)
theorem rs_if {mc : Mv} {ma mb : Ms} (h : rdS K Z E (mIf P mc ma mb) D σ H) : tIfS (rdT K Z E fun ρ S => tst P (mc ρ S)) (rdS K Z E ma) (rdS K Z E mb) D σ H := by
  obtain ⟨W, ρ, S, er, st, h⟩ := h
  refine ⟨W, ρ, S, er, st, st_po er h fun a S1 e b H1 W1 l1 er1 st1 eb q => ?_⟩
  subst eb
  cases a with
  | true => exact ⟨W1, ρ, S1, er1, st1, q⟩
  | false => exact ⟨W1, ρ, S1, er1, st1, q⟩
theorem rs_seq {ma mb : Ms} (h : rdS K Z E (fun ρ S => (ma ρ S).bind fun ρ S => mb ρ S) D σ H) : tSeq (rdS K Z E ma) (rdS K Z E mb) D σ H := by
  obtain ⟨W, ρ, S, er, st, h⟩ := h
  refine ⟨W, ρ, S, er, st, ?_⟩
  revert h
  dsimp only
  cases ma ρ S with
  | nx ρ1 S1 => exact fun h W1 σ1 H1 l1 er1 st1 => ⟨W1, ρ1, S1, er1, st1, PoS.mono l1 h⟩
  | ret v S1 => exact fun h => h
  | brk ρ1 S1 => exact fun h => h
  | cnt ρ1 S1 => exact fun h => h
  | exc x ρ1 S1 => exact fun h => h
  | bad => exact fun h => h
def mFor (mi : Env → Store → Res (List Wk.D)) (p : Pt) (mb : Ms) : Ms := fun ρ S => (mi ρ S).st ρ fun its S => forM (fun x ρ S => (match setPt p x ρ with
    | some ρ => mb ρ S
    | none => .bad)) its ρ S
/-- one turn, then the rest of the loop -/
theorem turn_pos {r : SR} {k : Ms} (h : PoS K Z E W D (match r with
      | .nx ρ S => k ρ S
      | .cnt ρ S => k ρ S
      | .brk ρ S => .nx ρ S
      | r => r)) : PoS K Z E W { D with nx := fun σ H => ∃ W' ρ S, W.le W' ∧ EnvR K Z W' ρ σ ∧ Sto K Z W' S H ∧ PoS K Z E W' D (k ρ S), ct := fun σ H => ∃ W' ρ S, W.le W' ∧ EnvR K Z W' ρ σ ∧ Sto K Z W' S H ∧ PoS K Z E W' D (k ρ S), bk := D.nx } r := by
  cases r with
  | nx ρ S => exact fun W1 s H l er st => ⟨W1, ρ, S, l, er, st, PoS.mono l h⟩
  | cnt ρ S => exact fun W1 s H l er st => ⟨W1, ρ, S, l, er, st, PoS.mono l h⟩
  | brk ρ S => exact h
  | ret v S => exact h
  | exc x ρ S => exact h
  | bad => exact h
theorem PoS.ends {D' : Ends} {r : SR} (h : PoS K Z E W D r) (h1 : ∀ s H, D.nx s H → D'.nx s H) (h2 : ∀ v H, D.rt v H → D'.rt v H) (h3 : ∀ s H, D.bk s H → D'.bk s H) (h4 : ∀ s H, D.ct s H → D'.ct s H) : PoS K Z E W D' r := by
  cases r with
  | nx ρ S => exact fun W1 s H l er st => h1 _ _ (h W1 s H l er st)
  | cnt ρ S => exact fun W1 s H l er st => h4 _ _ (h W1 s H l er st)
  | brk ρ S => exact fun W1 s H l er st => h3 _ _ (h W1 s H l er st)
  | ret v S => exact fun W1 s H l er st => h2 _ _ (h W1 s H l er st)
  | exc x ρ S => exact h
  | bad => exact h
theorem rs_for {mi : Env → Store → Res (List Wk.D)} {p : Pt} {mb : Ms} (h : rdS K Z E (mFor mi p mb) D σ H) : tFor (rdI K Z E mi) (gP K p) (rdS K Z E mb) D σ H := by
  obtain ⟨W, ρ, S, er, st, h⟩ := h
  refine ⟨W, ρ, S, er, st, st_po er h fun its S1 e J H1 W1 l1 er1 st1 wk q => ?_⟩
  let f : Wk.D → Env → Store → SR := fun x ρ S => (match setPt p x ρ with
    | some ρ => mb ρ S
    | none => .bad)
  have q : PoS K Z E W1 D (forM f its ρ S1) := q
  refine ⟨fun i m σ H => m = its.length - i ∧ i ≤ its.length ∧ ∃ W' ρ S, W1.le W' ∧ EnvR K Z W' ρ σ ∧ Sto K Z W' S H ∧ PoS K Z E W' D (forM f (its.drop i) ρ S),
    ⟨its.length, by simp, Nat.zero_le _, W1, ρ, S1, Wd.le.refl _, er1, st1, q⟩, ?_⟩
  rintro i m σ H ⟨rfl, hi, W2, ρ2, S2, l2, er2, st2, q2⟩
  have w := wk W2 S2 H l2.1 st2 i
  by_cases hlt : i < its.length
  · obtain ⟨go, yl⟩ := w.1 hlt
    have hd := drop_at (List.getElem?_eq_getElem hlt)
    refine .inr ⟨go, fun σ' H' => ∃ W' ρ S, W2.le W' ∧ EnvR K Z W' ρ σ' ∧ Sto K Z W' S H' ∧ PoS K Z E W' D (forM f (its.drop (i + 1)) ρ S), fun σ' H' ⟨W', ρ', S', l', er', st', q'⟩ => ⟨its.length - (i + 1), by omega, rfl, hlt, W', ρ', S', l2.trans l', er', st', q'⟩, fun x H' y => ?_⟩
    obtain ⟨W3, d, d1, l3, st3, rd⟩ := yl x H' y
    have ed : its[i] = d := by
      rw [List.getElem?_eq_getElem hlt] at d1
      exact Option.some.inj d1
    rw [hd, ed] at q2
    cases hs : setPt p d ρ2 with
    | none =>
      have : f d ρ2 S2 = .bad := by
        show (match setPt p d ρ2 with
          | some ρ => mb ρ S2
          | none => .bad) = _
        rw [hs]
      unfold forM at q2
      rw [this] at q2
      exact q2.elim
    | some ρ3 =>
      have : f d ρ2 S2 = mb ρ3 S2 := by
        show (match setPt p d ρ2 with
          | some ρ => mb ρ S2
          | none => .bad) = _
        rw [hs]
      unfold forM at q2
      rw [this] at q2
      refine gP_ok (fun _ => True) st3 rd (er2.mono l3) hs trivial (fun _ _ _ _ _ => trivial) fun σ' er' _ => ?_
      refine ⟨W3, ρ3, S2, er', st3, PoS.ends (turn_pos (k := forM f (its.drop (i + 1))) (PoS.mono l3 q2)) (fun s H ⟨W', ρ', S', l', z⟩ => ⟨W', ρ', S', l3.trans l', z⟩) (fun _ _ z => z) (fun _ _ z => z) fun s H ⟨W', ρ', S', l', z⟩ => ⟨W', ρ', S', l3.trans l', z⟩⟩
  · have ei : i = its.length := by omega
    subst ei
    rw [List.drop_length] at q2
    exact .inl ⟨w.2 (Nat.le_refl _), q2 W2 σ H (Wd.le.refl _) er2 st2⟩
def mWhl (P : Pg) (mc : Mv) (mb : Ms) : Ms := fun ρ S => whM (fun ρ S => (tst P (mc ρ S)).st ρ fun t S => (match t with
    | true => mb ρ S
    | false => .brk ρ S)) 100000 ρ S
theorem rs_whl {mc : Mv} {mb : Ms} (h : rdS K Z E (mWhl P mc mb) D σ H) : tWhile (rdT K Z E fun ρ S => tst P (mc ρ S)) (rdS K Z E mb) D σ H := by
  obtain ⟨W0, ρ0, S0, er0, st0, h⟩ := h
  let f : Ms := fun ρ S => (tst P (mc ρ S)).st ρ fun t S => (match t with
    | true => mb ρ S
    | false => .brk ρ S)
  refine ⟨fun m σ H => ∃ W ρ S, EnvR K Z W ρ σ ∧ Sto K Z W S H ∧ PoS K Z E W D (whM f m ρ S), ⟨100000, W0, ρ0, S0, er0, st0, h⟩, ?_⟩
  rintro m σ H ⟨W, ρ, S, er, st, q⟩
  cases m with
  | zero => exact q.elim
  | succ n =>
    unfold whM at q
    refine ⟨W, ρ, S, er, st, ?_⟩
    have hf : f ρ S = (tst P (mc ρ S)).st ρ fun t S => (match t with
      | true => mb ρ S
      | false => .brk ρ S) := rfl
    rw [hf] at q
    show Po K Z E (fun _ a b => a = b) W σ _ (tst P (mc ρ S))
    cases e : tst P (mc ρ S) with
    | bad =>
      rw [e] at q
      exact q
    | exc x S1 =>
      rw [e] at q
      exact fun W1 c d H1 l st xr => q W1 c d σ H1 l (er.mono l) st xr
    | ok t S1 =>
      rw [e] at q
      intro W1 b H1 l1 st1 eb
      subst eb
      cases t with
      | true =>
        rw [if_pos rfl]
        have q : PoS K Z E W D (match mb ρ S1 with
          | .nx ρ S => whM f n ρ S
          | .cnt ρ S => whM f n ρ S
          | .brk ρ S => .nx ρ S
          | r => r) := q
        refine ⟨fun σ' H' => ∃ W' ρ S, EnvR K Z W' ρ σ' ∧ Sto K Z W' S H' ∧ PoS K Z E W' D (whM f n ρ S), fun σ' H' z => ⟨n, Nat.lt_succ_self _, z⟩, W1, ρ, S1, er.mono l1, st1, ?_⟩
        exact PoS.ends (turn_pos (k := whM f n) (PoS.mono l1 q)) (fun s H ⟨W', ρ', S', _, z⟩ => ⟨W', ρ', S', z⟩) (fun _ _ z => z) (fun _ _ z => z) fun s H ⟨W', ρ', S', _, z⟩ => ⟨W', ρ', S', z⟩
      | false =>
        rw [if_neg Bool.false_ne_true]
        have q : PoS K Z E W D (.nx ρ S1) := q
        exact q W1 σ H1 l1 (er.mono l1) st1
end
end Wk

set_option Elab.async false
set_option linter.all false
set_option maxRecDepth 100000
set_option maxHeartbeats 4000000
/-! WkX: statements. -/
namespace Wk
open PySem PySem.Spec L2
open PyProof.Rows hiding St

def noComp : Expr → Bool
  | .ListComp _ _ _ _ => false
  | .SetComp _ _ _ _ => false
  | .DictComp _ _ _ _ _ => false
  | _ => true
/-- the names that may be stored from the right -/
def namesOf (c : Sc) (ts : List Expr) : List Str := ts.filterMap fun
  | .Name id pos => if c.sc.names.lookup id == some .local && pos.line == (ts.head?.map (·.pos.line)).getD 0 then some id else none
  | _ => none
/-- does the store go into the comprehension? -/
def swp (c : Sc) (tg ex : Expr) : Option Bool := if noComp ex then (match tg with
    | .Name _ _ => some false
    | .Tuple ts _ _ => (match ex with
      | .Tuple vs _ _ => if ts.length == 2 || ts.length == 3 then (if vs.all (foldedForSure 8) then some false else if (namesOf c ts).length != ts.length then some false else none) else some false
      | _ => some false)
    | _ => none)
  else (match ex, tg with
    | .ListComp _ _ scope p, .Name y py => if (match c.sc.names.lookup y with
      | some .local => true
      | _ => false) && (py.line == p.line) && !(scope.names.any fun (n, k) => n == y && (k == .local || k == .cell)) then some true else none
    | _, _ => none)
/-- a, b = x, y: stored from the right -/
def parOk (c : Sc) (xs : List (Str × Pos)) (vs : List Expr) (line : Nat) : Bool :=
  (xs.all fun p => (match c.sc.names.lookup p.1 with
    | some .local => true
    | _ => false) && (p.2.line == line)) && (vs.all fun e => !starE e) && !(vs.all (foldedForSure 8)) && !(vs.all (constantsAlone 8))
def okPar (T : Tx) (c : Sc) (is : List Nat) (es : List CE) (tg ex : Expr) : Bool := match is, tg, ex with
  | [i, j], .Tuple [.Name x px, .Name y py] _ _, .Tuple [a, b] _ _ => decide (c.N[i]? = some x) && decide (c.N[j]? = some y) && decide (i ≠ j) && parOk c [(x, px), (y, py)] [a, b] px.line && !(x == y) && okL T c es [a, b]
  | _, _, _ => false
mutual
def okSt (T : Tx) (c : Sc) : CS → Stmt → Bool
  | .expr e, .Expr ex _ => noComp ex && okE T c e ex
  | .asg p e, .Assign [tg] ex _ => okPt c p tg && okE T c e ex && (swp c tg ex).isSome
  | .par is es, .Assign [tg] ex _ => okPar T c is es tg ex
  | .setIx o i e, .Assign [.Subscript x y _] ex _ => noSl y && noComp ex && okE T c o x && okE T c i y && okE T c e ex
  | .setF o f e, .Assign [.Attribute x name _] ex _ => decide (T.nms[f]? = some name) && okE T c o x && okE T c e ex
  | .iff e a b, .If x xs ys _ => okE T c e x && okSs T c a xs && okSs T c b ys
  | .for_ k as p body, .For tg iter xs [] _ => noSet iter && okPt c p tg && (match itArgs T c k tg iter with
    | some es => okL T c as es
    | none => false) && okSs T c body xs
  | .whl e body, .While x xs [] _ => okE T c e x && okSs T c body xs
  | .ret e, .Return (some x) _ => okE T c e x
  | .retN, .Return none _ => true
  | .brk, .Break _ => true
  | .cnt, .Continue _ => true
  | .pass, .Pass _ => true
  | .raise j as, .Raise (some (.Call (.Name x _) (e :: es) [] _)) none _ => okGl c x && isExcN T x j && decide (("super" : Str) ∈ T.bl) && (match T.P.exc[j]? with
    | some k => !k.flds.isEmpty
    | none => false) && okL T c as (e :: es)
  | .never, _ => true
  | _, _ => false
def okSs (T : Tx) (c : Sc) : List CS → List Stmt → Bool
  | [], [] => true
  | s :: ss, x :: xs => okSt T c s x && okSs T c ss xs
  | _, _ => false
end
theorem noComp_sw {e : Expr} (h : noComp e = true) (t : Option Expr) (l : Nat) (env : PySem.Env) : swapsWith e t l env = pure false := by
  cases e <;> first | rfl | cases h
theorem attr_sw (e o : Expr) (f : Str) (p : Pos) (l : Nat) (env : PySem.Env) : swapsWith e (some (.Attribute o f p)) l env = pure false := by
  cases e <;> rfl
theorem sub_sw (e o i : Expr) (p : Pos) (l : Nat) (env : PySem.Env) : swapsWith e (some (.Subscript o i p)) l env = pure false := by
  cases e <;> rfl
/-- where it runs -/
structure Cst (T : Tx) (Z : Sx) (cl : Cl) (k : Nat) (c : Sc) (X : Cx) (E : WX) : Prop where
  ctx : Ctx T Z cl k c X E
  po : PassesOwn (model X.prog X.w) X.A X.env X.xe
  kind : c.sc.kind = .function
section
variable {T : Tx} {Z : Sx} {cl : Cl} {k : Nat} {th : Th} {c : Sc} {X : Cx} {E : WX}
theorem Cst.block (C : Cst T Z cl k c X E) : X.env.blockKind = .function := by
  unfold Env.blockKind
  rw [C.ctx.sc, C.kind]
  rfl
theorem swp_false (C : Cst T Z cl k c X E) {tg ex : Expr} {l : Nat} (h : swp c tg ex = some false) : swapsWithSole [tg] ex l X.env = pure false ∧ swappedStores [tg] ex X.env = pure none ∧ (assignEach [tg] X.env).map (·.2) = [assign tg X.env] := by
  unfold swp at h
  split at h
  · rename_i hc
    refine ⟨noComp_sw hc _ _ _, ?_, ?_⟩
    · split at h
      · cases ex <;> rfl
      · rename_i ts k2 p2
        split at h
        · rename_i vs k1 p1
          unfold swappedStores
          split at h
          · split at h
            · rename_i h1 h2
              simp only [h2, if_true, ite_self]
            · split at h
              · rename_i h1 h2 h3
                have hk : Env.kindOf X.env = fun id => c.sc.names.lookup id := by
                  rw [← C.ctx.sc]
                  rfl
                rw [hk]
                refine ite_eq_left_iff.mpr fun _ => ite_eq_left_iff.mpr fun _ => ?_
                exact if_pos (by
                  rw [Bool.or_eq_true]
                  exact .inl h3)
              · cases h
          · rename_i h1
            have h1 : (ts.length == 2 || ts.length == 3) = false := by simpa using h1
            simp only [h1, Bool.not_false, Bool.true_or, if_true]
        · rename_i h1
          cases ex <;> first | rfl | exact absurd rfl (h1 _ _ _)
      · cases h
    · split at h
      · rfl
      · rfl
      · cases h
  · split at h
    · dsimp only at h
      split at h <;> exact absurd h (by simp)
    · cases h
theorem swp_true {tg ex : Expr} (h : swp c tg ex = some true) : ∃ el gs scope p y py, ex = .ListComp el gs scope p ∧ tg = .Name y py ∧ c.sc.names.lookup y = some .local ∧ (py.line == p.line) = true ∧ (scope.names.any fun (n, k) => n == y && (k == .local || k == .cell)) = false := by
  unfold swp at h
  split at h
  · split at h
    · cases h
    · split at h
      · split at h
        · split at h
          · cases h
          · split at h <;> cases h
        · cases h
      · cases h
    · cases h
  · split at h
    · split at h
      · rename_i hloc
        split at h
        · rename_i hh
          rw [Bool.true_and, Bool.and_eq_true, Bool.not_eq_true'] at hh
          exact ⟨_, _, _, _, _, _, rfl, rfl, hloc, hh.1, hh.2⟩
        · cases h
      · exact absurd h (by simp)
    · cases h
/-- name = [..]: the store goes into it -/
theorem comp_ruleS (C : Cst T Z cl k c X E) {own : List Nat} {p : Pt} {tg iter el : Expr} {ifs : List Expr} {scope : Scope} {pos spos py : Pos} {i : Nat} {y : Str} {mi : Env → Store → Res (List D)} {tc : Mt} {te : Mv} (hy : okNm c i y = true) (hyl : c.sc.names.lookup y = some .local) (hl : (py.line == pos.line) = true) (ha : (scope.names.any fun (n, k) => n == y && (k == .local || k == .cell)) = false)
    (hb : blkC c.N c.sc scope (ownL c.N own) = true) (hp : ptIn p own = true) (hs : noSet iter = true) (ht : okPt (blkSc c scope) p tg = true)
    (hi : PI X tg iter (rdI X.K Z E mi)) (hf : ∀ X' E', Ctx T Z cl k (blkSc c scope) X' E' → PTs X' ifs (rdT X'.K Z E' tc)) (he : ∀ X' E', Ctx T Z cl k (blkSc c scope) X' E' → PE X' el (rdE X'.K Z E' te)) :
    PS X (.Assign [.Name y py] (.ListComp el [⟨tg, iter, ifs, 0⟩] scope pos) spos) (tAsg (rdN X.K Z E fun ρ S => (mi ρ S).bind fun its S => loopD (fun x acc S => compT (setPt p x (Wk.wipe ρ own)) tc te acc S) its [] S) (gName i)) := by
  have C' := C.ctx
  have ok : BlkOk X.N X.env.scope scope (ownL c.N own) := by
    rw [C'.N, C'.sc]
    exact blkOk_by hb
  obtain ⟨n1, n2, n3⟩ := C'.nm hy
  have hyl : X.env.scope.names.lookup y = some .local := by rw [C'.sc]; exact hyl
  refine PS.imp (ps_setLc (own := ownL c.N own) (g := gP X.K p) (tt := rdT X.K Z (fun _ _ _ _ => False) tc) (te := rdE X.K Z (fun _ _ _ _ => False) te) C'.calm C'.nd n1 hyl (sw_true (by rw [C'.sc]; exact C.kind) hyl hl ha) hi ok (fun s H a cs fp => (C'.blk (scope := scope) s H a cs fp).pg ht) (fun s H a cs fp => hf _ _ (C'.blk s H a cs fp)) (fun s H a cs fp => he _ _ (C'.blk s H a cs fp)) (noSet_folded hs X.env)) fun D σ H h => ?_
  rw [ownL_snd]
  exact lc_ok hp h
theorem comp2_ruleS (C : Cst T Z cl k c X E) {own own1 : List Nat} {p p1 : Pt} {tg iter tg1 iter1 el : Expr} {ifs ifs1 : List Expr} {scope : Scope} {pos spos py : Pos} {i : Nat} {y : Str} {mi mi1 : Env → Store → Res (List D)} {tc tc1 : Mt} {te : Mv} (hy : okNm c i y = true) (hyl : c.sc.names.lookup y = some .local) (hl : (py.line == pos.line) = true) (ha : (scope.names.any fun (n, k) => n == y && (k == .local || k == .cell)) = false)
    (hb : blkC c.N c.sc scope (ownL c.N own) = true) (hp : ptIn p own = true) (hp1 : ptIn p1 own1 = true) (ho : own1.all (fun i => own.contains i) = true) (hs : noSet iter = true) (hs1 : noSet iter1 = true) (ht : okPt (blkSc c scope) p tg = true) (ht1 : okPt (blkSc c scope) p1 tg1 = true)
    (hi : PI X tg iter (rdI X.K Z E mi)) (hi1 : ∀ X' E', Ctx T Z cl k (blkSc c scope) X' E' → PI X' tg1 iter1 (rdI X'.K Z E' mi1)) (hf : ∀ X' E', Ctx T Z cl k (blkSc c scope) X' E' → PTs X' ifs (rdT X'.K Z E' tc)) (hf1 : ∀ X' E', Ctx T Z cl k (blkSc c scope) X' E' → PTs X' ifs1 (rdT X'.K Z E' tc1)) (he : ∀ X' E', Ctx T Z cl k (blkSc c scope) X' E' → PE X' el (rdE X'.K Z E' te)) :
    PS X (.Assign [.Name y py] (.ListComp el [⟨tg, iter, ifs, 0⟩, ⟨tg1, iter1, ifs1, 0⟩] scope pos) spos) (tAsg (rdN X.K Z E fun ρ S => (mi ρ S).bind fun its S => loopD (fun x acc S => compT2 (setPt p x (Wk.wipe ρ own)) tc (fun ρ1 S => (mi1 ρ1 S).nox) (fun ρ1 x1 acc S => compT (setPt p1 x1 (Wk.wipe ρ1 own1)) tc1 te acc S) acc S) its [] S) (gName i)) := by
  have C' := C.ctx
  have ok : BlkOk X.N X.env.scope scope (ownL c.N own) := by
    rw [C'.N, C'.sc]
    exact blkOk_by hb
  obtain ⟨n1, n2, n3⟩ := C'.nm hy
  have hyl : X.env.scope.names.lookup y = some .local := by rw [C'.sc]; exact hyl
  refine PS.imp (ps_setLc2 (own := ownL c.N own) (vs1 := own1) (g := gP X.K p) (g1 := gP X.K p1) (wi1 := rdI X.K Z (fun _ _ _ _ => False) mi1) (tt := rdT X.K Z (fun _ _ _ _ => False) tc) (tt1 := rdT X.K Z (fun _ _ _ _ => False) tc1) (te := rdE X.K Z (fun _ _ _ _ => False) te) C'.calm C'.nd n1 hyl (sw_true (by rw [C'.sc]; exact C.kind) hyl hl ha) hi ok (own_in ho) (fun s H a cs fp => (C'.blk (scope := scope) s H a cs fp).pg ht) (fun s H a cs fp => hf _ _ (C'.blk s H a cs fp)) (fun s H a cs fp => hi1 _ _ (C'.blk s H a cs fp)) (fun s H a cs fp => (C'.blk (scope := scope) s H a cs fp).pg ht1) (fun s H a cs fp => hf1 _ _ (C'.blk s H a cs fp)) (fun s H a cs fp => he _ _ (C'.blk s H a cs fp)) (noSet_folded hs X.env) (noSet_folded hs1)) fun D σ H h => ?_
  rw [ownL_snd]
  exact lc2_ok hp hp1 h
theorem par_sw (C : Cst T Z cl k c X E) {x y : Str} {px py pt pt2 : Pos} {k1 k2 : Nat} {a b : Expr} (h : parOk c [(x, px), (y, py)] [a, b] px.line = true) (hxy : (x == y) = false) : swappedStores [.Tuple [.Name x px, .Name y py] k1 pt] (.Tuple [a, b] k2 pt2) X.env = pure (some [x, y]) ∧ X.env.scope.names.lookup x = some .local ∧ X.env.scope.names.lookup y = some .local ∧ starE a = false ∧ starE b = false := by
  have hk := C.block
  unfold parOk at h
  simp only [Bool.and_eq_true, List.all_cons, List.all_nil, Bool.and_true, Bool.not_eq_true'] at h
  obtain ⟨⟨⟨⟨⟨h1, h2⟩, h3, h4⟩, h5, h6⟩, h7⟩, h8⟩ := h
  have hx : X.env.scope.names.lookup x = some .local := by
    rw [C.ctx.sc]
    split at h1
    · assumption
    · cases h1
  have hy : X.env.scope.names.lookup y = some .local := by
    rw [C.ctx.sc]
    split at h3
    · assumption
    · cases h3
  refine ⟨?_, hx, hy, h5, h6⟩
  have kx : X.env.kindOf x = some .local := hx
  have ky : X.env.kindOf y = some .local := hy
  have ed : [x, y].eraseDups.length = 2 := by
    have : (y == x) = false := by
      rw [beq_eq_false_iff_ne] at hxy ⊢
      exact Ne.symm hxy
    simp [List.eraseDups, List.eraseDupsBy, List.eraseDupsBy.loop, this]
  have bx : (X.env.kindOf x == some NameKind.local && px.line == px.line) = true := by rw [kx]; simp
  have bY : (X.env.kindOf y == some NameKind.local && py.line == px.line) = true := by rw [ky, h4]; rfl
  have hn : ([Expr.Name x px, .Name y py].filterMap fun
    | .Name id pos => if X.env.kindOf id == some .local && pos.line == px.line then some id else none
    | _ => none) = [x, y] := by
    simp only [List.filterMap_cons, List.filterMap_nil, bx, bY, if_true]
  unfold swappedStores
  refine (if_neg ?_).trans ((if_neg ?_).trans ?_)
  · rw [hk]
    exact Bool.false_ne_true
  · intro q
    have q : (starE a || (starE b || false)) = true := q
    rw [h5, h6] at q
    cases q
  · have go : ∀ N : List Str, N = [x, y] → (if (N.length != 2 || N.eraseDups.length != N.length) = true then pure none else if [a, b].all (foldedForSure 8) = true then pure none else if [a, b].all (constantsAlone 8) = true then (do
        let _ ← (unsupported "assign.tuple-of-constant-expressions:order-of-the-stores" : Sem Unit)
        pure (some N)) else pure (some N) : Sem (Option (List Str))) = pure (some [x, y]) := fun N hN => by
      subst hN
      rw [ed]
      refine (if_neg Bool.false_ne_true).trans ((if_neg ?_).trans (if_neg ?_))
      · simp only [List.all_cons, List.all_nil, Bool.and_true]
        rw [h7]
        exact Bool.false_ne_true
      · simp only [List.all_cons, List.all_nil, Bool.and_true]
        rw [h8]
        exact Bool.false_ne_true
    exact go _ hn
end
end Wk

set_option Elab.async false
set_option linter.all false
set_option maxRecDepth 100000
set_option maxHeartbeats 8000000
/-! WkY: all statements. -/
namespace Wk
open PySem PySem.Spec L2
open PyProof.Rows hiding St

theorem isExc_is {T : Tx} {x : Str} {j : Nat} (h : isExcN T x j = true) : T.gl.lookup x = some (.exc j) := by
  unfold isExcN at h
  split at h
  · rename_i i e
    have : i = j := by simpa using h
    rw [e, this]
  · cases h
section
variable {T : Tx} {Z : Sx} {cl : Cl} {k : Nat} {th : Th}
theorem rs_nx {K : PySem.W.Frag} {E : WX} {D : Ends} {σ : L2.St} {H : Hp} (h : rdS K Z E (fun ρ S => .nx ρ S) D σ H) : tNext D σ H := by
  obtain ⟨W, ρ, S, er, st, h⟩ := h
  exact h W σ H (Wd.le.refl _) er st
theorem rs_brk {K : PySem.W.Frag} {E : WX} {D : Ends} {σ : L2.St} {H : Hp} (h : rdS K Z E (fun ρ S => .brk ρ S) D σ H) : tBreak D σ H := by
  obtain ⟨W, ρ, S, er, st, h⟩ := h
  exact h W σ H (Wd.le.refl _) er st
theorem rs_cnt {K : PySem.W.Frag} {E : WX} {D : Ends} {σ : L2.St} {H : Hp} (h : rdS K Z E (fun ρ S => .cnt ρ S) D σ H) : tCont D σ H := by
  obtain ⟨W, ρ, S, er, st, h⟩ := h
  exact h W σ H (Wd.le.refl _) er st
theorem rs_retN {K : PySem.W.Frag} {E : WX} {D : Ends} {σ : L2.St} {H : Hp} (h : rdS K Z E (fun _ S => .ret (.d .non) S) D σ H) : tRetN D σ H := by
  obtain ⟨W, ρ, S, er, st, h⟩ := h
  exact h W .non H (Wd.le.refl _) st .non
/-- a comprehension's check, unfolded -/
theorem okComp {c : Sc} {own : List Nat} {kk : ItK} {as : List CE} {p : Pt} {cond : Option CE} {elt : CE} {el : Expr} {gs : List Comprehension} {scope : Scope} {pos : Pos} (h : okE T c (.comp own kk as p cond elt) (.ListComp el gs scope pos) = true) :
    ∃ tg iter ifs es, gs = [⟨tg, iter, ifs, 0⟩] ∧ blkC c.N c.sc scope (ownL c.N own) = true ∧ ptIn p own = true ∧ noSet iter = true ∧ okPt (blkSc c scope) p tg = true ∧ itArgs T c kk tg iter = some es ∧ okL T c as es = true ∧ okF T (blkSc c scope) cond ifs = true ∧ okE T (blkSc c scope) elt el = true := by
  cases gs with
  | nil => exact (Bool.false_ne_true h).elim
  | cons g gs =>
    cases gs with
    | cons g2 gs =>
      obtain ⟨_, _, _, _⟩ := g
      exact (Bool.false_ne_true h).elim
    | nil =>
      obtain ⟨tg, iter, ifs, ia⟩ := g
      have h : (decide (ia = 0) && blkC c.N c.sc scope (ownL c.N own) && ptIn p own && noSet iter && okPt (blkSc c scope) p tg && (match itArgs T c kk tg iter with
        | some es => okL T c as es
        | none => false) && okF T (blkSc c scope) cond ifs && okE T (blkSc c scope) elt el) = true := h
      simp only [Bool.and_eq_true, decide_eq_true_eq] at h
      obtain ⟨⟨⟨⟨⟨⟨⟨rfl, h1⟩, h2⟩, h3⟩, h4⟩, h5⟩, h6⟩, h7⟩ := h
      split at h5
      · rename_i es ei
        exact ⟨tg, iter, ifs, es, rfl, h1, h2, h3, h4, ei, h5, h6, h7⟩
      · cases h5
theorem comp_stmt {c : Sc} {X : Cx} {E : WX} (C : Cst T Z cl k c X E) {i : Nat} {y : Str} {py pos spos : Pos} {own : List Nat} {kk : ItK} {as : List CE} {p : Pt} {cond : Option CE} {elt : CE} {el : Expr} {gs : List Comprehension} {scope : Scope} (hy : okNm c i y = true) (hyl : c.sc.names.lookup y = some .local) (hl : (py.line == pos.line) = true) (ha : (scope.names.any fun (n, k) => n == y && (k == .local || k == .cell)) = false)
    (h : okE T c (.comp own kk as p cond elt) (.ListComp el gs scope pos) = true) : PS X (.Assign [.Name y py] (.ListComp el gs scope pos) spos) (tAsg (rdN X.K Z E (mComp T.P cl th own kk as p cond elt)) (gName i)) := by
  obtain ⟨tg, iter, ifs, es, rfl, h1, h2, h3, h4, ei, h5, h6, h7⟩ := okComp h
  exact comp_ruleS C hy hyl hl ha h1 h2 h3 h4 (it_rule C.ctx ei (sndL (th := th) as c es h5 X E C.ctx)) (fun X' E' C' => sndF cond _ ifs h6 X' E' C') (fun X' E' C' => (snd elt _ el h7 X' E' C').1)
theorem comp2_stmt {c : Sc} {X : Cx} {E : WX} (C : Cst T Z cl k c X E) {i : Nat} {y : Str} {py pos spos : Pos} {own own1 : List Nat} {kk kk1 : ItK} {as as1 : List CE} {p p1 : Pt} {cond cond1 : Option CE} {elt : CE} {el : Expr} {gs : List Comprehension} {scope : Scope} (hy : okNm c i y = true) (hyl : c.sc.names.lookup y = some .local) (hl : (py.line == pos.line) = true) (ha : (scope.names.any fun (n, k) => n == y && (k == .local || k == .cell)) = false)
    (h : okE T c (.comp2 own own1 kk as p cond kk1 as1 p1 cond1 elt) (.ListComp el gs scope pos) = true) : PS X (.Assign [.Name y py] (.ListComp el gs scope pos) spos) (tAsg (rdN X.K Z E (mComp2 T.P cl th own own1 kk as p cond kk1 as1 p1 cond1 elt)) (gName i)) := by
  obtain ⟨tg, iter, ifs, es, tg1, iter1, ifs1, es1, rfl, h1, h2, h3, h4, h5, h6, h7, h8, ei, h9, ei1, h10, h11, h12, h13⟩ := okComp2 h
  exact comp2_ruleS C hy hyl hl ha h1 h2 h3 h4 h5 h6 h7 h8 (it_rule C.ctx ei (sndL (th := th) as c es h9 X E C.ctx)) (fun X' E' C' => it_rule C' ei1 (sndL (th := th) as1 _ es1 h10 X' E' C')) (fun X' E' C' => sndF cond _ ifs h11 X' E' C') (fun X' E' C' => sndF cond1 _ ifs1 h12 X' E' C') (fun X' E' C' => (snd elt _ el h13 X' E' C').1)
theorem asg_stmt {c : Sc} {X : Cx} {E : WX} (C : Cst T Z cl k c X E) {p : Pt} {e : CE} {tg ex : Expr} {pos : Pos} (h1 : okPt c p tg = true) (h2 : okE T c e ex = true) (h3 : (swp c tg ex).isSome = true) : PS X (.Assign [tg] ex pos) (rdS X.K Z E (mAsg p (evE T.P cl th e))) := by
  cases hs : swp c tg ex with
  | none =>
    rw [hs] at h3
    cases h3
  | some b =>
    cases b with
    | false =>
      obtain ⟨q1, q2, q3⟩ := swp_false C (l := pos.line) hs
      exact PS.imp (ps_asg (snd e c ex h2 X E C.ctx).1 (C.ctx.pg h1) q1 q2 q3) fun D σ H q => rs_asg q
    | true =>
      obtain ⟨el, gs, scope, lp, y, py, rfl, rfl, q1, q2, q3⟩ := swp_true hs
      cases p with
      | tup is => exact (Bool.false_ne_true h1).elim
      | nm i =>
        have hy : okNm c i y = true := h1
        cases e with
        | comp own kk as p cond elt =>
          refine PS.imp (comp_stmt (th := th) C hy q1 q2 q3 h2) fun D σ H q => ?_
          have q := rs_asg q
          have ee : evE T.P cl th (.comp own kk as p cond elt) = fun ρ S => (mComp T.P cl th own kk as p cond elt ρ S).bind fun ds S => .ok (.d (.lst ds)) S := funext fun ρ => funext fun S => comp_eq ρ S
          rw [ee] at q
          exact rdN_data q
        | comp2 own own1 kk as p cond kk1 as1 p1 cond1 elt =>
          refine PS.imp (comp2_stmt (th := th) C hy q1 q2 q3 h2) fun D σ H q => ?_
          have q := rs_asg q
          have ee : evE T.P cl th (.comp2 own own1 kk as p cond kk1 as1 p1 cond1 elt) = fun ρ S => (mComp2 T.P cl th own own1 kk as p cond kk1 as1 p1 cond1 elt ρ S).bind fun ds S => .ok (.d (.lst ds)) S := funext fun ρ => funext fun S => comp2_eq ρ S
          rw [ee] at q
          exact rdN_data q
        | live e =>
          have h2 : (isNew e && okE T c e (.ListComp el gs scope lp)) = true := h2
          rw [Bool.and_eq_true] at h2
          cases e with
          | comp own kk as p cond elt =>
            refine PS.imp (comp_stmt (th := th) C hy q1 q2 q3 h2.2) fun D σ H q => ?_
            have q := rs_asg q
            have ee : evE T.P cl th (.live (.comp own kk as p cond elt)) = fun ρ S => (mComp T.P cl th own kk as p cond elt ρ S).bind fun ds S => .ok (.ref S.length) (S ++ [.lst ds]) := funext fun ρ => funext fun S => live_eq comp_eq ρ S
            rw [ee] at q
            exact rdN_live q
          | comp2 own own1 kk as p cond kk1 as1 p1 cond1 elt =>
            refine PS.imp (comp2_stmt (th := th) C hy q1 q2 q3 h2.2) fun D σ H q => ?_
            have q := rs_asg q
            have ee : evE T.P cl th (.live (.comp2 own own1 kk as p cond kk1 as1 p1 cond1 elt)) = fun ρ S => (mComp2 T.P cl th own own1 kk as p cond kk1 as1 p1 cond1 elt ρ S).bind fun ds S => .ok (.ref S.length) (S ++ [.lst ds]) := funext fun ρ => funext fun S => live_eq comp2_eq ρ S
            rw [ee] at q
            exact rdN_live q
          | lst _ => exact (Bool.false_ne_true h2.2).elim
          | _ => exact (Bool.false_ne_true h2.1).elim
        | cst d => cases d <;> exact (Bool.false_ne_true h2).elim
        | _ => exact (Bool.false_ne_true h2).elim
mutual
theorem sndSt : ∀ (s : CS) (c : Sc) (x : Stmt), okSt T c s x = true → ∀ (X : Cx) (E : WX), Cst T Z cl k c X E → PS X x (rdS X.K Z E (exS T.P cl th s))
  | .expr e, c, x, h, X, E, C => by
    cases x with
    | Expr ex p =>
      have h : (noComp ex && okE T c e ex) = true := h
      rw [Bool.and_eq_true] at h
      exact PS.imp (ps_expr (snd e c ex h.2 X E C.ctx).1 (noComp_sw h.1 _ _ _)) fun D σ H q => rs_drop q
    | _ => exact (Bool.false_ne_true h).elim
  | .asg p e, c, x, h, X, E, C => by
    cases x with
    | Assign ts ex pos =>
      match ts, h with
      | [tg], h =>
        have h : (okPt c p tg && okE T c e ex && (swp c tg ex).isSome) = true := h
        simp only [Bool.and_eq_true] at h
        exact asg_stmt C h.1.1 h.1.2 h.2
      | [], h => exact (Bool.false_ne_true h).elim
      | _ :: _ :: _, h => exact (Bool.false_ne_true h).elim
    | _ => exact (Bool.false_ne_true h).elim
  | .never, c, x, h, X, E, C => ⟨fun pins s σ H D I q => by
      obtain ⟨W, ρ, S, er, st, q⟩ := q
      exact False.elim q⟩
  | .pass, c, x, h, X, E, C => by
    cases x with
    | Pass p => exact PS.imp ps_pass fun D σ H q => rs_nx q
    | _ => exact (Bool.false_ne_true h).elim
  | .brk, c, x, h, X, E, C => by
    cases x with
    | Break p => exact PS.imp ps_break fun D σ H q => rs_brk q
    | _ => exact (Bool.false_ne_true h).elim
  | .cnt, c, x, h, X, E, C => by
    cases x with
    | Continue p => exact PS.imp ps_continue fun D σ H q => rs_cnt q
    | _ => exact (Bool.false_ne_true h).elim
  | .retN, c, x, h, X, E, C => by
    cases x with
    | Return v p =>
      cases v with
      | none => exact PS.imp ps_retN fun D σ H q => rs_retN q
      | some _ => exact (Bool.false_ne_true h).elim
    | _ => exact (Bool.false_ne_true h).elim
  | .ret e, c, x, h, X, E, C => by
    cases x with
    | Return v p =>
      cases v with
      | none => exact (Bool.false_ne_true h).elim
      | some ex => exact PS.imp (ps_ret (snd e c ex h X E C.ctx).1) fun D σ H q => rs_ret q
    | _ => exact (Bool.false_ne_true h).elim
  | .par is es, c, x, h, X, E, C => by
    cases x with
    | Assign ts ex pos =>
      match ts, h with
      | [tg], h =>
        have h : okPar T c is es tg ex = true := h
        unfold okPar at h
        split at h
        · rename_i i j x px y py a b k1 p1 k2 p2
          simp only [Bool.and_eq_true, decide_eq_true_eq, Bool.not_eq_true'] at h
          obtain ⟨⟨⟨⟨⟨h1, h2⟩, h3⟩, h4⟩, h5⟩, h6⟩ := h
          obtain ⟨w1, w2, w3, w4, w5⟩ := par_sw C h4 h5
          have A := sndL (th := th) es c [a, b] h6 X E C.ctx
          refine PS.imp (ps_par C.ctx.calm C.ctx.nd (by rw [C.ctx.N]; exact h1) (by rw [C.ctx.N]; exact h2) h3 w2 w3 A.pa w1) fun D σ H q => rs_par (fun ρ S vs S' e => ?_) q
          rw [evL_len e]
          cases A with
          | cons _ _ r => cases r with
            | cons _ _ r => cases r; rfl
        · cases h
      | [], h => exact (Bool.false_ne_true h).elim
      | _ :: _ :: _, h => exact (Bool.false_ne_true h).elim
    | _ => exact (Bool.false_ne_true h).elim
  | .aug _ _ _, c, x, h, X, E, C => (Bool.false_ne_true h).elim
  | .raise j as, c, x, h, X, E, C => by
    cases x with
    | Raise ex ca pos =>
      cases ex with
      | none => exact (Bool.false_ne_true h).elim
      | some v =>
        cases v with
        | Call fn xs ks p =>
          cases fn with
          | Name x px =>
            cases xs with
            | nil => exact (Bool.false_ne_true h).elim
            | cons e es =>
              cases ks with
              | cons _ _ => exact (Bool.false_ne_true h).elim
              | nil =>
                cases ca with
                | some _ => exact (Bool.false_ne_true h).elim
                | none =>
                  have h : (okGl c x && isExcN T x j && decide (("super" : Str) ∈ T.bl) && (match T.P.exc[j]? with
                    | some k => !k.flds.isEmpty
                    | none => false) && okL T c as (e :: es)) = true := h
                  simp only [Bool.and_eq_true, decide_eq_true_eq] at h
                  obtain ⟨⟨⟨⟨h1, h2⟩, h3⟩, h4⟩, h5⟩ := h
                  split at h4
                  · rename_i kd hk
                    have hne : kd.flds ≠ [] := fun z => by
                      rw [z] at h4
                      cases h4
                    obtain ⟨g1, g2, _⟩ := C.ctx.gl h1
                    obtain ⟨T1, fI, i1, i2, i3⟩ := C.ctx.G.sup j kd hk hne
                    have A := sndL (th := th) as c (e :: es) h5 X E C.ctx
                    have hm := C.ctx.G.gx x j (isExc_is h2)
                    have hse : starE e = false ∧ ∀ y ∈ es, starE y = false := by
                      have h5 : okL T c as (e :: es) = true := h5
                      have all : ∀ (as : List CE) (es : List Expr), okL T c as es = true → ∀ y ∈ es, starE y = false := by
                        intro as
                        induction as with
                        | nil =>
                          intro es h y hy
                          cases es with
                          | nil => exact absurd hy List.not_mem_nil
                          | cons _ _ => exact (Bool.false_ne_true h).elim
                        | cons a as ih =>
                          intro es h y hy
                          cases es with
                          | nil => exact absurd hy List.not_mem_nil
                          | cons z zs =>
                            have h : (!starE z && okE T c a z && okL T c as zs) = true := h
                            simp only [Bool.and_eq_true, Bool.not_eq_true'] at h
                            rcases List.mem_cons.mp hy with q | q
                            · rw [q]
                              exact h.1.1
                            · exact ih zs h.2 y q
                      exact ⟨all as _ h5 e List.mem_cons_self, fun y hy => all as _ h5 y (List.mem_cons_of_mem _ hy)⟩
                    exact PS.imp (ps_raise C.ctx.calm C.ctx.tk (pmk_sup T1 i1 i2 i3 (C.ctx.G.bl _ h3) (C.ctx.G.room.mono (by omega)) g1 hm A.pa g2 (star_cons hse.1 es X.env) (star_plain hse.2))) fun D σ H q => rs_raise hk q
                  · cases h4
          | _ => exact (Bool.false_ne_true h).elim
        | _ => exact (Bool.false_ne_true h).elim
    | _ => exact (Bool.false_ne_true h).elim
  | .try_ _ _ _ _, c, x, h, X, E, C => (Bool.false_ne_true h).elim
  | .setIx o i e, c, x, h, X, E, C => by
    cases x with
    | Assign ts ex pos =>
      cases ts with
      | nil => exact (Bool.false_ne_true h).elim
      | cons tg ts =>
        cases ts with
        | cons t2 ts => cases tg <;> exact (Bool.false_ne_true h).elim
        | nil =>
          cases tg with
          | Subscript xo xi sp =>
            have h : (noSl xi && noComp ex && okE T c o xo && okE T c i xi && okE T c e ex) = true := h
            simp only [Bool.and_eq_true] at h
            obtain ⟨⟨⟨⟨h1, h2⟩, h3⟩, h4⟩, h5⟩ := h
            exact PS.imp (ps_asg (snd e c ex h5 X E C.ctx).1 (pg_sub (snd o c xo h3 X E C.ctx).1 (snd i c xi h4 X E C.ctx).1 set_list (fun v => by cases xi <;> first | rfl | cases h1)) (sub_sw ex xo xi sp pos.line X.env) (by cases ex <;> rfl) rfl) fun D σ H q => rs_setIx q
          | _ => exact (Bool.false_ne_true h).elim
    | _ => exact (Bool.false_ne_true h).elim
  | .setF o f e, c, x, h, X, E, C => by
    cases x with
    | Assign ts ex pos =>
      cases ts with
      | nil => exact (Bool.false_ne_true h).elim
      | cons tg ts =>
        cases ts with
        | cons t2 ts => cases tg <;> exact (Bool.false_ne_true h).elim
        | nil =>
          cases tg with
          | Attribute xo name sp =>
            have h : (decide (T.nms[f]? = some name) && okE T c o xo && okE T c e ex) = true := h
            simp only [Bool.and_eq_true, decide_eq_true_eq] at h
            obtain ⟨⟨h1, h2⟩, h3⟩ := h
            have hn := C.ctx.G.nms f name h1
            subst hn
            exact PS.imp (ps_fld (snd o c xo h2 X E C.ctx).1 (snd e c ex h3 X E C.ctx).1 (attr_sw ex xo _ sp pos.line X.env)) fun D σ H q => rs_setF C.ctx.G q
          | _ => exact (Bool.false_ne_true h).elim
    | _ => exact (Bool.false_ne_true h).elim
  | .iff e a b, c, x, h, X, E, C => by
    cases x with
    | If ex xs ys pos =>
      have h : (okE T c e ex && okSs T c a xs && okSs T c b ys) = true := h
      simp only [Bool.and_eq_true] at h
      exact PS.imp (ps_if (snd e c ex h.1.1 X E C.ctx).2.pt (sndSs a c xs h.1.2 X E C) (sndSs b c ys h.2 X E C)) fun D σ H q => rs_if q
    | _ => exact (Bool.false_ne_true h).elim
  | .for_ kk as p body, c, x, h, X, E, C => by
    cases x with
    | For tg iter xs ys pos =>
      cases ys with
      | cons _ _ => exact (Bool.false_ne_true h).elim
      | nil =>
        have h : (noSet iter && okPt c p tg && (match itArgs T c kk tg iter with
          | some es => okL T c as es
          | none => false) && okSs T c body xs) = true := h
        simp only [Bool.and_eq_true] at h
        obtain ⟨⟨⟨h1, h2⟩, h3⟩, h4⟩ := h
        split at h3
        · rename_i es ei
          exact PS.imp (ps_for C.po C.ctx.calm (it_rule C.ctx ei (sndL (th := th) as c es h3 X E C.ctx)) (C.ctx.pg h2) (sndSs body c xs h4 X E C) (noSet_folded h1 X.env)) fun D σ H q => rs_for q
        · cases h3
    | _ => exact (Bool.false_ne_true h).elim
  | .whl e body, c, x, h, X, E, C => by
    cases x with
    | While ex xs ys pos =>
      cases ys with
      | cons _ _ => exact (Bool.false_ne_true h).elim
      | nil =>
        have h : (okE T c e ex && okSs T c body xs) = true := h
        rw [Bool.and_eq_true] at h
        exact PS.imp (ps_while C.po (snd e c ex h.1 X E C.ctx).2.pt (sndSs body c xs h.2 X E C)) fun D σ H q => rs_whl q
    | _ => exact (Bool.false_ne_true h).elim
theorem sndSs : ∀ (ss : List CS) (c : Sc) (xs : List Stmt), okSs T c ss xs = true → ∀ (X : Cx) (E : WX), Cst T Z cl k c X E → PSs X xs (rdS X.K Z E (exL T.P cl th ss))
  | [], c, xs, h, X, E, C => by
    cases xs with
    | cons _ _ => exact (Bool.false_ne_true h).elim
    | nil => exact PSs.imp pss_nil fun D σ H q => rs_nx (by simpa only [exL] using q)
  | s :: ss, c, xs, h, X, E, C => by
    cases xs with
    | nil => exact (Bool.false_ne_true h).elim
    | cons x xs =>
      have h : (okSt T c s x && okSs T c ss xs) = true := h
      rw [Bool.and_eq_true] at h
      exact PSs.imp (pss_cons (sndSt s c x h.1 X E C) (sndSs ss c xs h.2 X E C)) fun D σ H q => rs_seq (by simpa only [exL] using q)
end
end
end Wk

set_option Elab.async false
set_option linter.all false
set_option maxRecDepth 100000
set_option maxHeartbeats 4000000
/-! WkZ: defs do what they compute; by how deep calls go. -/
namespace Wk
open PySem PySem.Spec L2
open PyProof.Rows hiding St

theorem envR_start {K : PySem.W.Frag} {Z : Sx} {W : Wd} {N : List Str} {us : List Vl} {vs : List V} {n : Nat} (r : RvL K Z W us vs) (hn : N.length = n) (hl : vs.length ≤ n) : EnvR K Z W (us.map some ++ List.replicate (n - us.length) none) (L2.start N vs) := by
  have e := r.len
  unfold L2.start
  rw [hn, e]
  have key : ∀ {us : List Vl} {vs : List V} (m : Nat), RvL K Z W us vs → EnvR K Z W (us.map some ++ List.replicate m none) (vs.map some ++ List.replicate m none) := by
    intro us vs m r
    refine ⟨by simp [r.len], ?_⟩
    induction r with
    | nil =>
      intro i v h
      rw [List.map_nil, List.nil_append, List.getElem?_replicate] at h
      split at h <;> cases h
    | cons h t ih =>
      intro i v q
      cases i with
      | zero =>
        simp at q
        subst q
        exact ⟨_, by simp, h⟩
      | succ i =>
        have := ih i v (by simpa using q)
        simpa using this
  exact key _ r
section
variable {K : PySem.W.Frag} {Z : Sx} {W : Wd} {S : Store} {Q : VK} {E : XK} {D : Ends}
/-- what a body reaches, from what its call computes -/
theorem pos_call {r : SR} {keep : Bool} (hl : S.length = W.am.length) (h : Po K Z (fun cls dd _ H => E cls dd H) (Rv K Z) W [] Q (match r with
      | .nx _ S1 => leave keep S.length (.d .non) S1
      | .ret v S1 => leave keep S.length v S1
      | .exc x _ S1 => .exc x (S1.take S.length)
      | _ => .bad)) : PoS K Z (fun cls dd _ H => E cls dd H) W { nx := fun _ H' => Q .non H', rt := Q } r := by
  have out : ∀ {v : Vl} {u : V} {W' : Wd} {S1 : Store} {H' : Hp}, W.le W' → Sto K Z W' S1 H' → Rv K Z W' v u → Po K Z (fun cls dd _ H => E cls dd H) (Rv K Z) W [] Q (leave keep S.length v S1) → Q u H' := fun {v u W' S1 H'} l st rv h => by
    cases keep with
    | true => exact h W' u H' l st rv
    | false =>
      unfold leave at h
      obtain ⟨W2, S2, x, l2, am, st2, rx, q⟩ := frz_po st rv (Po.mono l h)
      have c := st2.cut (S := S) (W := W) hl (l.trans l2)
      have h' : Po K Z (fun cls dd _ H => E cls dd H) (Rv K Z) W [] Q ((frz v S1).bind fun x S => .ok (.d x) (S.take _)) := h
      cases e : frz v S1 with
      | bad =>
        rw [e] at h'
        exact h'.elim
      | exc x S1 => exact absurd e frz_noexc
      | ok y S3 =>
        rw [e] at h'
        obtain ⟨W4, l4, st4, ry, am4⟩ := st.frz rv e
        have c4 := st4.cut (S := S) (W := W) hl (l.trans l4)
        exact h' ⟨W4.F, W.am, W.pn⟩ u H' ⟨(l.trans l4).1, ⟨[], by simp⟩, rfl⟩ c4 ry
  cases r with
  | nx ρ S1 => exact fun W' σ' H' l er st => out l st (v := .d .non) .non h
  | ret v S1 => exact fun W' u H' l st rv => out l st rv h
  | brk ρ S1 => exact h.elim
  | cnt ρ S1 => exact h.elim
  | bad => exact h.elim
  | exc x ρ S1 =>
    intro W' cls dd σ' H' l er st xr
    have c := st.cut (S := S) (W := W) hl l
    exact h ⟨W'.F, W.am, W.pn⟩ cls dd H' ⟨l.1, ⟨[], by simp⟩, rfl⟩ c xr
end
/-- what is known of the text, calls aside -/
structure Gs (T : Tx) (Z : Sx) (pg : Program) (K : PySem.W.Frag) (mg : Str → Option Value) : Prop where
  inj : ∀ a b, Z.nm a = Z.nm b → a = b
  nms : ∀ (i : Nat) n, T.nms[i]? = some n → Z.nm i = n
  ps : ∀ (f : Nat) l, T.ps[f]? = some l → Z.ps f = l
  cls : ∀ (c : Nat) d, T.P.cls[c]? = some d → ClsOk K Z T.P c d
  exc : ∀ (c : Nat) d, T.P.exc[c]? = some d → XOk K Z T.P c d
  sup : ∀ (c : Nat) d, T.P.exc[c]? = some d → d.flds ≠ [] → XRs pg K Z c d
  eq2 : ∀ (c : Nat) d f, T.P.cls[c]? = some d → d.eqf = some f → ∃ e, T.P.fns[f]? = some e ∧ e.pars = 2
  gf : ∀ x f, T.gl.lookup x = some (.fn f) → mg x = some (.ref (Z.fa f))
  gc : ∀ x c, T.gl.lookup x = some (.cls c) → mg x = some (.ref (Z.ca c))
  gx : ∀ x c, T.gl.lookup x = some (.exc c) → mg x = some (.ref (Z.xa c))
  gk : ∀ x j, T.gl.lookup x = some (.con j) → ∃ d v u, T.P.cons[j]? = some d ∧ mg x = some u ∧ RelV v u ∧ ∀ F, Rl K Z F d v
  bl : ∀ x ∈ T.bl, mg x = none
/-- the name of a lambda in a def -/
def lamNm (qual : Str) (scope : Scope) (fa : Addr) (cdv : Value) : Str := (envOfC qual scope 0 fa cdv).qual ++ "<lambda>"
def isLoc (c : Sc) (x : Str) : Bool := decide (c.sc.names.lookup x = some .local) && !(x == ("__debug__" : Str)) && !(x == ("__classdict__" : Str))
/-- found, caught = None, None; try: found = ask(); except E as error: caught = error; the rest is the core -/
def hearOk (T : Tx) (c : Sc) (d : FDef) : List Stmt → Bool
  | .Assign [.Tuple [.Name f1 _, .Name c1 _] k1 p1] (.Tuple [.Constant .none _ _, .Constant .none _ _] k2 p2) _ :: .Try [.Assign [.Name f2 _] (.Call (.Name a _) [] [] _) _] [.ExceptHandler (some (.Name x _)) (some n) [.Assign [.Name c2 _] (.Name n2 _) _] _] [] [] _ :: rest =>
    decide (d.pars = 1) && decide (3 ≤ d.slots) && decide (c.N[0]? = some a) && decide (c.N[1]? = some f1) && decide (c.N[2]? = some c1) && decide (c.N[3]? = some n) && decide (f2 = f1) && decide (c2 = c1) && decide (n2 = n) && isLoc c a && isLoc c f1 && isLoc c c1 && isLoc c n && okGl c x &&
      (match T.gl.lookup x with
      | some (.exc w) => decide (w < T.P.exc.length) && T.P.exc.all fun k => k.sup.contains w
      | _ => false) && (T.P.exc.all fun k => decide (k.flds.length < 1000)) && okSs T c d.body rest
  | _ => false
/-- a def of the text against its core -/
structure DefOk (T : Tx) (Z : Sx) (cs : List (Addr × Addr)) (K : PySem.W.Frag) (f : Nat) (d : FDef) : Prop where
  ok : ∃ (lam : Bool) (name qual : Str) (params : Arguments) (body : List Stmt) (scope : Scope) (dV kV doc pm cdv ct oc : Value) (an od : Option Addr) (osl : Array (Option Value)) (N : List Str),
    K.lookup (Z.fa f) = some ⟨oc, od, .func (PySem.W.fnOf name qual params body scope dV kV doc pm an cdv ct), osl⟩ ∧ PySem.W.codeIn K cdv qual = true ∧ FnScope N (Z.ps f) scope ∧ N.length = d.slots ∧
      FnS K Z d (Z.fa f) (PySem.W.fnOf name qual params body scope dV kV doc pm an cdv ct) (Z.ps f) ∧ (d.star = false → okSs T ⟨N, scope, fun _ => true, lam⟩ d.body body = true) ∧
      (lam = true → ∃ cd P, cdv = .ref cd ∧ (cd, P) ∈ cs ∧ (P, lamNm qual scope (Z.fa f) cdv) ∈ Z.tb ∧ ∀ p ∈ Z.tb, p.1 = P → p.2 = lamNm qual scope (Z.fa f) cdv) ∧ (d.star = true → hearOk T ⟨N, scope, fun _ => true, false⟩ d body = true)
section
variable {P : Program} {w : World} {K : PySem.W.Frag} {mg : Str → Option Value} {base : Heap} {T : Tx} {Z : Sx} {cs : List (Addr × Addr)} {cl : Cl} {j : Nat} {f : Nat} {d : FDef}
/-- what calls of the text's defs promise, calls so deep -/
structure Defs (P : Program) (w : World) (K : PySem.W.Frag) (mg : Str → Option Value) (base : Heap) (T : Tx) (Z : Sx) (cl : Cl) (j : Nat) : Prop where
  fn : ∀ (i : Nat) e, T.P.fns[i]? = some e → ∃ fd, FnS K Z e (Z.fa i) fd (Z.ps i) ∧ FnG P w K mg base j (Z.fa i) fd (Z.ps i) (spI K Z e.pars (cl i none))
  hear : ∀ (i : Nat) e, T.P.fns[i]? = some e → e.star = true → HearsG T.P P w K mg base j Z (Z.fa i) (cl i none)
theorem gd_of (g : Gs T Z P K mg) (F : Defs P w K mg base T Z cl j) {A : Around} (hr : Room (j + 3) A) (hg : A.guards = some []) : Gd T Z cl j P w K mg base A :=
  ⟨hr, hg, g.inj, g.nms, g.ps, F.fn, F.hear, g.cls, g.exc, g.sup, g.eq2, g.gf, g.gc, g.gx, g.gk, g.bl⟩
theorem fnG_of (g : Gs T Z P K mg) (TB : ∀ p ∈ cs, LamX.TabB base mg p.1 p.2) (hf : T.P.fns[f]? = some d) (D : DefOk T Z cs K f d) (F : Defs P w K mg base T Z cl j) :
    ∃ fd, FnS K Z d (Z.fa f) fd (Z.ps f) ∧ FnG P w K mg base (j + 6) (Z.fa f) fd (Z.ps f) (spI K Z d.pars (callF T.P cl f none)) := by
  obtain ⟨lam, name, qual, params, body, scope, dV, kV, doc, pm, cdv, ct, oc, an, od, osl, N, lk, hcd, S, hN, fs, hb, hlm, hst⟩ := D.ok
  refine ⟨_, fs, fun vs H Q E h => ?_, fun A outer s H args us vs Q E hr hg e0 bt r hsp => ?_⟩
  · rw [fs.np]
    exact h.1
  · obtain ⟨hl, W, S0, ls, st, rl, po⟩ := hsp
    have hlen : ls.length = d.pars := by rw [rl.len]; exact hl
    have po' : Po K Z (fun cls dd _ H => E cls dd H) (Rv K Z) W [] Q (callF T.P cl f none ls S0) := po
    unfold callF at po'
    rw [hf] at po'
    dsimp only at po'
    cases hs : d.star with
    | true =>
      have hh := hst hs
      have h1 : d.pars = 1 := by
        unfold hearOk at hh
        split at hh
        · simp only [Bool.and_eq_true, decide_eq_true_eq] at hh
          exact hh.1.1.1.1.1.1.1.1.1.1.1.1.1.1.1.1
        · cases hh
      rw [if_neg (by unfold lenOf; rw [hs, hlen, h1]; decide)] at po'
      exact po'.elim
    | false =>
    have hb := hb hs
    have KX : K.In s.heap := e0.mod.kin.keeps fun b o e => (e0.bs b o e).1
    have lim : s.heap.NoLimit := e0.mod.nolimit.keeps fun b o e => (e0.bs b o e).1
    have hlp : vs.length = (Z.ps f).length := by rw [fs.np]; exact hl
    have hkind : ∀ y ∈ (Z.ps f).zip us, scope.names.lookup y.1 = some .local ∨ (scope.names.lookup y.1 = some .cell ∧ ((cellsFrom (s.heap.objs.size + 1) scope.names []).lookup y.1).isSome = true) := fun ⟨n, v⟩ hy => by
      rcases S.par n (List.of_mem_zip hy).1 with q | q
      · exact .inl q
      · exact .inr ⟨q, PySem.W.cellsFrom_some _ _ _ (.inl q)⟩
    refine codeAny_call_function hr.depth (KX _ _ lk) rfl S.co S.gen rfl (PySem.W.codeRec_of KX hcd) (bt _ _ _ _ ?_)
    refine wpAny_newFunctionEnv_cells S.kind hkind fun env he s1 x => ?_
    subst he
    refine ⟨lim.keeps x.toInCall.keep, codeAny_func ?_⟩
    have hr' : Room (j + 5) (A.deeper (envOfC qual scope s.heap.objs.size (Z.fa f) cdv)) := hr.deeper (envOfC qual scope s.heap.objs.size (Z.fa f) cdv)
    have G : Gd T Z cl j P w K mg base (A.deeper (envOfC qual scope s.heap.objs.size (Z.fa f) cdv)) := gd_of g F (hr'.mono (by omega)) hg
    let X : Cx := cxOf (L2.CX P w) P w K mg base N qual scope (Z.fa f) cdv A outer s H E
    have C : Cst T Z cl j ⟨N, scope, fun _ => true, lam⟩ X (fun cls d _ H => E cls d H) :=
      ⟨⟨rfl, rfl, rfl, fun _ _ => rfl, S.nd, G, takes_of rfl rfl rfl rfl, fun z => by
        obtain ⟨cd, PT, e1, e2, e3, e4⟩ := hlm z
        exact ⟨cd, PT, e1, TB _ e2, e3, e4, hr'⟩⟩, passes_of rfl, S.kind⟩
    have body := sndSs (th := none) d.body _ body hb X _ C
    have I : L2.Inv X [] (L2.start N vs) H s1 := inv_start S hr.hd e0 hlp r x
    have hle : d.pars ≤ N.length := by
      have := congrArg List.length S.pre
      rw [List.length_take, fs.np] at this
      omega
    have elen : lenOf d = d.pars := by unfold lenOf; rw [hs]
    have eenv : envOf d ls = ls.map some ++ List.replicate (d.slots - d.pars) none := by unfold envOf; rw [hs]
    rw [elen, if_pos hlen, eenv] at po'
    have start := envR_start (n := d.slots) rl hN (by rw [hl]; omega)
    rw [hlen] at start
    have q : rdS K Z (fun cls dd _ H => E cls dd H) (exL T.P cl none d.body) { nx := fun _ H' => Q .non H', rt := Q } (L2.start N vs) H := ⟨W, _, S0, start, st, pos_call st.len po'⟩
    refine wpAny_mono (body.run [] s1 (L2.start N vs) H _ I q) (fun fl s' hs => ?_) fun e s' hs => hs
    have fin : ∀ {σ' : L2.St} {H' : Hp} {v : V} {u : Value}, Inv X [] σ' H' s' → RelV v u → Q v H' → L2.CE outer P w H s Q u s' := fun {σ' H' v u} J rv q => ⟨v, H', J.os, J.bare, J.base, J.hok, rv, q⟩
    cases fl with
    | ret u =>
      obtain ⟨v, σ', H', J, rv, q⟩ := hs
      exact fin J rv q
    | next =>
      obtain ⟨σ', H', J, q⟩ := hs
      exact fin (v := V.non) (u := Value.none) J rfl q
    | brk =>
      obtain ⟨_, _, _, q⟩ := hs
      exact False.elim q
    | cont =>
      obtain ⟨_, _, _, q⟩ := hs
      exact False.elim q
end
end Wk

set_option Elab.async false
set_option linter.all false
set_option maxRecDepth 100000
set_option maxHeartbeats 4000000
/-! WkZa: a def that hears; all defs by how deep calls go. -/
namespace Wk
open PySem PySem.Spec L2
open PyProof.Rows hiding St

theorem isLoc_is {c : Sc} {x : Str} (h : isLoc c x = true) : c.sc.names.lookup x = some .local ∧ (x == ("__debug__" : Str)) = false ∧ (x == ("__classdict__" : Str)) = false := by
  unfold isLoc at h
  simp only [Bool.and_eq_true, Bool.not_eq_true', decide_eq_true_eq] at h
  exact ⟨h.1.1, h.1.2, h.2⟩
theorem env_hear {K : PySem.W.Frag} {Z : Sx} {W : Wd} {v w : Vl} {g : Option V} {u y : V} {σ : L2.St} {m : Nat} (hm : σ.length = m) (r : Rv K Z W v u) (r2 : Rv K Z W w y) : EnvR K Z W (none :: ([some v, some w] ++ List.replicate m none)) (g :: some u :: some y :: σ) := by
  refine ⟨by simp [hm], fun i x e => ?_⟩
  match i, e with
  | 0, e => simp at e
  | 1, e =>
    simp at e
    subst e
    exact ⟨u, rfl, r⟩
  | 2, e =>
    simp at e
    subst e
    exact ⟨y, rfl, r2⟩
  | i + 3, e =>
    simp [List.getElem?_replicate] at e
section
variable {P : Program} {w : World} {K : PySem.W.Frag} {mg : Str → Option Value} {base : Heap} {T : Tx} {Z : Sx} {cs : List (Addr × Addr)} {cl : Cl} {j : Nat} {f : Nat} {d : FDef}
theorem hearsG_0 (hs : d.star = true) (D : DefOk T Z cs K f d) : HearsG T.P P w K mg base j Z (Z.fa f) (fun _ _ => .bad) := by
  obtain ⟨lam, name, qual, params, body, scope, dV, kV, doc, pm, cdv, ct, oc, an, od, osl, N, lk, hcd, S, hN, fs, _, _, hst⟩ := D.ok
  have hh := hst hs
  unfold hearOk at hh
  split at hh
  case h_2 => cases hh
  rename_i f1 y1 c1 y2 k1 p1 i1 q1 i2 q2 k2 p2 y3 f2 y4 a y5 y6 y7 x y8 n c2 y9 n2 y10 y11 y12 y13 rest hx0
  simp only [Bool.and_eq_true, decide_eq_true_eq] at hh
  obtain ⟨⟨⟨⟨⟨⟨⟨⟨⟨⟨⟨⟨⟨⟨⟨⟨h1, h2⟩, h3⟩, h4⟩, h5⟩, h6⟩, h7⟩, h8⟩, h9⟩, h10⟩, h11⟩, h12⟩, h13⟩, h14⟩, h15⟩, h16⟩, h17⟩ := hh
  subst h7 h8 h9
  obtain ⟨la, da, ca⟩ := isLoc_is h10
  obtain ⟨lf, df, cf⟩ := isLoc_is h11
  obtain ⟨lc, dc, cc⟩ := isLoc_is h12
  obtain ⟨ln, dn, cn⟩ := isLoc_is h13
  have ps1 : Z.ps f = [a] := by
    have e := S.pre
    rw [fs.np, h1] at e
    cases N with
    | nil => cases h3
    | cons b N =>
      simp at h3
      rw [← e, h3]
      rfl
  have S' := S
  rw [ps1] at S' fs
  split at h15
  case h_2 => cases h15
  rename_i wx hgx
  simp only [Bool.and_eq_true, decide_eq_true_eq, List.all_eq_true] at h15
  clear h15
  refine ⟨name, qual, a, params, _, scope, dV, kV, doc, pm, cdv, ct, oc, an, od, osl, N, lk, hcd, S', h3, .inl la, da, ca, fs.kp, fun s u ks => ?_, fun A outer s H E Q f' c' q tl W S0 r hr hg e0 act hco st htl po => ?_⟩
  · obtain ⟨its, ro, dvs, b1, b2, b3, _, _⟩ := fs.dfl
    exact bind_arr (us := [u]) (ks := []) (ws := [u]) fs.p1 fs.p2 fs.p3 fs.p4 fs.p5 fs.nd (Nat.le_refl _) (fun q hq => absurd hq List.not_mem_nil) .nil b1 b2 rfl ks b3
  refine False.elim ?_
  cases r with
  | bad => exact po
  | ok v S1 => exact po
  | exc e S1 =>
    have po : Po K Z (fun cls d _ H => E cls d H) (Rv K Z) W [] Q (match T.P.exc[e.c]? with
      | some _ => .bad
      | none => .bad) := po
    split at po <;> exact po
theorem hearsG_of (g : Gs T Z P K mg) (hf : T.P.fns[f]? = some d) (hs : d.star = true) (D : DefOk T Z cs K f d) (F : Defs P w K mg base T Z cl j) : HearsG T.P P w K mg base (j + 6) Z (Z.fa f) (callF T.P cl f none) := by
  obtain ⟨lam, name, qual, params, body, scope, dV, kV, doc, pm, cdv, ct, oc, an, od, osl, N, lk, hcd, S, hN, fs, _, _, hst⟩ := D.ok
  have hh := hst hs
  unfold hearOk at hh
  split at hh
  case h_2 => cases hh
  rename_i f1 y1 c1 y2 k1 p1 i1 q1 i2 q2 k2 p2 y3 f2 y4 a y5 y6 y7 x y8 n c2 y9 n2 y10 y11 y12 y13 rest hx0
  simp only [Bool.and_eq_true, decide_eq_true_eq] at hh
  obtain ⟨⟨⟨⟨⟨⟨⟨⟨⟨⟨⟨⟨⟨⟨⟨⟨h1, h2⟩, h3⟩, h4⟩, h5⟩, h6⟩, h7⟩, h8⟩, h9⟩, h10⟩, h11⟩, h12⟩, h13⟩, h14⟩, h15⟩, h16⟩, h17⟩ := hh
  subst h7 h8 h9
  obtain ⟨la, da, ca⟩ := isLoc_is h10
  obtain ⟨lf, df, cf⟩ := isLoc_is h11
  obtain ⟨lc, dc, cc⟩ := isLoc_is h12
  obtain ⟨ln, dn, cn⟩ := isLoc_is h13
  have ps1 : Z.ps f = [a] := by
    have e := S.pre
    rw [fs.np, h1] at e
    cases N with
    | nil => cases h3
    | cons b N =>
      simp at h3
      rw [← e, h3]
      rfl
  have S' := S
  rw [ps1] at S' fs
  split at h15
  case h_2 => cases h15
  rename_i wx hgx
  simp only [Bool.and_eq_true, decide_eq_true_eq, List.all_eq_true] at h15
  obtain ⟨hwl, hall⟩ := h15
  refine ⟨name, qual, a, params, _, scope, dV, kV, doc, pm, cdv, ct, oc, an, od, osl, N, lk, hcd, S', h3, .inl la, da, ca, fs.kp, fun s u ks => ?_, fun A outer s H E Q f' c' q tl W S0 r hr hg e0 act hco st htl po => ?_⟩
  · obtain ⟨its, ro, dvs, b1, b2, b3, _, _⟩ := fs.dfl
    exact bind_arr (us := [u]) (ks := []) (ws := [u]) fs.p1 fs.p2 fs.p3 fs.p4 fs.p5 fs.nd (Nat.le_refl _) (fun q hq => absurd hq List.not_mem_nil) .nil b1 b2 rfl ks b3
  have hr' : Room (j + 5) (A.deeper (envOfC qual scope s.heap.objs.size (Z.fa f) cdv)) := hr.deeper (envOfC qual scope s.heap.objs.size (Z.fa f) cdv)
  have G : Gd T Z cl j P w K mg base (A.deeper (envOfC qual scope s.heap.objs.size (Z.fa f) cdv)) := gd_of g F (hr'.mono (by omega)) hg
  let X : Cx := cxOf (L2.CX P w) P w K mg base N qual scope (Z.fa f) cdv A outer s H E
  have C : Cst T Z cl j ⟨N, scope, fun _ => true, false⟩ X (fun cls d _ H => E cls d H) :=
    ⟨⟨rfl, rfl, rfl, fun _ _ => rfl, S.nd, G, takes_of rfl rfl rfl rfl, fun z => nomatch z⟩, passes_of rfl, S.kind⟩
  have R := sndSs (th := none) d.body _ rest h17 X _ C
  obtain ⟨gl1, gl2, _⟩ := C.ctx.gl h14
  have hmx : mg x = some (.ref (Z.xa wx)) := g.gx x wx hgx
  obtain ⟨w1, w2, w3⟩ := swp_false C (l := y3.line) (tg := .Tuple [.Name f2 y1, .Name c2 y2] k1 p1) (ex := .Tuple [.Constant .none i1 q1, .Constant .none i2 q2] k2 p2) rfl
  obtain ⟨v1, v2, v3⟩ := swp_false C (l := y7.line) (tg := .Name f2 y4) (ex := .Call (.Name a y5) [] [] y6) rfl
  obtain ⟨z1, z2, z3⟩ := swp_false C (l := y11.line) (tg := .Name c2 y9) (ex := .Name n2 y10) rfl
  have hpt : okPt (⟨N, scope, fun _ => true, false⟩ : Sc) (.tup [1, 2]) (.Tuple [.Name f2 y1, .Name c2 y2] k1 p1) = true := by
    simp only [okPt, okNs, okNm, h4, h5, lf, lc, decide_true, Bool.and_self]
  have S1 : PS X (.Assign [.Tuple [.Name f2 y1, .Name c2 y2] k1 p1] (.Tuple [.Constant .none i1 q1, .Constant .none i2 q2] k2 p2) y3) (tAsg (tTup (tCons (tC .non) (tCons (tC .non) tNil))) (gP X.K (.tup [1, 2]))) :=
    ps_asg (pe_tup (pa_cons pe_non (pa_cons pe_non pa_nil))) (C.ctx.pg hpt) w1 w2 w3
  let ts : Addr → TS := fun b => tAsg (fun σZ HZ Q' => σZ[3]? = some (some (.ref b)) ∧ Q' (.ref b) HZ) (gName 2)
  let tb : WX → TS := fun W' => tAsg (fun σZ HZ Q' => ∃ E' : XK, σZ[0]? = some (some (.ref f')) ∧ HZ c' = some (LamX.CodeO c' q) ∧ (∀ cls d H', E' cls d H' → W' cls d σZ H') ∧ tl E' HZ Q') (gName 1)
  have S2 : PS X (.Try [.Assign [.Name f2 y4] (.Call (.Name a y5) [] [] y6) y7] [.ExceptHandler (some (.Name x y8)) (some n2) [.Assign [.Name c2 y9] (.Name n2 y10) y11] y12] [] [] y13) (fun D σ H => tb (wKeep X.K (.ref (Z.xa wx)) 3 ts (fun _ _ _ _ => False) D) D σ H) := by
    refine ps_try_keep (X := X) rfl rfl S.nd h6 ln ⟨gl1, gl2, .inl hmx⟩ LamX.takes0 rfl (fun W' pn xe tk pe => ?_) (fun b pn => ?_)
    · refine pss_one (ps_asg (X := X.tr pn xe) ⟨fun pins s1 σ1 H1 Q1 I1 z => ?_⟩ (pg_name (X := X.tr pn xe) S.nd h4 (.inl lf) (.inr lf)) v1 v2 v3)
      obtain ⟨E', z⟩ := z
      exact (act W' pn xe E' y5 y6 tk).run pins s1 σ1 H1 Q1 I1 z
    · exact pss_one (ps_asg (X := X.suite b pn) (PE.imp (pe_var (X := X.suite b pn) (i := 3) h6 (.inl ln) dn cn) fun σ H Q z => ⟨.ref b, z.1, z.2⟩) (pg_name (X := X.suite b pn) S.nd h5 (.inl lc) (.inr lc)) z1 z2 z3)
  refine ⟨_, pss_cons S1 (pss_cons S2 R), ?_⟩
  obtain ⟨m, hm⟩ : ∃ m, d.slots = m + 4 := by
    have := (List.getElem?_eq_some_iff.mp h6).1
    rw [hN] at this
    exact ⟨d.slots - 4, by omega⟩
  have est : L2.start N [V.ref f'] = some (.ref f') :: none :: none :: none :: List.replicate m none := by
    unfold L2.start
    rw [hN, hm]
    rfl
  have run : ∀ (v c : Vl) (u y : V) (σ : L2.St) (W' : Wd) (S1 : Store) (H' : Hp), σ.length = m + 1 → W.le W' → Sto K Z W' S1 H' → Rv K Z W' v u → Rv K Z W' c y → Po K Z (fun cls d _ H => E cls d H) (Rv K Z) W [] Q (callF T.P cl f none [v, c] S1) →
      rdS K Z (fun cls d _ H => E cls d H) (exL T.P cl none d.body) { nx := fun _ H' => Q .non H', rt := Q } (some (.ref f') :: some u :: some y :: σ) H' := fun v c u y σ W' S1 H' hl l stt r1 r2 po => by
    have po := Po.mono l po
    unfold callF at po
    rw [hf] at po
    dsimp only at po
    rw [if_pos (by unfold lenOf; rw [hs]; rfl)] at po
    have ee : envOf d [v, c] = none :: ([some v, some c] ++ List.replicate (m + 1) none) := by
      unfold envOf
      rw [hs, hm]
      rfl
    rw [ee] at po
    exact ⟨W', _, S1, env_hear hl r1 r2, stt, pos_call stt.len po⟩
  show tAsg (tTup (tCons (tC .non) (tCons (tC .non) tNil))) (gP X.K (.tup [1, 2])) _ (L2.start N [V.ref f']) H
  refine ⟨by rw [sizeLine_eq]; decide, fun p hp => ⟨p, _, rfl, .inl (.inl upd_same), rfl, _, _, rfl, _, _, rfl, rfl, ?_⟩⟩
  rw [est]
  have hc1 : upd H p (.tup [.non, .non]) c' = some (LamX.CodeO c' q) := by
    rw [upd_ne (ne_of_none hco hp)]
    exact hco
  refine ⟨fun cls dd H' => wKeep K (.ref (Z.xa wx)) 3 ts (fun _ _ _ _ => False) _ cls dd _ H', rfl, hc1, fun _ _ _ z => z, htl _ _ _ (st.grow hp) ?_⟩
  cases r with
  | bad => exact po.elim
  | ok v S1 => exact fun W' u H' l stt rv => run v (.d .non) u .non _ W' S1 H' (by simp) l stt rv .non po
  | exc e S1 =>
    intro W' cls dd H' l stt xr
    obtain ⟨rfl, dx, gs, rfl, hd, rf⟩ := xr
    unfold hearM at po
    dsimp only at po
    cases hk : T.P.exc[e.c]? with
    | none =>
      rw [hk] at po
      exact po.elim
    | some kx =>
      rw [hk] at po
      dsimp only at po
      have kw := g.exc wx _ (List.getElem?_eq_getElem hwl)
      have em := kw.km e.c kx hk
      rw [hall kx (List.mem_of_getElem? hk)] at em
      refine ⟨true, em, fun _ => ⟨dx, rfl, fun b hb => ⟨rfl, ?_⟩⟩, fun z => nomatch z⟩
      have ex := Ex.new (o := XO (.ref (Z.xa e.c)) dx b) (stt.ex.free hb)
      have nb : dx ≠ b := ne_of_none (stt.ex _ _ hd) hb
      exact run (.d .non) (.d (.exn e.c e.fs)) .non (.ref b) _ ⟨upd W'.F b (XO (.ref (Z.xa e.c)) dx b), W'.am, W'.pn⟩ S1 _ (by simp) (l.trans (Wd.le.know ex)) (stt.new hb) .non (.exn upd_same (by
        show upd W'.F b _ dx = _
        rw [upd_ne nb]
        exact hd) (RlF.mono ex rf)) po
/-- ALL DEFS, calls n deep -/
theorem defs_all (g : Gs T Z P K mg) (TB : ∀ p ∈ cs, LamX.TabB base mg p.1 p.2) (D : ∀ (f : Nat) d, T.P.fns[f]? = some d → DefOk T Z cs K f d) : ∀ n : Nat, Defs P w K mg base T Z (callN T.P n) (6 * n)
  | 0 => by
    refine ⟨fun f d hf => ?_, fun f d hf hs => ?_⟩
    · obtain ⟨lam, name, qual, params, body, scope, dV, kV, doc, pm, cdv, ct, oc, an, od, osl, N, lk, hcd, S, hN, fs, _⟩ := (D f d hf).ok
      refine ⟨_, fs, fun vs H Q E h => ?_, fun A outer s H args us vs Q E hr hg e0 bt r hsp => ?_⟩
      · rw [fs.np]
        exact h.1
      · obtain ⟨_, _, _, _, _, _, q⟩ := hsp
        exact False.elim q
    · exact hearsG_0 hs (D f d hf)
  | n + 1 => ⟨fun f d hf => fnG_of g TB hf (D f d hf) (defs_all g TB D n), fun f d hf hs => hearsG_of g hf hs (D f d hf) (defs_all g TB D n)⟩
end
end Wk

set_option Elab.async false
set_option linter.all false
set_option maxRecDepth 100000
set_option maxHeartbeats 4000000
/-! WlA: a law over the interpreter, behind the head. -/
namespace Wk
open PySem PySem.Spec L2
open PyProof.Rows hiding St

/-- what is known at the start: all but the tables -/
def noTab (H : Hp) : Hp := fun b => match H b with
  | some (.tbl _) => none
  | o => o
theorem noTab_ex {H : Hp} : Ex (noTab H) H := fun b o e => by
  unfold noTab at e
  split at e
  · cases e
  · exact e
theorem noTab_at {H : Hp} {b : Addr} {o : HO} (h : H b = some o) (n : ∀ ps, o ≠ .tbl ps) : noTab H b = some o := by
  unfold noTab
  split
  · rename_i ps e
    rw [h] at e
    exact absurd (Option.some.inj e) (n ps)
  · exact h
theorem sto_script {K : PySem.W.Frag} {Z : Sx} (H : Hp) (hT : ∀ p ∈ Z.tb, H p.1 = some (.tbl #[])) : Sto K Z ⟨noTab H, [], fun _ => none⟩ [] H :=
  ⟨noTab_ex, rfl, fun n c a h => by simp at h, fun n m a h => by simp at h, fun n a h => by simp at h, fun a o h => (by cases h), fun p hp => ⟨LamX.TabS.nil (hT p hp), by
    show noTab H p.1 = none
    unfold noTab
    rw [hT p hp], rfl⟩⟩
theorem sp_script {K : PySem.W.Frag} {Z : Sx} {H : Hp} {a : Addr} {ns : List Int} {c : List Vl → Store → Res Vl} (hz : ns.length ≤ sizeLine) (hT : ∀ p ∈ Z.tb, H p.1 = some (.tbl #[])) (h : SqL K H a (ns.map V.int)) (hc : ∃ S, c [.d (.scr ns)] [] = .ok (.d (.bl true)) S) :
    spI K Z 1 c [.ref a] H (fun v _ => v = .bl true) (fun _ _ _ => False) := by
  obtain ⟨S, e⟩ := hc
  have h' : SqL K (noTab H) a (ns.map V.int) := by
    rcases h with h | h
    · rcases h with h | ⟨o, h⟩
      · exact .inl (.inl (noTab_at h fun _ z => nomatch z))
      · exact .inl (.inr ⟨o, noTab_at h fun _ z => nomatch z⟩)
    · exact .inr h
  refine ⟨rfl, ⟨noTab H, [], fun _ => none⟩, [], [.d (.scr ns)], sto_script H hT, .cons (.scr h' hz) .nil, ?_⟩
  rw [e]
  intro W' u H' l st r
  cases (show Rl K Z W'.F (.bl true) u from r)
  rfl
/-- the empty tables that the law's lambdas fill -/
structure Tbls (K : PySem.W.Frag) (h : Heap) (mg : Str → Option Value) (cs : List (Addr × Addr)) : Prop where
  emp : ∀ p ∈ cs, h.get? p.2 = some { cls := .none, data := .fields #[] }
  out : ∀ p ∈ cs, K.lookup p.2 = none
  code : ∀ p ∈ cs, PySem.W.CodeHd h p.1 p.2
  bm : cs ≠ [] → ∃ (bm : Addr) (ob : Obj), mg "__builtins__" = some (.ref bm) ∧ bm ≠ builtinsNs ∧ h.get? bm = some ob ∧ ob.cls = .type "module" ∧ ob.dict = some builtinsNs ∧ ob.data = .plain
section
variable {P : Program} {w : World} {K : PySem.W.Frag} {mg mb : Str → Option Value} {Z : Sx} {k : Nat} {fa a : Addr} {x : Str} {t : Shared} {us : List Value} {ns : List Int} {c : List Vl → Store → Res Vl} {cs : List (Addr × Addr)}
/-- what the call of the law leaves, from one abstract heap -/
theorem law_one (kin : K.In t.heap) (hns : t.heap.Ns mainGlobals mg) (hbl : t.heap.Ns builtinsNs mb) (hbb : ∀ x : Str, x ≠ "__name__" → mb x = bootBuiltins x) (lim : t.heap.NoLimit) (gens : t.gens = #[]) (TT : Tbls K t.heap mg cs) (hZ : ∀ p ∈ Z.tb, p.1 ∈ cs.map (·.2))
    (obj : t.heap.get? a = some { cls := .type "list", data := .seq us.toArray }) (room : Room k callerA)
    (F : ∀ base : Heap, K.In base → base.Ns mainGlobals mg → (∀ p ∈ cs, LamX.TabB base mg p.1 p.2) → ∃ fd : FuncData, (∀ (s : Shared) (u : Value), K.In s.heap → BindsTo s fd ⟨[u], []⟩ [(x, u)]) ∧ FnG P w K mg base k fa fd [x] (spI K Z 1 c))
    (hz : ns.length ≤ sizeLine) (hc : ∃ S, c [.d (.scr ns)] [] = .ok (.d (.bl true)) S) (H : Hp) (tabs : ∀ b ∈ cs.map (·.2), H b = some (.tbl #[])) (only : ∀ b, b ∈ cs.map (·.2) ∨ H b = none ∨ ∃ o xs, H b = some (.frz o (.lst xs))) (sq : SqL K H a (ns.map V.int)) (hok : HOk P w H t.heap)
    (one : ∀ b, H b ≠ none → b = a ∨ b ∈ cs.map (·.2)) (own : H a ≠ none → K.lookup a = none) :
    codeAny (model P w) callerA (.call (.ref fa) ⟨[.ref a], []⟩) (fun r s' => r = .ok (.ret (.bool true)) ∧ OldK t.heap s'.heap ∧ s'.os = t.os ∧ AllBare s'.gens) t := by
  have emp : ∀ b ∈ cs.map (·.2), t.heap.get? b = some { cls := .none, data := .fields #[] } := fun b hb => by
    obtain ⟨p, hp, e⟩ := List.mem_map.mp hb
    rw [← e]
    exact TT.emp p hp
  have toB : ∀ {b : Addr} {o : Obj}, t.heap.get? b = some o → H b = none → (hidT t.heap H).get? b = some o := fun p q => hidT_get p q
  -- what is neither a row of values nor an empty table is not tracked
  have free : ∀ {b : Addr} {o : Obj}, t.heap.get? b = some o → (∀ vs n, o.data ≠ .seq vs n) → o.data ≠ .fields #[] → H b = none := fun {b o} p q1 q2 => by
    by_cases z : H b = none
    · exact z
    · rcases one b z with e | e
      · rw [e, obj] at p
        cases p
        exact absurd rfl (q1 _ _)
      · rw [emp b e] at p
        cases p
        exact absurd rfl q2
  have dict0 : ∀ {b : Addr} {o : Obj} {es : Array DictEntry} {ep : Nat}, t.heap.get? b = some o → o.data = .dict es ep → H b = none := fun {b o es ep} p q => free p (fun vs n z => by rw [q] at z; cases z) fun z => by rw [q] at z; cases z
  have space : ∀ {b : Addr} {m : Str → Option Value}, t.heap.Ns b m → (hidT t.heap H).Ns b m := fun {b m} ⟨o, es, ep, p, d, r⟩ => ⟨o, es, ep, toB p (dict0 p d), d, r⟩
  have kinB : K.In (hidT t.heap H) := fun b o p => by
    refine toB (kin b o p) ?_
    by_cases z : H b = none
    · exact z
    · rcases one b z with e | e
      · subst e
        have q := own z
        rw [q] at p
        cases p
      · obtain ⟨y, hy, e2⟩ := List.mem_map.mp e
        have q := TT.out y hy
        rw [e2, p] at q
        cases q
  have md : Mod K mg (hidT t.heap H) := by
    obtain ⟨mc, l1, l2⟩ := lim
    exact ⟨kinB, space hns, ⟨mb, space hbl, hbb⟩, ⟨mc, space l1, l2⟩⟩
  have tbs : ∀ p ∈ cs, LamX.TabB (hidT t.heap H) mg p.1 p.2 := fun p hp => by
    have ep := TT.emp p hp
    refine ⟨?_, ?_, fun z => ?_⟩
    · obtain ⟨o, us', file, tf, flags, tg, inF, text, tt, c1, c2, c3, c4, c5⟩ := TT.code p hp
      exact ⟨o, us', file, tf, flags, tg, inF, text, tt, toB c1 (free c1 (fun vs n z => by rw [c3] at z; cases z) fun z => by
        rw [c3] at z
        cases z
        simp at c4), c2, c3, c4, c5⟩
    · obtain ⟨bm, ob, b1, b2, b3, b4, b5, b6⟩ := TT.bm (List.ne_nil_of_mem hp)
      refine ⟨bm, ob, b1, b2, fun q => ?_, fun q => ?_, toB b3 (free b3 (fun vs n z => by rw [b6] at z; cases z) fun z => by rw [b6] at z; cases z), b4, b5, b6⟩
      · obtain ⟨o, es, ep', e, hd, _⟩ := hns
        rw [q, e] at b3
        cases b3
        rw [hd] at b6
        cases b6
      · rw [q, ep] at b3
        cases b3
        cases b6
    · obtain ⟨o, es, ep', e, hd, _⟩ := hns
      rw [z, ep] at e
      cases e
      cases hd
  have start : Env0 P w K mg (hidT t.heap H) callerA [] t H := ⟨rfl, md, fun b o p => of_hidT p, Nat.le_of_eq (hidT_size _ _), trivial, fun b q => absurd q List.not_mem_nil, hok, .of_eq gens⟩
  obtain ⟨fd, bind, FG⟩ := F _ kinB (space hns) tbs
  have runs := FG.run callerA [] t H ⟨[.ref a], []⟩ [.ref a] [.ref a] _ _ room rfl start (bind t (.ref a) kin) (.cons rfl .nil) (sp_script (Z := Z) hz (fun p hp => tabs _ (hZ p hp)) sq hc)
  refine codeAny_mono runs fun r s' q => ?_
  cases r with
  | error e =>
    obtain ⟨_, _, _, _, _, _, _, _, _, _, _, _, z⟩ := q
    exact False.elim z
  | ok fl =>
    cases fl with
    | ret u =>
      obtain ⟨v, H', os, bare, un, hok', rv, z⟩ := q
      have z : v = .bl true := z
      subst z
      cases (show u = Value.bool true from rv)
      have stay : ∀ b o, b ∉ cs.map (·.2) → t.heap.get? b = some o → s'.heap.get? b = some o := fun b o hb p => by
        rcases only b with n | n | ⟨ob, xs, n⟩
        · exact absurd n hb
        · exact un.keep b o p n (fun m => absurd m List.not_mem_nil) List.not_mem_nil
        · obtain ⟨p1, _⟩ := hok b _ n
          obtain ⟨p2, _⟩ := hok' b _ (un.frzs b ob _ n)
          rw [p1] at p
          cases p
          exact p2
      have more : ∀ p ∈ cs, ∃ m : Array Value, s'.heap.get? p.2 = some { cls := .none, data := .fields m } := fun p hp => by
        obtain ⟨m, z⟩ := un.tbls p.2 #[] (tabs _ (List.mem_map_of_mem hp))
        exact ⟨_, hok' p.2 _ z⟩
      refine ⟨rfl, ⟨fun b o p => ?_, fun b o p => ?_⟩, os, bare⟩
      · by_cases hb : b ∈ cs.map (·.2)
        · obtain ⟨y, hy, e⟩ := List.mem_map.mp hb
          obtain ⟨m, hm⟩ := more y hy
          rw [emp b hb] at p
          cases p
          rw [← e]
          exact .inr (.inl ⟨((TT.code y hy).tab (TT.emp y hy)).isCodeTable, rfl, #[], m, rfl, by rw [Array.empty_append]; exact hm⟩)
        · exact .inl (stay b o hb p)
      · by_cases hb : b ∈ cs.map (·.2)
        · obtain ⟨y, hy, e⟩ := List.mem_map.mp hb
          obtain ⟨m, hm⟩ := more y hy
          rw [← e]
          exact ⟨_, hm⟩
        · exact ⟨o, stay b o hb p⟩
    | next => exact False.elim q
    | brk => exact False.elim q
    | cont => exact False.elim q
theorem law_runG (kin : K.In t.heap) (hns : t.heap.Ns mainGlobals mg) (hbl : t.heap.Ns builtinsNs mb) (hbb : ∀ x : Str, x ≠ "__name__" → mb x = bootBuiltins x) (lim : t.heap.NoLimit) (gens : t.gens = #[]) (TT : Tbls K t.heap mg cs) (hZ : ∀ p ∈ Z.tb, p.1 ∈ cs.map (·.2))
    (obj : t.heap.get? a = some { cls := .type "list", data := .seq us.toArray }) (hints : IntsAre us ns) (room : Room k callerA)
    (F : ∀ base : Heap, K.In base → base.Ns mainGlobals mg → (∀ p ∈ cs, LamX.TabB base mg p.1 p.2) → ∃ fd : FuncData, (∀ (s : Shared) (u : Value), K.In s.heap → BindsTo s fd ⟨[u], []⟩ [(x, u)]) ∧ FnG P w K mg base k fa fd [x] (spI K Z 1 c))
    (hz : ns.length ≤ sizeLine) (hc : ∃ S, c [.d (.scr ns)] [] = .ok (.d (.bl true)) S) :
    codeAny (model P w) callerA (.call (.ref fa) ⟨[.ref a], []⟩) (fun r s' => r = .ok (.ret (.bool true)) ∧ OldK t.heap s'.heap ∧ s'.os = t.os ∧ AllBare s'.gens) t := by
  have rv := vals_ints hints
  have len := hints.length
  have emp : ∀ b ∈ cs.map (·.2), t.heap.get? b = some { cls := .none, data := .fields #[] } := fun b hb => by
    obtain ⟨p, hp, e⟩ := List.mem_map.mp hb
    rw [← e]
    exact TT.emp p hp
  have aT : a ∉ cs.map (·.2) := fun z => by
    have q := emp a z
    rw [obj] at q
    have z' : Data.seq us.toArray _ = Data.fields #[] := congrArg Obj.data (Option.some.inj q)
    cases z'
  cases hk : K.lookup a with
  | some o =>
    have e := kin a o hk
    rw [obj] at e
    cases e
    obtain ⟨Hs, hHs⟩ : ∃ Hs : Hp, Hs = fun b => if b ∈ cs.map (·.2) then some (HO.tbl #[]) else none := ⟨_, rfl⟩
    have on : ∀ b ∈ cs.map (·.2), Hs b = some (.tbl #[]) := fun b hb => by rw [hHs]; exact if_pos hb
    have off : ∀ b, b ∉ cs.map (·.2) → Hs b = none := fun b hb => by rw [hHs]; exact if_neg hb
    refine law_one kin hns hbl hbb lim gens TT hZ obj room F hz hc Hs on (fun b => ?_) (.inr ⟨_, us.toArray, _, hk, rfl, rfl, rfl, by rw [List.size_toArray, len]; exact hz, by simpa using rv⟩) (fun b u z => ?_) (fun b z => ?_) (fun z => absurd (off a aT) z)
    · by_cases hb : b ∈ cs.map (·.2)
      · exact .inl hb
      · exact .inr (.inl (off b hb))
    · by_cases hb : b ∈ cs.map (·.2)
      · rw [on b hb] at z
        cases z
        exact emp b hb
      · rw [off b hb] at z
        cases z
    · by_cases hb : b ∈ cs.map (·.2)
      · exact .inr hb
      · exact absurd (off b hb) z
  | none =>
    obtain ⟨Hs, hHs⟩ : ∃ Hs : Hp, Hs = fun b => if b = a then some (HO.frz { cls := .type "list", data := .seq us.toArray } (.lst (ns.map V.int))) else if b ∈ cs.map (·.2) then some (HO.tbl #[]) else none := ⟨_, rfl⟩
    have at' : ∀ b, b = a → Hs b = some (.frz { cls := .type "list", data := .seq us.toArray } (.lst (ns.map V.int))) := fun b e => by
      rw [hHs]
      exact if_pos e
    have on : ∀ b ∈ cs.map (·.2), Hs b = some (.tbl #[]) := fun b hb => by
      rw [hHs]
      exact (if_neg (show ¬ b = a from fun z => aT (by rw [← z]; exact hb))).trans (if_pos hb)
    have off : ∀ b, b ≠ a → b ∉ cs.map (·.2) → Hs b = none := fun b e hb => by
      rw [hHs]
      exact (if_neg e).trans (if_neg hb)
    refine law_one kin hns hbl hbb lim gens TT hZ obj room F hz hc Hs on (fun b => ?_) (.inl (.inr ⟨_, at' a rfl⟩)) (fun b u z => ?_) (fun b z => ?_) (fun _ => hk)
    · by_cases q : b = a
      · exact .inr (.inr ⟨_, _, at' b q⟩)
      · by_cases hb : b ∈ cs.map (·.2)
        · exact .inl hb
        · exact .inr (.inl (off b q hb))
    · by_cases q : b = a
      · rw [at' b q] at z
        cases z
        subst q
        exact ⟨obj, by rw [List.length_map]; exact hz, us, _, rv, obj⟩
      · by_cases hb : b ∈ cs.map (·.2)
        · rw [on b hb] at z
          cases z
          exact emp b hb
        · rw [off b q hb] at z
          cases z
    · by_cases q : b = a
      · exact .inl q
      · by_cases hb : b ∈ cs.map (·.2)
        · exact .inr hb
        · exact absurd (off b q hb) z
end
/-- the goal that the head leaves -/
theorem walk_G {l : PySem.W.OpenLaw} {n k : Nat} {q : Program} {loose : List Str} {XP : (Str → Option Value) → Heap → Prop} {YP : World → Heap → Prop} {d : DefRec} {x : Str} (hn : l.most = some n) (hn2 : n ≤ sizeLine) (hdf : d.params.defaults = []) (hr : Room k callerA)
    (F : ∀ (w : World) (mg : Str → Option Value) (fa : Addr) (h : Heap), YP w h → h.Ns mainGlobals mg → (∃ (bm : Addr) (ob : Obj), mg "__builtins__" = some (.ref bm) ∧ bm ≠ builtinsNs ∧ h.get? bm = some ob ∧ ob.cls = .type "module" ∧ ob.dict = some builtinsNs ∧ ob.data = .plain) → mg d.name = some (.ref fa) →
      ∃ (K : PySem.W.Frag) (Z : Sx) (cs : List (Addr × Addr)) (c : List Vl → Store → Res Vl), K.In h ∧ Tbls K h mg cs ∧ (∀ p ∈ Z.tb, p.1 ∈ cs.map (·.2)) ∧
      (∀ ns : List Int, ns.length ≤ n → ∃ S, c [.d (.scr ns)] [] = .ok (.d (.bl true)) S) ∧ ∀ base : Heap, K.In base → base.Ns mainGlobals mg → (∀ p ∈ cs, LamX.TabB base mg p.1 p.2) → ∃ fd : FuncData, (∀ (s : Shared) (u : Value), K.In s.heap → BindsTo s fd ⟨[u], []⟩ [(x, u)]) ∧ FnG l.prog w K mg base k fa fd [x] (spI K Z 1 c)) :
    PySem.W.WalkO q loose XP YP l.row.toRowW d [] (fun f vs => PySem.call f vs) := by
  refine Att.attach_call hn hdf fun w s0 s1 mg mb fa o pm cd doc a us ns G Y ho hd hcd hmg obj hints len gens => ?_
  obtain ⟨K, Z, cs, c, kin, TT, hZ, hc, hF⟩ := F w mg fa _ Y G.T.g G.T.bmain hmg
  exact law_runG kin G.T.g G.T.b G.T.builtins G.T.nolimit gens TT hZ obj hints hr hF (Nat.le_trans len hn2) (hc ns len)
end Wk

set_option Elab.async false
set_option linter.all false
set_option maxRecDepth 100000
set_option maxHeartbeats 4000000
/-! WlB: one check over what the head leaves; what it tells. -/
namespace Wk
open PySem PySem.Spec L2
open PyProof.Rows hiding St

structure Hd where
  T : Tx
  /-- where the functions stand -/
  fp : List (Str × Option Str)
  /-- the classes' names -/
  cn : List Str
  /-- the exception classes' names -/
  xn : List Str
  /-- the program's file -/
  file : Str
  /-- the def that makes lambdas -/
  lam : Option Nat
  /-- the functions' names -/
  Ns : List (List Str)
/-- the code object and the table of the def that makes lambdas; the lambdas' name -/
def lamOf (hd : Hd) (K : PySem.W.Frag) : Option ((Addr × Addr) × Str) := match hd.lam with
  | none => none
  | some f => match hd.fp[f]? with
    | some p => (match K.lookup (He.fAd K p) with
      | some ⟨_, _, .func fd, _⟩ => some ((He.codeOf K p, He.tabOf K (He.codeOf K p)), lamNm fd.qualname fd.scope (He.fAd K p) fd.code)
      | _ => none)
    | none => none
def csOf (hd : Hd) (K : PySem.W.Frag) : List (Addr × Addr) := match lamOf hd K with
  | some p => [p.1]
  | none => []
def zOf (hd : Hd) (K : PySem.W.Frag) : Sx where
  xa := fun c => match hd.xn[c]? with
    | some x => He.ga K x
    | none => 0
  tb := match lamOf hd K with
    | some p => [(p.1.2, p.2)]
    | none => []
  ca := fun c => match hd.cn[c]? with
    | some x => He.ga K x
    | none => 0
  nm := fun i => match hd.T.nms[i]? with
    | some n => n
    | none => ⟨#[2000000 + i]⟩
  fa := fun f => match hd.fp[f]? with
    | some p => He.fAd K p
    | none => 0
  ps := fun f => match hd.T.ps[f]? with
    | some l => l
    | none => []
def isTupC (v : Value) : Bool := match v with
  | .type n => n == "tuple"
  | _ => false
mutual
def chkV (K : PySem.W.Frag) : D → Value → Bool
  | .non, .none => true
  | .bl b, .bool c => b == c
  | .int i, .int j _ => decide (i = j)
  | .str s, .str t _ => decide (s = t)
  | .tup ds, .ref a => (match K.lookup a with
    | some ⟨c, _, .seq its _, _⟩ => isTupC c && decide (its.size ≤ sizeLine) && chkVs K ds its.toList
    | _ => false)
  | _, _ => false
def chkVs (K : PySem.W.Frag) : List D → List Value → Bool
  | [], [] => true
  | d :: ds, v :: vs => chkV K d v && chkVs K ds vs
  | _, _ => false
end
section
variable {K : PySem.W.Frag} {Z : Sx}
theorem isTupC_is {v : Value} (h : isTupC v = true) : v = .type "tuple" := by
  unfold isTupC at h
  split at h
  · rename_i n
    have : n = "tuple" := by simpa using h
    rw [this]
  · cases h
mutual
theorem chkV_ok : ∀ (d : D) (u : Value), chkV K d u = true → ∃ v, RelV v u ∧ ∀ F, Rl K Z F d v
  | .non, u, h => by
    cases u with
    | none => exact ⟨.non, rfl, fun F => .non⟩
    | _ => exact (Bool.false_ne_true h).elim
  | .bl b, u, h => by
    cases u with
    | bool c =>
      have e : b = c := by
        have h : (b == c) = true := h
        simpa using h
      subst e
      exact ⟨.bl b, rfl, fun F => .bl b⟩
    | _ => exact (Bool.false_ne_true h).elim
  | .int i, u, h => by
    cases u with
    | int j t =>
      have e : i = j := of_decide_eq_true h
      subst e
      exact ⟨.int i, ⟨t, rfl⟩, fun F => .int i⟩
    | _ => exact (Bool.false_ne_true h).elim
  | .str i, u, h => by
    cases u with
    | str j t =>
      have e : i = j := of_decide_eq_true h
      subst e
      exact ⟨.str i, ⟨t, rfl⟩, fun F => .str i⟩
    | _ => exact (Bool.false_ne_true h).elim
  | .tup ds, u, h => by
    cases u with
    | ref a =>
      have h : (match K.lookup a with
        | some ⟨c, _, .seq its _, _⟩ => isTupC c && decide (its.size ≤ sizeLine) && chkVs K ds its.toList
        | _ => false) = true := h
      split at h
      · rename_i c dd its n sl e
        simp only [Bool.and_eq_true, decide_eq_true_eq] at h
        obtain ⟨⟨h1, h2⟩, h3⟩ := h
        obtain ⟨vs, r1, r2⟩ := chkVs_ok ds its.toList h3
        refine ⟨.ref a, rfl, fun F => .tup (.inr ⟨_, its, n, e, isTupC_is h1, rfl, h2, r1⟩) ?_ (r2 F)⟩
        rw [(r2 F).len, r1.length]
        simpa using h2
      · cases h
    | _ => exact (Bool.false_ne_true h).elim
  | .lst _, u, h => by cases u <;> exact (Bool.false_ne_true h).elim
  | .dct _, u, h => by cases u <;> exact (Bool.false_ne_true h).elim
  | .ins _ _, u, h => by cases u <;> exact (Bool.false_ne_true h).elim
  | .exn _ _, u, h => by cases u <;> exact (Bool.false_ne_true h).elim
  | .scr _, u, h => by cases u <;> exact (Bool.false_ne_true h).elim
theorem chkVs_ok : ∀ (ds : List D) (us : List Value), chkVs K ds us = true → ∃ vs, Vals vs us ∧ ∀ F, RlL K Z F ds vs
  | [], us, h => by
    cases us with
    | nil => exact ⟨[], .nil, fun F => .nil⟩
    | cons _ _ => exact (Bool.false_ne_true h).elim
  | d :: ds, us, h => by
    cases us with
    | nil => exact (Bool.false_ne_true h).elim
    | cons u us =>
      have h : (chkV K d u && chkVs K ds us) = true := h
      rw [Bool.and_eq_true] at h
      obtain ⟨v, r1, r2⟩ := chkV_ok d u h.1
      obtain ⟨vs, r3, r4⟩ := chkVs_ok ds us h.2
      exact ⟨v :: vs, .cons r1 r3, fun F => .cons (r2 F) (r4 F)⟩
end
end
def chkDfl (K : PySem.W.Frag) (v : Value) (ds : List D) (np : Nat) : Bool := match v with
  | .none => ds.isEmpty
  | .ref t => (match K.lookup t with
    | some ⟨_, _, .seq its _, _⟩ => decide (its.size ≤ np) && chkVs K ds its.toList
    | _ => false)
  | _ => false
/-- a def's object against its core -/
def chkF (hd : Hd) (K : PySem.W.Frag) (f : Nat) (d : FDef) : Bool := match K.lookup ((zOf hd K).fa f), hd.T.ps[f]?, hd.Ns[f]? with
  | some ⟨_, _, .func fd, _⟩, some ps, some N => (match fd.body with
    | .stmts body => (match d.star with
      | true => hearOk hd.T ⟨N, fd.scope, fun _ => true, false⟩ d body
      | false => okSs hd.T ⟨N, fd.scope, fun _ => true, decide (hd.lam = some f)⟩ d.body body)
    | _ => false) && decide (fd.globals = mainGlobals) && fd.closure.isEmpty && decide (fd.builtins = builtinsNs) && PySem.W.codeIn K fd.code fd.qualname &&
    (match fd.scope.kind with
    | .function => true
    | _ => false) && !fd.scope.isCoroutine && !fd.scope.isGenerator && decide N.Nodup && decide (N.take ps.length = ps) && (ps.all fun x => match fd.scope.names.lookup x with
      | some .local => true
      | some .cell => true
      | _ => false) && (fd.scope.names.all fun y => match y.2 with
      | .free => false
      | _ => true) && decide (N.length = d.slots) && PySem.W.keepIn K (.ref ((zOf hd K).fa f)) && fd.params.posonlyargs.isEmpty && decide (fd.params.args.map (·.arg) = ps) && fd.params.kwonlyargs.isEmpty && fd.params.vararg.isNone && fd.params.kwarg.isNone &&
    decide ps.Nodup && decide (ps.length = d.pars) && chkDfl K fd.defaults d.dfl ps.length && (hd.fp[f]?).isSome
  | _, _, _ => false
theorem chkF_ok {hd : Hd} {K : PySem.W.Frag} {f : Nat} {d : FDef} (h : chkF hd K f d = true) : DefOk hd.T (zOf hd K) (csOf hd K) K f d := by
  unfold chkF at h
  split at h
  · rename_i oc od fd osl ps N e1 e2 e3
    simp only [Bool.and_eq_true, decide_eq_true_eq, Bool.not_eq_true', List.all_eq_true] at h
    obtain ⟨⟨⟨⟨⟨⟨⟨⟨⟨⟨⟨⟨⟨⟨⟨⟨⟨⟨⟨⟨⟨⟨h1, h2⟩, h3⟩, h4⟩, h5⟩, h6⟩, h7⟩, h8⟩, h9⟩, h10⟩, h11⟩, h12⟩, h13⟩, h14⟩, h15⟩, h16⟩, h17⟩, h18⟩, h19⟩, h20⟩, h21⟩, h22⟩, h23⟩ := h
    obtain ⟨n1, n2, n3, n4, n5, n6, n7, n8, n9, n10, n11, n12, n13, n14, n15⟩ := fd
    dsimp only at h1 h2 h3 h4 h5 h6 h7 h8 h11 h12 h15 h16 h17 h18 h19 h22
    split at h1
    · rename_i body
      have h3 : n7 = [] := List.isEmpty_iff.mp h3
      subst h2 h3 h4
      have eps : (zOf hd K).ps f = ps := by
        show (match hd.T.ps[f]? with
          | some l => l
          | none => []) = ps
        rw [e2]
      have hk : n5.kind = .function := by
        split at h6
        · assumption
        · cases h6
      have hlm : decide (hd.lam = some f) = true → ∃ cd P, n13 = .ref cd ∧ (cd, P) ∈ csOf hd K ∧ (P, lamNm n2 n5 ((zOf hd K).fa f) n13) ∈ (zOf hd K).tb ∧ ∀ p ∈ (zOf hd K).tb, p.1 = P → p.2 = lamNm n2 n5 ((zOf hd K).fa f) n13 := fun z => by
        have z := of_decide_eq_true z
        obtain ⟨p, hp⟩ := Option.isSome_iff_exists.mp h23
        have efa : (zOf hd K).fa f = He.fAd K p := by
          show (match hd.fp[f]? with
            | some p => He.fAd K p
            | none => 0) = _
          rw [hp]
        obtain ⟨cd, ecd⟩ := He.codeIn_ref h5
        rw [efa] at e1
        have ec := He.codeOf_eq e1 ecd
        have el : lamOf hd K = some ((He.codeOf K p, He.tabOf K (He.codeOf K p)), lamNm n2 n5 (He.fAd K p) n13) := by
          unfold lamOf
          rw [z]
          dsimp only
          rw [hp]
          dsimp only
          rw [e1]
        have etb : (zOf hd K).tb = [(He.tabOf K (He.codeOf K p), lamNm n2 n5 (He.fAd K p) n13)] := by
          show (match lamOf hd K with
            | some p => [(p.1.2, p.2)]
            | none => []) = _
          rw [el]
        refine ⟨cd, He.tabOf K (He.codeOf K p), ecd, ?_, ?_, fun y hy _ => ?_⟩
        · unfold csOf
          rw [el, ← ec]
          exact List.mem_cons_self
        · rw [etb, efa]
          exact List.mem_cons_self
        · rw [etb] at hy
          have : y = (He.tabOf K (He.codeOf K p), lamNm n2 n5 (He.fAd K p) n13) := by simpa using hy
          rw [this, efa]
      refine ⟨decide (hd.lam = some f), n1, n2, n3, body, n5, n8, n9, n10, n11, n13, n14, oc, n12, od, osl, N, e1, h5, ⟨hk, h7, h8, h9, by rw [eps]; exact h10, fun x hx => ?_, fun y hy z => ?_⟩, h13, ⟨h14, List.isEmpty_iff.mp h15, by rw [eps]; exact h16, List.isEmpty_iff.mp h17, Option.isNone_iff_eq_none.mp h18, Option.isNone_iff_eq_none.mp h19, by rw [eps]; exact h20, by rw [eps]; exact h21, ?_⟩, fun z => by rw [z] at h1; exact h1, hlm, fun z => by rw [z] at h1; exact h1⟩
      · rw [eps] at hx
        have q := h11 x hx
        split at q
        · rename_i z
          exact .inl z
        · rename_i z
          exact .inr z
        · cases q
      · have q := h12 y hy
        rw [z] at q
        cases q
      · rw [eps]
        unfold chkDfl at h22
        split at h22
        · have : d.dfl = [] := List.isEmpty_iff.mp h22
          rw [this]
          exact ⟨[], none, [], Nat.zero_le _, rfl, .inl ⟨rfl, rfl⟩, .nil, fun F => .nil⟩
        · rename_i t
          split at h22
          · rename_i c dd its n sl e
            simp only [Bool.and_eq_true, decide_eq_true_eq] at h22
            obtain ⟨vs, r1, r2⟩ := chkVs_ok (K := K) (Z := zOf hd K) d.dfl its.toList h22.2
            exact ⟨its.toList, some its.toList.toArray, vs, by simpa using h22.1, by simp, .inr ⟨t, _, n, rfl, e, by simp, rfl⟩, r1, r2⟩
          · cases h22
        · cases h22
    · cases h1
  · cases h
end Wk

set_option Elab.async false
set_option linter.all false
set_option maxRecDepth 100000
set_option maxHeartbeats 4000000
/-! WlBa: exception classes, looked at. -/
namespace Wk
open PySem PySem.Spec L2
open PyProof.Rows hiding St

def eqOO (a b : Option (Option Value)) : Bool := decide (a = b)
theorem eqOO_ok {a b : Option (Option Value)} (h : eqOO a b = true) : a = b := of_decide_eq_true h
def eqOb (a b : Option Bool) : Bool := decide (a = b)
def tys : List Ty := [.non, .bl, .int, .str, .tup, .lst, .dct]
theorem all_tys (t : Ty) : t ∈ tys := by cases t <;> simp [tys]
def supCB (K : PySem.W.Frag) (C : Addr) : Bool := (match K.lookup C with
  | some ⟨.type "type", _, .cls cd, sl⟩ => (match cd.mro, sl.toList with
    | .ref C' :: bm, [_, _, _, _, some (.builtin n), _] => C' == C && n == "ValueError.__new__" && !cd.hasDel && cd.hasDict && PySem.HandSPX.refsVE bm && eqOO (PySem.W.alongIn K "__init__" (((Value.ref C :: bm).dropWhile (· != .ref C)).drop 1)) (some (some (.builtin "ValueError.__init__")))
    | _, _ => false)
  | _ => false) && eqOb (PySem.W.mroIn K C (.ref C)) (some true) && eqOO (PySem.W.findIn K (.ref C) "__setattr__") (some (some (.builtin "object.__setattr__"))) && eqOb (PySem.W.subIn K (.ref C) (.type "ValueError")) (some true) && eqOb (PySem.W.subIn K (.ref C) (.type "BaseException")) (some true) &&
  decide (PySem.W.typeIn K (.ref C) = some (.type "type")) && PySem.W.keepIn K (.ref C) && eqOO (PySem.W.nsIn K cStatics "thirdparty.any") (some none)
theorem supCB_ok {K : PySem.W.Frag} {C : Addr} (h : supCB K C = true) : SupC K C := by
  unfold supCB at h
  simp only [Bool.and_eq_true, decide_eq_true_eq] at h
  obtain ⟨⟨⟨⟨⟨⟨⟨h1, h2⟩, h3⟩, h4⟩, h5⟩, h6⟩, h7⟩, h8⟩ := h
  refine ⟨?_, of_decide_eq_true h3, of_decide_eq_true h4, of_decide_eq_true h5, h6, h7, of_decide_eq_true h8⟩
  split at h1
  · rename_i dd cd sl ho
    split at h1
    · rename_i C' bm k0 k1 k2 k3 n k5 hm hs
      simp only [Bool.and_eq_true, beq_iff_eq, Bool.not_eq_true'] at h1
      obtain ⟨⟨⟨⟨⟨rfl, rfl⟩, hdel⟩, hdi⟩, hve⟩, hal⟩ := h1
      obtain ⟨nm, bs, mro, ns, qn, hd, sn, sub, ab, col, del⟩ := cd
      dsimp only at hm hdel hdi
      subst hm hdel hdi
      obtain ⟨l⟩ := sl
      dsimp only at hs
      subst hs
      exact ⟨nm, qn, ns, bs, bm, sn, sub, ab, col, dd, k0, k1, k2, k3, k5, ho, hve, of_decide_eq_true hal, of_decide_eq_true h2⟩
    · cases h1
  · cases h1

def supFB (file : Str) (K : PySem.W.Frag) (C fI : Addr) (fs : List Str) : Bool := match K.lookup fI with
  | some ⟨_, _, .func fd, _⟩ => (match fd.body, fd.closure, fd.code, fd.params.args with
    | .stmts (.Expr (.Call (.Attribute (.Call (.Name s0 _) [] [] _) i0 ap) args [] p2) _ :: sts), [(c0, cc)], .ref cda, ar :: more =>
      decide (s0 = ("super" : Str)) && decide (i0 = ("__init__" : Str)) && decide (c0 = ("__class__" : Str)) && decide (fd.globals = mainGlobals) && decide (fd.builtins = builtinsNs) && (match fd.defaults with
      | .none => true
      | _ => false) && PySem.W.codeIn K (.ref cda) fd.qualname && (match K.lookup cda with
      | some ⟨_, _, .fields vs, _⟩ => (match (vs[2]? : Option Value) with
        | some (.str f _) => decide (f = file)
        | _ => false)
      | _ => false) && (match K.lookup cc with
      | some ⟨_, _, .cell (some (.ref C')), _⟩ => C' == C
      | _ => false) && fd.params.posonlyargs.isEmpty && fd.params.kwonlyargs.isEmpty && fd.params.vararg.isNone && fd.params.kwarg.isNone && decide (fd.scope.kind = .function) && !fd.scope.isCoroutine && !fd.scope.isGenerator &&
      decide (fd.scope.names.lookup ("super" : Str) = some .globalImplicit) && decide (fd.scope.names.lookup ("__class__" : Str) = some .free) && !(ar.arg == ("__debug__" : Str)) && (fd.scope.names.all fun y => !decide (y.2 = .cell)) && ((ar.arg :: more.map (·.arg)).all fun y => decide (fd.scope.names.lookup y = some .local)) &&
      decide (ar.arg :: more.map (·.arg)).Nodup && args.all (supArg fd.scope (more.map (·.arg))) && !args.isEmpty && decide (args.length + 1 < 30) && (ap.endLine == p2.line) && supAsgs fd.scope ar.arg fs (more.map (·.arg)) sts && decide fs.Nodup && decide (fs.length ≤ 100) && decide (fs.length = (more.map (·.arg)).length) && decide (1 ≤ fs.length) &&
      fs.all fun f => eqOO (PySem.W.findIn K (.ref C) f) (some none)
    | _, _, _, _ => false)
  | _ => false
theorem supFB_ok {pg : Program} {file : Str} {K : PySem.W.Frag} {C fI : Addr} {fs : List Str} (hf : ((pg.main.file : Str) == file) = true) (hs : (pg.main.scope.names.lookup ("super" : Str)).isSome = false) (h : supFB file K C fI fs = true) : SupF pg K C fI fs := by
  unfold supFB at h
  split at h
  · rename_i oc od fd osl e1
    split at h
    · rename_i s0 p0 p1 i0 ap args p2 p3 sts c0 cc cda ar more hb hcl hcd har
      simp only [Bool.and_eq_true, decide_eq_true_eq, Bool.not_eq_true', List.all_eq_true] at h
      obtain ⟨⟨⟨⟨⟨⟨⟨⟨⟨⟨⟨⟨⟨⟨⟨⟨⟨⟨⟨⟨⟨⟨⟨⟨⟨⟨⟨⟨⟨⟨⟨h1, h2⟩, h3⟩, h4⟩, h5⟩, h6⟩, h7⟩, h8⟩, h9⟩, h10⟩, h11⟩, h12⟩, h13⟩, h14⟩, h15⟩, h16⟩, h17⟩, h18⟩, h19⟩, h20⟩, h21⟩, h22⟩, h23⟩, h24⟩, h25⟩, h26⟩, h27⟩, h28⟩, h29⟩, h30⟩, h31⟩, h32⟩ := h
      subst h1 h2 h3
      split at h6
      case h_2 => cases h6
      rename_i hdv
      split at h8
      case h_2 => cases h8
      rename_i ccl cdd vs ccs e2
      split at h8
      case h_2 => cases h8
      rename_i f0 tf e3
      have h8 : f0 = file := of_decide_eq_true h8
      subst h8
      split at h9
      case h_2 => cases h9
      rename_i cl cld C' csl e4
      have h9 : C' = C := beq_iff_eq.mp h9
      subst h9
      obtain ⟨n1, n2, n3, n4, n5, n6, n7, n8, n9, n10, n11, n12, n13, n14, n15⟩ := fd
      dsimp only at *
      subst hb hcl hcd h4 h5 hdv
      have ep : n3.posonlyargs = [] := List.isEmpty_iff.mp h10
      refine ⟨⟨h29, h31⟩, n1, n2, ar.arg, more.map (·.arg), n3, n5, cc, cda, .none, n9, n10, n11, n14, oc, ccl, cl, n12, od, cdd, cld, osl, ccs, csl, vs, f0, tf, ar, args, p0, p1, ap, p2, p3, sts, e1, h7, e2, e3, hf, hs, e4, ?_, rfl, h14, h15, h16, h17, h18, h21 _ List.mem_cons_self, h19, fun y hy => ?_, fun y hy => h21 y hy, h22, List.all_eq_true.mpr h23, ?_, h25, h26, h27, h28, h29, h30, h31, fun f hf => of_decide_eq_true (h32 f hf), ep, ?_, List.isEmpty_iff.mp h11, Option.isNone_iff_eq_none.mp h12, Option.isNone_iff_eq_none.mp h13, rfl⟩
      · rw [ep, har]
        rfl
      · have q := h20 y hy
        simpa using q
      · intro z
        rw [z] at h24
        cases h24
      · rw [har]
        rfl
    · cases h
  · cases h
end Wk

set_option Elab.async false
set_option linter.all false
set_option maxRecDepth 100000
set_option maxHeartbeats 4000000
/-! WlC: classes, names; all of it. -/
namespace Wk
open PySem PySem.Spec L2
open PyProof.Rows hiding St

def chkC (hd : Hd) (K : PySem.W.Frag) (c : Nat) (d : CDef) : Bool :=
  let Z := zOf hd K
  PySem.W.plainGet K (Z.ca c) Str.empty && PySem.W.hasDictIn K (Z.ca c) && PySem.W.plainOver K (Z.ca c) && eqOO (PySem.W.findIn K (.ref (Z.ca c)) "__setattr__") (some (some (.builtin "object.__setattr__"))) &&
  (d.flds.all fun f => eqOO (PySem.W.findIn K (.ref (Z.ca c)) (Z.nm f)) (some none)) &&
  (match d.init with
  | some f => PySem.W.makesIn K (Z.ca c) && eqOO (PySem.W.findIn K (.ref (Z.ca c)) "__init__") (some (some (.ref (Z.fa f)))) && PySem.W.isFn K (.ref (Z.fa f)) && PySem.W.keepIn K (.ref (Z.ca c))
  | none => true) &&
  (d.meths.all fun p => eqOO (PySem.W.findIn K (.ref (Z.ca c)) (Z.nm p.1)) (some (some (.ref (Z.fa p.2)))) && PySem.W.isFn K (.ref (Z.fa p.2)) && PySem.W.keepIn K (.ref (Z.fa p.2))) &&
  (match d.eqf with
  | some f => eqOO (PySem.W.findIn K (.ref (Z.ca c)) "__eq__") (some (some (.ref (Z.fa f)))) && PySem.W.isFn K (.ref (Z.fa f)) && eqOO (PySem.W.findIn K (.ref (Z.ca c)) "__ne__") (some (some (.builtin "object.__ne__"))) && (match hd.T.P.fns[f]? with
    | some e => decide (e.pars = 2)
    | none => false)
  | none => true) &&
  eqOO (PySem.W.findIn K (.ref (Z.ca c)) "__class__") (some (some (.builtin "object.__class__"))) && eqOO (PySem.W.specialIn K (.builtin "object.__class__") "__get__") (some (some (.builtin "getset_descriptor.__get__"))) &&
  eqOb (PySem.W.takesIn K (.builtin "object.__class__")) (some true) && eqOb (PySem.W.mroIn K (Z.ca c) (.type "object")) (some true) &&
  (tys.all fun t => eqOb (PySem.W.kitOne K (.ref (Z.ca c)) (.type (tyS t))) (some false) && eqOb (PySem.W.kitOne K (.type (tyS t)) (.ref (Z.ca c))) (some false)) &&
  ((List.range hd.T.P.cls.length).all fun e => match hd.T.P.cls[e]? with
    | some d' => eqOb (PySem.W.kitOne K (.ref (Z.ca e)) (.ref (Z.ca c))) (some (d'.sup.contains c))
    | none => true)
theorem mem_of_look {α : Type} {m : Nat} {f : α} : ∀ {l : List (Nat × α)}, l.lookup m = some f → (m, f) ∈ l
  | p :: l, h => by
    obtain ⟨k, v⟩ := p
    rw [List.lookup_cons] at h
    by_cases e : m = k
    · subst e
      rw [beq_self_eq_true] at h
      cases h
      exact List.mem_cons_self
    · rw [beq_eq_false_iff_ne.mpr e] at h
      exact List.mem_cons_of_mem _ (mem_of_look h)
theorem chkC_ok {hd : Hd} {K : PySem.W.Frag} {c : Nat} {d : CDef} (h : chkC hd K c d = true) : ClsOk K (zOf hd K) hd.T.P c d ∧ ∀ f, d.eqf = some f → ∃ e, hd.T.P.fns[f]? = some e ∧ e.pars = 2 := by
  unfold chkC at h
  simp only [Bool.and_eq_true, List.all_eq_true] at h
  obtain ⟨⟨⟨⟨⟨⟨⟨⟨⟨⟨⟨⟨⟨h1, h2⟩, h3⟩, h4⟩, h5⟩, h6⟩, h7⟩, h8⟩, h9⟩, h10⟩, h11⟩, h12⟩, h13⟩, h14⟩ := h
  refine ⟨⟨⟨h1, h2, h3, of_decide_eq_true h4⟩, fun f hf => eqOO_ok (h5 f hf), fun f hf => ?_, fun m f hf => ?_, fun f hf => ?_, of_decide_eq_true h9, of_decide_eq_true h10, of_decide_eq_true h11, of_decide_eq_true h12,
    fun t => of_decide_eq_true (h13 t (all_tys t)).1, fun t => of_decide_eq_true (h13 t (all_tys t)).2, fun e d' he => ?_⟩, fun f hf => ?_⟩
  · rw [hf] at h6
    simp only [Bool.and_eq_true] at h6
    obtain ⟨⟨⟨q1, q2⟩, q3⟩, q4⟩ := h6
    exact ⟨q1, of_decide_eq_true q2, q3, q4⟩
  · obtain ⟨⟨q1, q2⟩, q3⟩ := h7 _ (mem_of_look hf)
    exact ⟨of_decide_eq_true q1, q2, q3⟩
  · rw [hf] at h8
    simp only [Bool.and_eq_true] at h8
    obtain ⟨⟨⟨q1, q2⟩, q3⟩, q4⟩ := h8
    exact ⟨of_decide_eq_true q1, q2, of_decide_eq_true q3⟩
  · have hl := (List.getElem?_eq_some_iff.mp he).1
    have q := h14 e (List.mem_range.mpr hl)
    rw [he] at q
    exact of_decide_eq_true q
  · rw [hf] at h8
    simp only [Bool.and_eq_true] at h8
    have q := h8.2
    split at q
    · rename_i e he
      exact ⟨e, he, of_decide_eq_true q⟩
    · cases q
/-- the address of C.__init__ -/
def iniOf (K : PySem.W.Frag) (C : Addr) : Addr := match PySem.W.findIn K (.ref C) "__init__" with
  | some (some (.ref a)) => a
  | _ => 0
def chkX (hd : Hd) (K : PySem.W.Frag) (c : Nat) (d : XDef) : Bool :=
  let Z := zOf hd K
  (PySem.W.clsIn K (Z.xa c)).isSome && eqOO (PySem.W.findIn K (.ref (Z.xa c)) "__getattribute__") (some (some (.builtin "BaseException.__getattribute__"))) && eqOO (PySem.W.findIn K (.ref (Z.xa c)) "__getattr__") (some none) && eqOb (PySem.W.subIn K (.ref (Z.xa c)) (.type "BaseException")) (some true) && PySem.W.hasDictIn K (Z.xa c) &&
  eqOO (PySem.W.findIn K (.ref (Z.xa c)) "__class__") (some (some (.builtin "object.__class__"))) && eqOO (PySem.W.specialIn K (.builtin "object.__class__") "__get__") (some (some (.builtin "getset_descriptor.__get__"))) && eqOb (PySem.W.takesIn K (.builtin "object.__class__")) (some true) && eqOb (PySem.W.mroIn K (Z.xa c) (.type "object")) (some true) &&
  (d.flds.all fun f => eqOO (PySem.W.findIn K (.ref (Z.xa c)) (Z.nm f)) (some none)) &&
  (tys.all fun t => eqOb (PySem.W.kitOne K (.ref (Z.xa c)) (.type (tyS t))) (some false) && eqOb (PySem.W.kitOne K (.type (tyS t)) (.ref (Z.xa c))) (some false)) &&
  ((List.range hd.T.P.exc.length).all fun e => match hd.T.P.exc[e]? with
    | some d' => eqOb (PySem.W.kitOne K (.ref (Z.xa e)) (.ref (Z.xa c))) (some (d'.sup.contains c)) && eqOb (PySem.W.exmOne K (.ref (Z.xa e)) (.ref (Z.xa c))) (some (d'.sup.contains c))
    | none => true) &&
  ((List.range hd.T.P.cls.length).all fun e => match hd.T.P.cls[e]? with
    | some _ => eqOb (PySem.W.kitOne K (.ref (Z.ca e)) (.ref (Z.xa c))) (some false) && eqOb (PySem.W.kitOne K (.ref (Z.xa c)) (.ref (Z.ca e))) (some false)
    | none => true) &&
  (d.flds.isEmpty || (supCB K (Z.xa c) && eqOO (PySem.W.findIn K (.ref (Z.xa c)) "__init__") (some (some (.ref (iniOf K (Z.xa c))))) && decide (PySem.W.typeIn K (.ref (iniOf K (Z.xa c))) = some (.type "function")) && supFB hd.file K (Z.xa c) (iniOf K (Z.xa c)) (d.flds.map Z.nm)))
theorem chkX_ok {pg : Program} {hd : Hd} {K : PySem.W.Frag} {c : Nat} {d : XDef} (hf : ((pg.main.file : Str) == hd.file) = true) (hs : (pg.main.scope.names.lookup ("super" : Str)).isSome = false) (h : chkX hd K c d = true) : XOk K (zOf hd K) hd.T.P c d ∧ (d.flds ≠ [] → XRs pg K (zOf hd K) c d) := by
  unfold chkX at h
  simp only [Bool.and_eq_true, List.all_eq_true] at h
  obtain ⟨⟨⟨⟨⟨⟨⟨⟨⟨⟨⟨⟨⟨h1, h2⟩, h3⟩, h4⟩, h5⟩, h6⟩, h7⟩, h8⟩, h9⟩, h10⟩, h11⟩, h12⟩, h13⟩, h14⟩ := h
  have at_ : ∀ (e : Nat) d', hd.T.P.exc[e]? = some d' → eqOb (PySem.W.kitOne K (.ref ((zOf hd K).xa e)) (.ref ((zOf hd K).xa c))) (some (d'.sup.contains c)) = true ∧ eqOb (PySem.W.exmOne K (.ref ((zOf hd K).xa e)) (.ref ((zOf hd K).xa c))) (some (d'.sup.contains c)) = true := fun e d' he => by
    have q := h12 e (List.mem_range.mpr (List.getElem?_eq_some_iff.mp he).1)
    rw [he] at q
    simpa only [Bool.and_eq_true] using q
  refine ⟨⟨⟨h1, of_decide_eq_true h2, of_decide_eq_true h3, of_decide_eq_true h4, h5, of_decide_eq_true h6, of_decide_eq_true h7, of_decide_eq_true h8, of_decide_eq_true h9⟩, fun f hf => of_decide_eq_true (h10 f hf), fun t => of_decide_eq_true (h11 t (all_tys t)).1, fun t => of_decide_eq_true (h11 t (all_tys t)).2,
    fun e d' he => of_decide_eq_true (at_ e d' he).1, fun e d' he => ?_, fun e d' he => of_decide_eq_true (at_ e d' he).2⟩, fun hne => ?_⟩
  · have q := h13 e (List.mem_range.mpr (List.getElem?_eq_some_iff.mp he).1)
    rw [he] at q
    have q : (eqOb (PySem.W.kitOne K (.ref ((zOf hd K).ca e)) (.ref ((zOf hd K).xa c))) (some false) && eqOb (PySem.W.kitOne K (.ref ((zOf hd K).xa c)) (.ref ((zOf hd K).ca e))) (some false)) = true := q
    rw [Bool.and_eq_true] at q
    exact ⟨of_decide_eq_true q.1, of_decide_eq_true q.2⟩
  · rcases Bool.or_eq_true_iff.mp h14 with z | z
    · exact absurd (List.isEmpty_iff.mp z) hne
    · simp only [Bool.and_eq_true] at z
      obtain ⟨⟨⟨z1, z2⟩, z3⟩, z4⟩ := z
      exact ⟨supCB_ok z1, _, of_decide_eq_true z2, of_decide_eq_true z3, supFB_ok hf hs z4⟩
def isRefN (v : Option (Option Value)) (a : Addr) : Bool := eqOO v (some (some (.ref a)))
def chkN (hd : Hd) (K : PySem.W.Frag) (p : Str × Gk) : Bool := match p.2 with
  | .fn f => isRefN (PySem.W.nsIn K mainGlobals p.1) ((zOf hd K).fa f)
  | .cls c => isRefN (PySem.W.nsIn K mainGlobals p.1) ((zOf hd K).ca c)
  | .exc c => isRefN (PySem.W.nsIn K mainGlobals p.1) ((zOf hd K).xa c)
  | .con j => (match PySem.W.nsIn K mainGlobals p.1, hd.T.P.cons[j]? with
    | some (some v), some d => chkV K d v
    | _, _ => false)
def smallS (s : Str) : Bool := s.cps.toList.all fun n => decide (n < 2000000)
def chk (hd : Hd) (K : PySem.W.Frag) : Bool :=
  decide hd.T.nms.Nodup && hd.T.nms.all smallS && (hd.T.gl.all fun p => chkN hd K p) && (hd.T.bl.all fun x => eqOO (PySem.W.nsIn K mainGlobals x) (some none)) &&
  ((List.range hd.T.P.cls.length).all fun c => match hd.T.P.cls[c]? with
    | some d => chkC hd K c d
    | none => true) &&
  ((List.range hd.T.P.exc.length).all fun c => match hd.T.P.exc[c]? with
    | some d => chkX hd K c d
    | none => true) &&
  ((List.range hd.T.P.fns.length).all fun f => match hd.T.P.fns[f]? with
    | some d => chkF hd K f d
    | none => true)
theorem nm_inj {hd : Hd} {K : PySem.W.Frag} (h1 : hd.T.nms.Nodup) (h2 : hd.T.nms.all smallS = true) : ∀ a b, (zOf hd K).nm a = (zOf hd K).nm b → a = b := by
  have big : ∀ i, smallS (⟨#[2000000 + i]⟩ : Str) = false := fun i => by
    unfold smallS
    simp
  have sm : ∀ (i : Nat) n, hd.T.nms[i]? = some n → smallS n = true := fun i n e => List.all_eq_true.mp h2 n (List.mem_of_getElem? e)
  intro a b e
  have e : (match hd.T.nms[a]? with
    | some n => n
    | none => (⟨#[2000000 + a]⟩ : Str)) = (match hd.T.nms[b]? with
    | some n => n
    | none => (⟨#[2000000 + b]⟩ : Str)) := e
  cases ha : hd.T.nms[a]? with
  | none =>
    cases hb : hd.T.nms[b]? with
    | none =>
      rw [ha, hb] at e
      have e : (⟨#[2000000 + a]⟩ : Str) = ⟨#[2000000 + b]⟩ := e
      injection e with e
      simp at e
      exact e
    | some n =>
      rw [ha, hb] at e
      have e : (⟨#[2000000 + a]⟩ : Str) = n := e
      have q := sm b n hb
      rw [← e, big] at q
      cases q
  | some n =>
    cases hb : hd.T.nms[b]? with
    | none =>
      rw [ha, hb] at e
      have e : n = (⟨#[2000000 + b]⟩ : Str) := e
      have q := sm a n ha
      rw [e, big] at q
      cases q
    | some m =>
      rw [ha, hb] at e
      have e : n = m := e
      subst e
      exact nodup_ix h1 ha hb
theorem chk_ok {pg : Program} {hd : Hd} {K : PySem.W.Frag} {h : Heap} {mg : Str → Option Value} (hf : ((pg.main.file : Str) == hd.file) = true) (hs : (pg.main.scope.names.lookup ("super" : Str)).isSome = false) (X : K.In h) (G : h.Ns mainGlobals mg) (c : chk hd K = true) : Gs hd.T (zOf hd K) pg K mg ∧ ∀ (f : Nat) d, hd.T.P.fns[f]? = some d → DefOk hd.T (zOf hd K) (csOf hd K) K f d := by
  unfold chk at c
  simp only [Bool.and_eq_true, decide_eq_true_eq] at c
  obtain ⟨⟨⟨⟨⟨⟨c1, c2⟩, c3⟩, c4⟩, c5⟩, c7⟩, c6⟩ := c
  have exc : ∀ (c : Nat) d, hd.T.P.exc[c]? = some d → chkX hd K c d = true := fun c d e => by
    have q := List.all_eq_true.mp c7 c (List.mem_range.mpr (List.getElem?_eq_some_iff.mp e).1)
    rw [e] at q
    exact q
  have cls : ∀ (c : Nat) d, hd.T.P.cls[c]? = some d → chkC hd K c d = true := fun c d e => by
    have q := List.all_eq_true.mp c5 c (List.mem_range.mpr (List.getElem?_eq_some_iff.mp e).1)
    rw [e] at q
    exact q
  have gl : ∀ x g, hd.T.gl.lookup x = some g → chkN hd K (x, g) = true := fun x g e => List.all_eq_true.mp c3 _ (mem_of_lookS e)
  refine ⟨⟨nm_inj c1 c2, fun i n e => ?_, fun f l e => ?_, fun c d e => (chkC_ok (cls c d e)).1, fun c d e => (chkX_ok hf hs (exc c d e)).1, fun c d e => (chkX_ok hf hs (exc c d e)).2, fun c d f e ef => (chkC_ok (cls c d e)).2 f ef, fun x f e => ?_, fun x c e => ?_, fun x c e => ?_, fun x j e => ?_, fun x hx => ?_⟩, fun f d e => ?_⟩
  · show (match hd.T.nms[i]? with
      | some n => n
      | none => (⟨#[2000000 + i]⟩ : Str)) = n
    rw [e]
  · show (match hd.T.ps[f]? with
      | some l => l
      | none => []) = l
    rw [e]
  · exact PySem.W.mg_of X G (of_decide_eq_true (gl x _ e))
  · exact PySem.W.mg_of X G (of_decide_eq_true (gl x _ e))
  · exact PySem.W.mg_of X G (of_decide_eq_true (gl x _ e))
  · have q := gl x _ e
    unfold chkN at q
    dsimp only at q
    split at q
    · rename_i v d h1 h2
      obtain ⟨w, r1, r2⟩ := chkV_ok (K := K) (Z := zOf hd K) d v q
      exact ⟨d, w, v, h2, PySem.W.mg_of X G h1, r1, r2⟩
    · cases q
  · exact PySem.W.mg_none_of X G (of_decide_eq_true (List.all_eq_true.mp c4 x hx))
  · have q := List.all_eq_true.mp c6 f (List.mem_range.mpr (List.getElem?_eq_some_iff.mp e).1)
    rw [e] at q
    exact chkF_ok q
/-! ### the Hook -/
/-- the table of the def that makes lambdas: empty, not in K -/
def tabB (g : Addr → Option Obj) (hd : Hd) (K : PySem.W.Frag) : Bool := (csOf hd K).all fun p => PySem.W.codeHdIn K p.1 p.2 && (match g p.2 with
  | some o => He.emptyTab o
  | none => false)
structure TabOk (h : Heap) (K : PySem.W.Frag) (cs : List (Addr × Addr)) : Prop where
  hd : ∀ p ∈ cs, PySem.W.codeHdIn K p.1 p.2 = true
  out : ∀ p ∈ cs, K.lookup p.2 = none
  emp : ∀ p ∈ cs, h.get? p.2 = some { cls := .none, data := .fields #[] }
theorem tabB_ok {hd : Hd} {h : Heap} {as : List Addr} (c : tabB h.get? hd (He.frT h.get? as) = true) : TabOk h (He.frT h.get? as) (csOf hd (He.frT h.get? as)) := by
  have key : ∀ p ∈ csOf hd (He.frT h.get? as), PySem.W.codeHdIn (He.frT h.get? as) p.1 p.2 = true ∧ ∃ o, h.get? p.2 = some o ∧ He.emptyTab o = true := fun p hp => by
    have q := List.all_eq_true.mp c p hp
    rw [Bool.and_eq_true] at q
    refine ⟨q.1, ?_⟩
    have q2 := q.2
    split at q2
    · rename_i o e
      exact ⟨o, e, q2⟩
    · cases q2
  refine ⟨fun p hp => (key p hp).1, fun p hp => ?_, fun p hp => ?_⟩
  · obtain ⟨_, o, e, z⟩ := key p hp
    exact He.frT_none e z
  · obtain ⟨_, o, e, z⟩ := key p hp
    rw [e, He.emptyTab_eq z]
/-- what the functions among them have captured -/
def cellsOf (g : Addr → Option Obj) (as : List Addr) : List Addr := as.flatMap fun a => match g a with
  | some ⟨_, _, .func fd, _⟩ => fd.closure.map (·.2)
  | _ => []
def seenAs (g : Addr → Option Obj) (as : List Addr) : List Addr := cStatics :: (as ++ cellsOf g as)
def seeK (n : Nat) (hd : Hd) (g : Addr → Option Obj) : Bool := let K := He.frT g (seenAs g (He.asG g n))
  chk hd K && tabB g hd K
def hookK (n : Nat) (hd : Hd) : PySem.W.Hook where
  α := Bool
  obs := fun s => seeK n hd s.heap.get?
  val := fun _ => true
  says := fun _ h => ∃ K : PySem.W.Frag, K.In h ∧ chk hd K = true ∧ TabOk h K (csOf hd K)
  of := fun _ _ e => by
    have e := Bool.and_eq_true_iff.mp e
    exact ⟨_, He.frT_in, e.1, tabB_ok e.2⟩
  keeps := fun _ _ _ ⟨K, hK, c, t⟩ k => ⟨K, PySem.W.Frag.In.keeps hK k, c, t.hd, t.out, fun p hp => k _ _ (t.emp p hp)⟩
def obK (n : Nat) (hd : Hd) (s : PySem.W.SharedT) : Bool := seeK n hd (HandSHeadRun.getT s)
theorem obK_eq {n : Nat} {hd : Hd} (s : PySem.W.SharedT) : obK n hd s = (hookK n hd).obs s.abs := by
  have e : HandSHeadRun.getT s = s.abs.heap.get? := funext (HandSHeadRun.getT_eq s)
  unfold obK
  rw [e]
  rfl
/-- the law's end: fl, the law's number; the interpreter says True -/
theorem law_end {l : PySem.W.OpenLaw} {hd : Hd} {n : Nat} {q : Program} {loose : List Str} {XP : (Str → Option Value) → Heap → Prop} {d : DefRec} {x : Str} {fl fuel : Nat} {fd : FDef} (hn : l.most = some 63) (hdf : d.params.defaults = []) (hr : Room (6 * fuel) callerA)
    (hfile : ((l.prog.main.file : Str) == hd.file) = true) (hsup : (l.prog.main.scope.names.lookup ("super" : Str)).isSome = false) (hgl : hd.T.gl.lookup d.name = some (.fn fl)) (hf : hd.T.P.fns[fl]? = some fd) (hp : fd.pars = 1) (hps : hd.T.ps[fl]? = some [x])
    (law : ∀ ns : List Int, ns.length ≤ 63 → ∃ S, callN hd.T.P fuel fl none [.d (.scr ns)] [] = .ok (.d (.bl true)) S) : PySem.W.WalkO q loose XP (hookK n hd).says l.row.toRowW d [] (fun f vs => PySem.call f vs) := by
  refine walk_G (k := 6 * fuel) (x := x) hn (by decide) hdf hr fun w mg fa h Y G bm hmg => ?_
  obtain ⟨K, kin, c, t⟩ := Y
  obtain ⟨g, D⟩ := chk_ok (pg := l.prog) hfile hsup kin G c
  have e : fa = (zOf hd K).fa fl := by
    have q := g.gf _ _ hgl
    rw [hmg] at q
    cases q
    rfl
  subst e
  have eps : (zOf hd K).ps fl = [x] := g.ps fl [x] hps
  refine ⟨K, zOf hd K, csOf hd K, callN hd.T.P fuel fl none, kin, ⟨t.emp, t.out, fun p hp => PySem.W.codeHd_of_K kin (t.hd p hp), fun _ => bm⟩, fun p hp => ?_, law, fun base kb nb TB => ?_⟩
  · have hp : p ∈ (match lamOf hd K with
      | some p => [(p.1.2, p.2)]
      | none => []) := hp
    unfold csOf
    split at hp
    · rename_i y e
      try rw [e]
      have : p = (y.1.2, y.2) := by simpa using hp
      rw [this]
      exact List.mem_cons_self
    · exact absurd hp List.not_mem_nil
  obtain ⟨g', D'⟩ := chk_ok (pg := l.prog) hfile hsup kb nb c
  obtain ⟨fo, FS, FG⟩ := (defs_all (P := l.prog) (w := w) (base := base) g' TB D' fuel).fn fl fd hf
  rw [eps] at FG FS
  rw [hp] at FG
  refine ⟨fo, fun s u ks => ?_, FG⟩
  obtain ⟨its, r, dvs, h1, h2, h3, _, _⟩ := FS.dfl
  exact bind_arr (us := [u]) (ks := []) (ws := [u]) FS.p1 FS.p2 FS.p3 FS.p4 FS.p5 FS.nd (Nat.le_refl _) (fun q hq => absurd hq List.not_mem_nil) .nil h1 h2 rfl ks h3
end Wk

set_option Elab.async false
set_option linter.all false
set_option maxRecDepth 100000
set_option maxHeartbeats 1000000
/-! WmA: how the plain law is computed. -/
namespace Wk
open PySem hiding Env

@[simp] theorem bind_ok {α β : Type} (a : α) (S : Store) (k : α → Store → Res β) : (Res.ok a S).bind k = k a S := rfl
@[simp] theorem st_ok {α : Type} (a : α) (S : Store) (ρ : Env) (k : α → Store → SR) : (Res.ok a S).st ρ k = k a S := rfl
@[simp] theorem sbind_nx (ρ : Env) (S : Store) (k : Env → Store → SR) : (SR.nx ρ S).bind k = k ρ S := rfl
@[simp] theorem sbind_ret (v : Vl) (S : Store) (k : Env → Store → SR) : (SR.ret v S).bind k = .ret v S := rfl
@[simp] theorem nox_ok {α : Type} (a : α) (S : Store) : (Res.ok a S).nox = .ok a S := rfl
@[simp] theorem ofO_some {α : Type} (a : α) (S : Store) : ofO (some a) S = .ok a S := rfl
@[simp] theorem frz_d (x : D) (S : Store) : frz (.d x) S = .ok x S := rfl
theorem lenOf_f {fd : FDef} (h : fd.star = false) : lenOf fd = fd.pars := by unfold lenOf; rw [h]
theorem envOf_f {fd : FDef} {us : List Vl} (h : fd.star = false) : envOf fd us = us.map some ++ List.replicate (fd.slots - fd.pars) none := by unfold envOf; rw [h]
theorem lenOf_t {fd : FDef} (h : fd.star = true) : lenOf fd = 2 := by unfold lenOf; rw [h]
theorem envOf_t {fd : FDef} {us : List Vl} (h : fd.star = true) : envOf fd us = none :: (us.map some ++ List.replicate (fd.slots - 3) none) := by unfold envOf; rw [h]
/-- a function that hands out data, the store as it was -/
theorem call_d {P : Pg} {n f : Nat} {th : Th} {us : List Vl} {S S1 : Store} {fd : FDef} {x : D} (h1 : P.fns[f]? = some fd) (h2 : us.length = fd.pars) (hk : fd.keep = false) (hs : fd.star = false) (h3 : exL P (callN P n) th fd.body (us.map some ++ List.replicate (fd.slots - fd.pars) none) S = .ret (.d x) S1) :
    callN P (n + 1) f th us S = .ok (.d x) (S1.take S.length) := by
  show callF P (callN P n) f th us S = _
  unfold callF
  rw [h1]
  dsimp only
  rw [lenOf_f hs, envOf_f hs, if_pos h2, h3, hk]
  rfl
/-- .. None -/
theorem call_n {P : Pg} {n f : Nat} {th : Th} {us : List Vl} {S S1 : Store} {fd : FDef} {ρ1 : Env} (h1 : P.fns[f]? = some fd) (h2 : us.length = fd.pars) (hk : fd.keep = false) (hs : fd.star = false) (h3 : exL P (callN P n) th fd.body (us.map some ++ List.replicate (fd.slots - fd.pars) none) S = .nx ρ1 S1) :
    callN P (n + 1) f th us S = .ok (.d .non) (S1.take S.length) := by
  show callF P (callN P n) f th us S = _
  unfold callF
  rw [h1]
  dsimp only
  rw [lenOf_f hs, envOf_f hs, if_pos h2, h3, hk]
  rfl
theorem take_all {S : Store} : S.take S.length = S := List.take_length
section
variable {P : Pg} {cl : Cl} {th : Th} {α : Type}
/-- a loop that puts one thing a turn -/
theorem loop_map {f : D → List D → Store → Res (List D)} {e g : α → D} {S : Store} : ∀ {xs : List α} {acc : List D}, (∀ x ∈ xs, ∀ a : List D, a.length < sizeLine → f (e x) a S = .ok (a ++ [g x]) S) → acc.length + xs.length ≤ sizeLine → loopD f (xs.map e) acc S = .ok (acc ++ xs.map g) S
  | [], acc, _, _ => by
    show Res.ok acc S = _
    rw [List.map_nil, List.append_nil]
  | x :: xs, acc, h, hz => by
    rw [List.length_cons] at hz
    show (f (e x) acc S).bind _ = _
    rw [h x List.mem_cons_self acc (by omega)]
    show loopD f (xs.map e) (acc ++ [g x]) S = _
    rw [loop_map (fun y hy => h y (List.mem_cons_of_mem _ hy)) (by rw [List.length_append, List.length_singleton]; omega), List.append_assoc]
    rfl
/-- [elt for p in xs], the store as it was -/
theorem ev_map {own : List Nat} {k : ItK} {as : List CE} {p : Pt} {elt : CE} {ρ : Env} {S S0 : Store} {xs : List α} (e g : α → D) (hi : itR k (evL P cl th as ρ S0) = .ok (xs.map e) S)
    (h : ∀ x ∈ xs, (match setPt p (e x) (wipe ρ own) with
      | some ρ1 => evE P cl th elt ρ1 S
      | none => .bad) = .ok (.d (g x)) S) (hz : xs.length ≤ sizeLine) : evE P cl th (.comp own k as p none elt) ρ S0 = .ok (.d (.lst (xs.map g))) S := by
  simp only [evE]
  rw [hi, bind_ok, loop_map (g := g) (fun x hx a ha => ?_) (by simpa using hz)]
  · rfl
  · have q := h x hx
    cases hs : setPt p (e x) (wipe ρ own) with
    | none =>
      rw [hs] at q
      cases q
    | some ρ1 =>
      rw [hs] at q
      dsimp only at q
      unfold compT
      simp only [evC]
      show ((Res.nox (evE P cl th elt ρ1 S)).bind fun v S => (frz v S).bind fun y S => if a.length < sizeLine then Res.ok (a ++ [y]) S else .bad) = _
      rw [q]
      show (if a.length < sizeLine then Res.ok (a ++ [g x]) S else .bad) = _
      rw [if_pos ha]
end
/-! ### rules, one a case -/
section
variable {P : Pg} {cl : Cl} {th : Th} {ρ ρ1 : Env} {S S1 : Store}
theorem ex_nx {s : CS} {ss : List CS} {r : SR} (h : exS P cl th s ρ S = .nx ρ1 S1) (k : exL P cl th ss ρ1 S1 = r) : exL P cl th (s :: ss) ρ S = r := by
  simp only [exL]
  rw [h]
  exact k
theorem ex_ret {s : CS} {ss : List CS} {v : Vl} (h : exS P cl th s ρ S = .ret v S1) : exL P cl th (s :: ss) ρ S = .ret v S1 := by
  simp only [exL]
  rw [h]
  rfl
theorem ex_nil : exL P cl th [] ρ S = .nx ρ S := by simp only [exL]
theorem ex_if {c : CE} {a b : List CS} {t : Bool} {r : SR} (h : tst P (evE P cl th c ρ S) = .ok t S1) (k : exL P cl th (if t then a else b) ρ S1 = r) : exS P cl th (.iff c a b) ρ S = r := by
  simp only [exS]
  rw [h]
  cases t <;> exact k
theorem ex_asg {i : Nat} {e : CE} {v : Vl} (h : evE P cl th e ρ S = .ok v S1) : exS P cl th (.asg (.nm i) e) ρ S = .nx (ρ.set i (some v)) S1 := by
  simp only [exS]
  rw [h]
  rfl
theorem ex_rets {e : CE} {v : Vl} (h : evE P cl th e ρ S = .ok v S1) : exS P cl th (.ret e) ρ S = .ret v S1 := by
  simp only [exS]
  rw [h]
  rfl
theorem ev_var {i : Nat} {v : Vl} (h : ρ[i]? = some (some v)) : evE P cl th (.var i) ρ S = .ok v S := by
  simp only [evE]
  rw [h]
theorem ev_cst {x : D} : evE P cl th (.cst x) ρ S = .ok (.d x) S := by simp only [evE]
theorem ev_bin {o : Op} {a b : CE} {u v : Vl} {x y z : D} {S2 : Store} (h1 : evE P cl th a ρ S = .ok u S1) (h2 : evE P cl th b ρ S1 = .ok v S2) (h3 : vw S2 u = some x) (h4 : vw S2 v = some y) (h5 : binop o x y = some z) : evE P cl th (.bin o a b) ρ S = .ok (.d z) S2 := by
  simp only [evE]
  rw [h1, bind_ok, h2, bind_ok, h3, h4]
  dsimp only
  rw [h5]
  rfl
theorem ev_ix {a b : CE} {u v : Vl} {x y z : D} {S2 : Store} (h1 : evE P cl th a ρ S = .ok u S1) (h2 : evE P cl th b ρ S1 = .ok v S2) (h3 : vw S2 u = some x) (h4 : vw S2 v = some y) (h5 : ixop x y = some z) : evE P cl th (.ix a b) ρ S = .ok (.d z) S2 := by
  simp only [evE]
  rw [h1, bind_ok, h2, bind_ok, h3, h4]
  dsimp only
  rw [h5]
  rfl
theorem ev_bi1 {b : Bi} {a : CE} {u : Vl} {x z : D} (h1 : evE P cl th a ρ S = .ok u S1) (h3 : vw S1 u = some x) (h5 : biop P b [x] = some z) : evE P cl th (.bi b [a]) ρ S = .ok (.d z) S1 := by
  simp only [evE, evL]
  rw [h1, bind_ok, bind_ok, bind_ok]
  unfold vwL
  rw [h3]
  simp only [vwL]
  rw [h5]
  rfl
theorem cmp_d {o : Co} {x y : Vl} {a b : D} {r : Bool} (h1 : vw S x = some a) (h2 : vw S y = some b) (h3 : ownEq P o a = none) (h4 : cmpop o a b = some r) : cmpM P cl o x y S = .ok r S := by
  unfold cmpM
  rw [h1, h2]
  dsimp only
  rw [h3]
  dsimp only
  rw [h4]
  rfl
theorem ev_cmp {o : Co} {a b : CE} {u v : Vl} {r : Bool} {S2 S3 : Store} (h1 : evE P cl th a ρ S = .ok u S1) (h2 : evE P cl th b ρ S1 = .ok v S2) (h3 : cmpM P cl o u v S2 = .ok r S3) : evE P cl th (.cmp o a b) ρ S = .ok (.d (.bl r)) S3 := by
  simp only [evE]
  rw [h1, bind_ok, h2, bind_ok, h3]
  rfl
theorem tst_bl {r : Res Vl} {t : Bool} (h : r = .ok (.d (.bl t)) S) : tst P r = .ok t S := by
  rw [h]
  rfl
end
end Wk

set_option Elab.async false
set_option linter.all false
set_option maxRecDepth 100000
set_option maxHeartbeats 1000000
/-! WmB: the pen. -/
namespace Wk
open PySem hiding Env
/-- the pen stands at p; at most b numbers are drawn -/
def Pen (ns : List Int) (p : Nat) (S : Store) (b : Int) : Prop := ∃ i r : Int, S[p]? = some (.lst [.lst (ns.map .int), .int i, .int r]) ∧ 0 ≤ i ∧ i ≤ b ∧ 0 ≤ r
/-- S but for the pen -/
def PenTo (ns : List Int) (p : Nat) (S S' : Store) (b : Int) : Prop := ∃ i r : Int, S' = S.set p (.lst [.lst (ns.map .int), .int i, .int r]) ∧ 0 ≤ i ∧ i ≤ b ∧ 0 ≤ r
theorem PenTo.pen {ns : List Int} {p : Nat} {S S' : Store} {b : Int} (h : PenTo ns p S S' b) (hp : p < S.length) : Pen ns p S' b := by
  obtain ⟨i, r, rfl, h⟩ := h
  exact ⟨i, r, List.getElem?_set_self hp, h⟩
theorem Pen.lt {ns : List Int} {p : Nat} {S : Store} {b : Int} (h : Pen ns p S b) : p < S.length := by
  obtain ⟨i, r, h, _⟩ := h
  exact (List.getElem?_eq_some_iff.mp h).1
theorem Pen.mono {ns : List Int} {p : Nat} {S : Store} {b c : Int} (h : Pen ns p S b) (hc : b ≤ c) : Pen ns p S c := by
  obtain ⟨i, r, h1, h2, h3, h4⟩ := h
  exact ⟨i, r, h1, h2, by omega, h4⟩
theorem PenTo.len {ns : List Int} {p : Nat} {S S' : Store} {b : Int} (h : PenTo ns p S S' b) : S'.length = S.length := by
  obtain ⟨i, r, rfl, _⟩ := h
  exact List.length_set
theorem PenTo.trans {ns : List Int} {p : Nat} {S S1 S2 : Store} {b c : Int} (h : PenTo ns p S S1 b) (h' : PenTo ns p S1 S2 c) : PenTo ns p S S2 c := by
  obtain ⟨i, r, rfl, _⟩ := h
  obtain ⟨i', r', rfl, q⟩ := h'
  exact ⟨i', r', by rw [List.set_set], q⟩
theorem Pen.self {ns : List Int} {p : Nat} {S : Store} {b : Int} (h : Pen ns p S b) : PenTo ns p S S b := by
  obtain ⟨i, r, h1, h2⟩ := h
  refine ⟨i, r, ?_, h2⟩
  obtain ⟨q1, q2⟩ := List.getElem?_eq_some_iff.mp h1
  rw [← q2, List.set_getElem_self]
end Wk

set_option Elab.async false
set_option linter.all false
set_option maxRecDepth 100000
set_option maxHeartbeats 1000000
/-! WmD: == of data. -/
namespace Wk
open PySem hiding Env
mutual
/-- data of which == tells; n: how deep -/
def lay : D → Bool
  | .non => true
  | .bl _ => true
  | .int _ => true
  | .str s => PyData.canLay0 (.str s)
  | .tup ds => layL ds
  | .lst ds => layL ds
  | _ => false
def layL : List D → Bool
  | [] => true
  | d :: ds => lay d && layL ds
end
mutual
def dep : D → Nat
  | .tup ds => depL ds + 1
  | .lst ds => depL ds + 1
  | _ => 0
def depL : List D → Nat
  | [] => 0
  | d :: ds => max (dep d) (depL ds)
end
mutual
/-- as the model's data -/
def toPy : D → PyData
  | .non => .none
  | .bl b => .bool b
  | .int i => .int i
  | .str s => .str s
  | .tup ds => .tuple (toPyL ds)
  | .lst ds => .list (toPyL ds)
  | _ => .none
def toPyL : List D → List PyData
  | [] => []
  | d :: ds => toPy d :: toPyL ds
end
mutual
theorem py_lay : ∀ {d : D}, lay d = true → py d = some (toPy d) ∧ (toPy d).canLay0 = true ∧ (toPy d).depth = dep d
  | .non, _ => ⟨by simp [py, toPy], by simp [toPy, PyData.canLay0], by simp [toPy, PyData.depth, dep]⟩
  | .bl b, _ => ⟨by simp [py, toPy], by simp [toPy, PyData.canLay0], by simp [toPy, PyData.depth, dep]⟩
  | .int i, _ => ⟨by simp [py, toPy], by simp [toPy, PyData.canLay0], by simp [toPy, PyData.depth, dep]⟩
  | .str s, h => ⟨by simp [py, toPy], by simpa [toPy, lay] using h, by simp [toPy, PyData.depth, dep]⟩
  | .tup ds, h => by
    obtain ⟨h1, h2, h3⟩ := py_layL (ds := ds) (by simpa [lay] using h)
    exact ⟨by simp [py, toPy, h1], by simpa [toPy, PyData.canLay0] using h2, by simp [toPy, PyData.depth, dep, h3]⟩
  | .lst ds, h => by
    obtain ⟨h1, h2, h3⟩ := py_layL (ds := ds) (by simpa [lay] using h)
    exact ⟨by simp [py, toPy, h1], by simpa [toPy, PyData.canLay0] using h2, by simp [toPy, PyData.depth, dep, h3]⟩
  | .dct _, h => by simp [lay] at h
  | .ins _ _, h => by simp [lay] at h
  | .scr _, h => by simp [lay] at h
theorem py_layL : ∀ {ds : List D}, layL ds = true → pyL ds = some (toPyL ds) ∧ PyData.canLayAll0 (toPyL ds) = true ∧ PyData.depthAll (toPyL ds) = depL ds
  | [], _ => ⟨by simp [pyL, toPyL], by simp [toPyL, PyData.canLayAll0], by simp [toPyL, PyData.depthAll, depL]⟩
  | d :: ds, h => by
    simp only [layL, Bool.and_eq_true] at h
    obtain ⟨a1, a2, a3⟩ := py_lay h.1
    obtain ⟨b1, b2, b3⟩ := py_layL h.2
    exact ⟨by simp [pyL, toPyL, a1, b1], by simp [toPyL, PyData.canLayAll0, a2, b2], by simp [toPyL, PyData.depthAll, depL, a3, b3]⟩
end
theorem eqD_lay {x y : D} (hx : lay x = true) (hy : lay y = true) (dx : dep x ≤ 64) (dy : dep y ≤ 64) : eqD x y = some (PyData.eqv (toPy x) (toPy y)) := by
  obtain ⟨h1, h2, h3⟩ := py_lay hx
  obtain ⟨g1, g2, g3⟩ := py_lay hy
  unfold eqD
  rw [h1, g1]
  dsimp only
  rw [if_pos]
  unfold SeqAt.shaped
  rw [h2, g2, h3, g3]
  simp [dx, dy]
mutual
theorem eqv_self : ∀ {d : D}, lay d = true → PyData.eqv (toPy d) (toPy d) = true
  | .non, _ => by simp [toPy, PyData.eqv]
  | .bl b, _ => by simp [toPy, PyData.eqv]
  | .int i, _ => by simp [toPy, PyData.eqv]
  | .str s, h => by simp [toPy, PyData.eqv]
  | .tup ds, h => by
    have := eqv_selfL (ds := ds) (by simpa [lay] using h)
    simpa [toPy, PyData.eqv] using this
  | .lst ds, h => by
    have := eqv_selfL (ds := ds) (by simpa [lay] using h)
    simpa [toPy, PyData.eqv] using this
  | .dct _, h => by simp [lay] at h
  | .ins _ _, h => by simp [lay] at h
  | .scr _, h => by simp [lay] at h
theorem eqv_selfL : ∀ {ds : List D}, layL ds = true → PyData.eqvAll (toPyL ds) (toPyL ds) = true
  | [], _ => by simp [toPyL, PyData.eqvAll]
  | d :: ds, h => by
    simp only [layL, Bool.and_eq_true] at h
    simp [toPyL, PyData.eqvAll, eqv_self h.1, eqv_selfL h.2]
end
theorem eqD_self {x : D} (hx : lay x = true) (dx : dep x ≤ 64) : eqD x x = some true := by
  rw [eqD_lay hx hx dx dx, eqv_self hx]
theorem lay_ints : ∀ ns : List Int, layL (ns.map D.int) = true
  | [] => rfl
  | n :: ns => by
    show layL (D.int n :: ns.map D.int) = true
    simp [layL, lay, lay_ints ns]
theorem dep_ints : ∀ ns : List Int, depL (ns.map D.int) = 0
  | [] => rfl
  | n :: ns => by
    show depL (D.int n :: ns.map D.int) = 0
    simp [depL, dep, dep_ints ns]
/-- [..] == [] -/
theorem eqD_nil {ds : List D} (hx : layL ds = true) (dx : depL ds ≤ 63) : eqD (.lst ds) (.lst []) = some ds.isEmpty := by
  rw [eqD_lay (by simpa [lay] using hx) rfl (by simp [dep]; omega) (by simp [dep, depL])]
  cases ds with
  | nil => rfl
  | cons d ds => simp [toPy, toPyL, PyData.eqv, PyData.eqvAll]
end Wk

set_option Elab.async false
set_option linter.all false
set_option maxRecDepth 100000
set_option maxHeartbeats 4000000
/-! WmC: drawing. -/
namespace Wk
open PySem hiding Env
/-- the laws' _law_draw, by its four numbers -/
def drawF (a b c e : Int) : FDef where
  pars := 2
  slots := 7
  dfl := []
  star := false
  keep := false
  body := [
    .iff (.cmp .lt (.var 1) (.cst (.int 2))) [.ret (.cst (.int 0))] [],
    .iff (.cmp .gt (.ix (.var 0) (.cst (.int 2))) (.cst (.int 0))) [.asg (.nm 5) (.bin .mod (.bi .int [(.ix (.var 0) (.cst (.int 2)))]) (.var 1)), .setIx (.var 0) (.cst (.int 2)) (.bin .fdiv (.bi .int [(.ix (.var 0) (.cst (.int 2)))]) (.var 1)), .ret (.var 5)] [],
    .asg (.nm 2) (.ix (.var 0) (.cst (.int 1))),
    .setIx (.var 0) (.cst (.int 1)) (.bin .add (.var 2) (.cst (.int 1))),
    .asg (.nm 3) (.bin .add (.bin .mul (.cst (.int a)) (.var 2)) (.cst (.int b))),
    .iff (.cmp .ne (.ix (.var 0) (.cst (.int 0))) (.lst [])) [.asg (.nm 3) (.ix (.ix (.var 0) (.cst (.int 0))) (.bin .mod (.bi .int [(.var 2)]) (.bi .len [(.ix (.var 0) (.cst (.int 0)))])))] [],
    .iff (.land (.cmp .lt (.var 2) (.bi .len [(.ix (.var 0) (.cst (.int 0)))])) (.cmp .ge (.bi .abs [(.var 3)]) (.bin .pow (.cst (.int 10)) (.cst (.int 18))))) [.asg (.nm 6) (.bin .add (.bin .mul (.cst (.int 2)) (.bin .sub (.bi .abs [(.var 3)]) (.bin .pow (.cst (.int 10)) (.cst (.int 18))))) (.bi .int [(.cmp .lt (.var 3) (.cst (.int 0)))])), .setIx (.var 0) (.cst (.int 2)) (.bin .fdiv (.bi .int [(.var 6)]) (.var 1)), .ret (.bin .mod (.bi .int [(.var 6)]) (.var 1))] [],
    .asg (.nm 4) (.bin .mod (.bi .int [(.bin .pow (.bin .add (.bin .add (.bin .mod (.bi .int [(.var 3)]) (.cst (.int 2147483549))) (.bin .mul (.cst (.int c)) (.var 2))) (.cst (.int b))) (.cst (.int 3)))]) (.cst (.int 2147483629))),
    .asg (.nm 4) (.bin .mod (.bi .int [(.bin .pow (.bin .add (.bin .add (.bin .mul (.var 4) (.bin .add (.bin .mul (.cst (.int 2)) (.var 2)) (.cst (.int e)))) (.bin .mul (.bin .mul (.cst (.int a)) (.var 2)) (.var 2))) (.cst (.int c))) (.cst (.int 5)))]) (.cst (.int 2147483563))),
    .ret (.bin .mod (.bi .int [(.bin .fdiv (.var 4) (.cst (.int 16)))]) (.var 1))]
section
variable {P : Pg} {cl : Cl} {th : Th}
theorem vw_d (S : Store) (x : D) : vw S (.d x) = some x := rfl
theorem vw_pen {S : Store} {p : Nat} {xs : List D} (h : S[p]? = some (.lst xs)) : vw S (.ref p) = some (.lst xs) := by
  show (match S[p]? with
    | some (.lst ds) => some (D.lst ds)
    | some (.ins c fs) => some (.ins c fs)
    | some (.fz x) => some x
    | none => none) = _
  rw [h]
theorem draw_small {a b c e many : Int} {p : Nat} {S : Store} (h : many < 2) : exL P cl none (drawF a b c e).body [some (.ref p), some (.d (.int many)), none, none, none, none, none] S = .ret (.d (.int 0)) S := by
  simp only [drawF, exL, exS, evE, evL, bind_ok, st_ok, List.getElem?_cons_zero, List.getElem?_cons_succ, cmpM, vw, ownEq, cmpop, ofO_some, decide_eq_true h, truV, truth, Option.bind, tst, sbind_ret]
theorem own_int {o : Co} {i : Int} : ownEq P o (.int i) = none := by cases o <;> rfl
theorem mod_ok {i j : Int} (h : 0 < j) : binop .mod (.int i) (.int j) = some (.int (i % j)) := by
  unfold binop
  exact if_pos h
theorem fdiv_ok {i j : Int} (h : 0 < j) (h2 : j < 1073741824) : binop .fdiv (.int i) (.int j) = some (.int (i / j)) := by
  unfold binop
  exact if_pos ⟨h, h2⟩
theorem ex_setIx {o i e : CE} {v : Vl} {x : D} {n k j : Nat} {kk : Int} {ds : List D} {ρ : Env} {S S1 S2 S3 S4 : Store} (h1 : evE P cl th e ρ S = .ok v S1) (h2 : frz v S1 = .ok x S2) (h3 : evE P cl th o ρ S2 = .ok (.ref n) S3) (h4 : evE P cl th i ρ S3 = .ok (.d (.int kk)) S4) (h5 : S4[n]? = some (.lst ds)) (h6 : L2.ixN ds.length kk = some j) :
    exS P cl th (.setIx o i e) ρ S = .nx ρ (S4.set n (.lst (ds.set j x))) := by
  simp only [exS]
  rw [h1, st_ok, h2, st_ok, h3, st_ok, h4, st_ok]
  dsimp only
  rw [h5]
  dsimp only
  rw [h6]
theorem draw_rest {a b c e many i r : Int} {p : Nat} {S : Store} {cs : D} (hS : S[p]? = some (.lst [cs, .int i, .int r])) (h : ¬ many < 2) (hm : many < 1073741824) (hr : 0 < r) :
    exL P cl none (drawF a b c e).body [some (.ref p), some (.d (.int many)), none, none, none, none, none] S = .ret (.d (.int (r % many))) (S.set p (.lst [cs, .int i, .int (r / many)])) := by
  have hv := vw_pen hS
  have h0 : (0 : Int) < many := by omega
  refine ex_nx (ex_if (tst_bl (ev_cmp (ev_var rfl) ev_cst (cmp_d (vw_d _ _) (vw_d _ _) own_int (congrArg some (decide_eq_false h))))) ex_nil) ?_
  refine ex_ret (ex_if (t := true) (tst_bl (ev_cmp (ev_ix (ev_var rfl) ev_cst hv (vw_d _ _) rfl) ev_cst (cmp_d (vw_d _ _) (vw_d _ _) own_int (congrArg some (decide_eq_true hr))))) ?_)
  refine ex_nx (ex_asg (ev_bin (ev_bi1 (ev_ix (ev_var rfl) ev_cst hv (vw_d _ _) rfl) (vw_d _ _) rfl) (ev_var rfl) (vw_d _ _) (vw_d _ _) (mod_ok h0))) ?_
  refine ex_nx (ex_setIx (k := 0) (ev_bin (ev_bi1 (ev_ix (ev_var rfl) ev_cst hv (vw_d _ _) rfl) (vw_d _ _) rfl) (ev_var rfl) (vw_d _ _) (vw_d _ _) (fdiv_ok h0 hm)) (frz_d _ _) (ev_var rfl) ev_cst hS rfl) ?_
  exact ex_ret (ex_rets (ev_var rfl))
theorem mul_ok {i j : Int} (h : -(2 ^ 64) < i ∧ i < 2 ^ 64) : binop .mul (.int i) (.int j) = some (.int (i * j)) := by
  unfold binop
  refine if_pos ?_
  rw [Bool.or_eq_true]
  exact .inl (decide_eq_true h)
theorem pow_ok {i j : Int} (h : 0 ≤ j ∧ j ≤ 1000000) (h2 : i.natAbs < 2 ^ 64) : binop .pow (.int i) (.int j) = some (.int (i ^ j.toNat)) := by
  unfold binop
  exact if_pos ⟨h.1, h.2, h2⟩
theorem ev_land {a b : CE} {ρ : Env} {S S1 : Store} {r : Res Vl} {t : Bool} (h : evE P cl th a ρ S = .ok (.d (.bl t)) S1) (hb : (if t then evE P cl th b ρ S1 else .ok (.d (.bl false)) S1) = r) : evE P cl th (.land a b) ρ S = r := by
  simp only [evE]
  rw [h]
  cases t with
  | true => exact hb
  | false => exact hb
theorem mix_ok {a b c e many i x : Int} {p : Nat} {g : Option Vl} {S : Store} (h0 : 0 < many) (hi : 0 ≤ i ∧ i ≤ 100000) (ha : 0 ≤ a ∧ a ≤ 100000) (hb : 0 ≤ b ∧ b ≤ 100000) (hc : 0 ≤ c ∧ c ≤ 100000) (he : 0 ≤ e ∧ e ≤ 100000) :
    ∃ d : Int, 0 ≤ d ∧ d < many ∧ exL P cl none ((drawF a b c e).body.drop 7) [some (.ref p), some (.d (.int many)), some (.d (.int i)), some (.d (.int x)), none, none, g] S = .ret (.d (.int d)) S := by
  have m1 := Int.emod_nonneg x (show (2147483549 : Int) ≠ 0 by decide)
  have m2 := Int.emod_lt_of_pos x (show (0 : Int) < 2147483549 by decide)
  have k1 : 0 ≤ c * i := Int.mul_nonneg hc.1 hi.1
  have k2 : c * i ≤ 100000 * 100000 := Int.mul_le_mul hc.2 hi.2 hi.1 (by decide)
  obtain ⟨y, hy⟩ : ∃ y, y = (x % 2147483549 + c * i + b) ^ (3 : Int).toNat % 2147483629 := ⟨_, rfl⟩
  have y1 : 0 ≤ y := by rw [hy]; exact Int.emod_nonneg _ (by decide)
  have y2 : y < 2147483629 := by rw [hy]; exact Int.emod_lt_of_pos _ (by decide)
  have k3 : 0 ≤ a * i := Int.mul_nonneg ha.1 hi.1
  have k4 : a * i ≤ 100000 * 100000 := Int.mul_le_mul ha.2 hi.2 hi.1 (by decide)
  have k5 : 0 ≤ a * i * i := Int.mul_nonneg k3 hi.1
  have k6 : a * i * i ≤ 100000 * 100000 * 100000 := Int.mul_le_mul k4 hi.2 hi.1 (by decide)
  have k7 : 0 ≤ y * (2 * i + e) := Int.mul_nonneg y1 (by omega)
  have k8 : y * (2 * i + e) ≤ 2147483629 * 300000 := Int.mul_le_mul (by omega) (by omega) (by omega) (by decide)
  obtain ⟨z, hz⟩ : ∃ z, z = (y * (2 * i + e) + a * i * i + c) ^ (5 : Int).toNat % 2147483563 := ⟨_, rfl⟩
  refine ⟨z / 16 % many, Int.emod_nonneg _ (by omega), Int.emod_lt_of_pos _ h0, ?_⟩
  show exL P cl none [_, _, _] _ S = _
  refine ex_nx (S1 := S) (ex_asg (v := .d (.int y)) ?_) (ex_nx (S1 := S) (ex_asg (v := .d (.int z)) ?_) (ex_ret (ex_rets ?_)))
  · rw [hy]
    exact ev_bin (ev_bi1 (ev_bin (ev_bin (ev_bin (ev_bin (ev_bi1 (ev_var rfl) (vw_d _ _) rfl) ev_cst (vw_d _ _) (vw_d _ _) (mod_ok (by decide))) (ev_bin ev_cst (ev_var rfl) (vw_d _ _) (vw_d _ _) (mul_ok (by omega))) (vw_d _ _) (vw_d _ _) rfl) ev_cst (vw_d _ _) (vw_d _ _) rfl) ev_cst (vw_d _ _) (vw_d _ _) (pow_ok (by decide) (by omega))) (vw_d _ _) rfl) ev_cst (vw_d _ _) (vw_d _ _) (mod_ok (by decide))
  · rw [hz]
    exact ev_bin (ev_bi1 (ev_bin (ev_bin (ev_bin (ev_bin (ev_var rfl) (ev_bin (ev_bin ev_cst (ev_var rfl) (vw_d _ _) (vw_d _ _) (mul_ok (by omega))) ev_cst (vw_d _ _) (vw_d _ _) rfl) (vw_d _ _) (vw_d _ _) (mul_ok (by omega))) (ev_bin (ev_bin ev_cst (ev_var rfl) (vw_d _ _) (vw_d _ _) (mul_ok (by omega))) (ev_var rfl) (vw_d _ _) (vw_d _ _) (mul_ok (by omega))) (vw_d _ _) (vw_d _ _) rfl) ev_cst (vw_d _ _) (vw_d _ _) rfl) ev_cst (vw_d _ _) (vw_d _ _) (pow_ok (by decide) (by omega))) (vw_d _ _) rfl) ev_cst (vw_d _ _) (vw_d _ _) (mod_ok (by decide))
  · exact ev_bin (ev_bi1 (ev_bin (ev_var rfl) ev_cst (vw_d _ _) (vw_d _ _) (fdiv_ok (by decide) (by decide))) (vw_d _ _) rfl) (ev_var rfl) (vw_d _ _) (vw_d _ _) (mod_ok h0)
theorem own_lst {o : Co} {xs : List D} : ownEq P o (.lst xs) = none := by cases o <;> rfl
theorem ne_nil {ns : List Int} : cmpop .ne (.lst (ns.map D.int)) (.lst []) = some (!ns.isEmpty) := by
  show (eqD _ _).map (!·) = _
  rw [eqD_nil (lay_ints ns) (by rw [dep_ints]; omega)]
  cases ns <;> rfl
theorem atI_ints {ns : List Int} {j : Int} (h0 : 0 ≤ j) (h1 : j < ns.length) : ∃ x, L2.atI (ns.map D.int) j = some (.int x) := by
  refine ⟨ns[j.toNat]'(by omega), ?_⟩
  unfold L2.atI L2.ixN
  rw [if_pos h0, if_pos (by rw [List.length_map]; exact h1)]
  show (ns.map D.int)[j.toNat]? = _
  rw [List.getElem?_map, List.getElem?_eq_getElem (by omega)]
  rfl
theorem draw_fresh {a b c e many i r : Int} {p : Nat} {S : Store} {ns : List Int} (hS : S[p]? = some (.lst [.lst (ns.map .int), .int i, .int r])) (h : ¬ many < 2) (hm : many < 1073741824) (hr : ¬ 0 < r) (hr0 : 0 ≤ r)
    (hi : 0 ≤ i ∧ i ≤ 100000) (ha : 0 ≤ a ∧ a ≤ 100000) (hb : 0 ≤ b ∧ b ≤ 100000) (hc : 0 ≤ c ∧ c ≤ 100000) (he : 0 ≤ e ∧ e ≤ 100000) :
    ∃ d r' : Int, 0 ≤ d ∧ d < many ∧ 0 ≤ r' ∧ exL P cl none (drawF a b c e).body [some (.ref p), some (.d (.int many)), none, none, none, none, none] S = .ret (.d (.int d)) (S.set p (.lst [.lst (ns.map .int), .int (i + 1), .int r'])) := by
  have hv := vw_pen hS
  have h0 : (0 : Int) < many := by omega
  have hp : p < S.length := (List.getElem?_eq_some_iff.mp hS).1
  obtain ⟨S1, hS1⟩ : ∃ S1 : Store, S1 = S.set p (.lst [.lst (ns.map .int), .int (i + 1), .int r]) := ⟨_, rfl⟩
  have h1 : S1[p]? = some (.lst [.lst (ns.map .int), .int (i + 1), .int r]) := by rw [hS1]; exact List.getElem?_set_self hp
  have hv1 := vw_pen h1
  -- the rest, from the cell on
  have tail : ∀ x : Int, ∃ d r' : Int, 0 ≤ d ∧ d < many ∧ 0 ≤ r' ∧ exL P cl none ((drawF a b c e).body.drop 6) [some (.ref p), some (.d (.int many)), some (.d (.int i)), some (.d (.int x)), none, none, none] S1 = .ret (.d (.int d)) (S1.set p (.lst [.lst (ns.map .int), .int (i + 1), .int r'])) := fun x => by
    have keep : S1.set p (.lst [.lst (ns.map .int), .int (i + 1), .int r]) = S1 := by rw [hS1, List.set_set]
    have len : evE P cl none (.bi .len [(.ix (.var 0) (.cst (.int 0)))]) [some (.ref p), some (.d (.int many)), some (.d (.int i)), some (.d (.int x)), none, none, none] S1 = .ok (.d (.int (ns.map D.int).length)) S1 :=
      ev_bi1 (ev_ix (ev_var rfl) ev_cst hv1 (vw_d _ _) rfl) (vw_d _ _) rfl
    have ab : evE P cl none (.bi .abs [(.var 3)]) [some (.ref p), some (.d (.int many)), some (.d (.int i)), some (.d (.int x)), none, none, none] S1 = .ok (.d (.int (if x < 0 then -x else x))) S1 := ev_bi1 (ev_var rfl) (vw_d _ _) rfl
    have pw : ∀ {ρ : Env}, evE P cl none (.bin .pow (.cst (.int 10)) (.cst (.int 18))) ρ S1 = .ok (.d (.int ((10 : Int) ^ (18 : Int).toNat))) S1 := fun {ρ} => ev_bin ev_cst ev_cst (vw_d _ _) (vw_d _ _) (pow_ok (by decide) (by decide))
    by_cases great : i < (ns.map D.int).length ∧ (10 : Int) ^ (18 : Int).toNat ≤ (if x < 0 then -x else x)
    · refine ⟨(2 * ((if x < 0 then -x else x) - (10 : Int) ^ (18 : Int).toNat) + (if decide (x < 0) = true then 1 else 0)) % many, (2 * ((if x < 0 then -x else x) - (10 : Int) ^ (18 : Int).toNat) + (if decide (x < 0) = true then 1 else 0)) / many, Int.emod_nonneg _ (by omega), Int.emod_lt_of_pos _ h0, Int.ediv_nonneg ?_ (by omega), ?_⟩
      · have := great.2
        split <;> omega
      · show exL P cl none (_ :: _) _ S1 = _
        refine ex_ret (ex_if (S1 := S1) (t := true) (tst_bl (ev_land (t := true) (ev_cmp (ev_var rfl) len (cmp_d (vw_d _ _) (vw_d _ _) own_int (congrArg some (decide_eq_true great.1)))) ?_)) ?_)
        · exact ev_cmp ab pw (cmp_d (vw_d _ _) (vw_d _ _) own_int (congrArg some (decide_eq_true great.2)))
        · refine ex_nx (S1 := S1) (ex_asg (ev_bin (ev_bin ev_cst (ev_bin ab pw (vw_d _ _) (vw_d _ _) rfl) (vw_d _ _) (vw_d _ _) (mul_ok (by decide))) (ev_bi1 (ev_cmp (ev_var rfl) ev_cst (cmp_d (vw_d _ _) (vw_d _ _) own_int rfl)) (vw_d _ _) rfl) (vw_d _ _) (vw_d _ _) rfl)) ?_
          refine ex_nx (ex_setIx (k := 0) (ev_bin (ev_bi1 (ev_var rfl) (vw_d _ _) rfl) (ev_var rfl) (vw_d _ _) (vw_d _ _) (fdiv_ok h0 hm)) (frz_d _ _) (ev_var rfl) ev_cst h1 rfl) ?_
          exact ex_ret (ex_rets (ev_bin (ev_bi1 (ev_var rfl) (vw_d _ _) rfl) (ev_var rfl) (vw_d _ _) (vw_d _ _) (mod_ok h0)))
    · obtain ⟨d, d0, d1, q⟩ := mix_ok (P := P) (cl := cl) (a := a) (b := b) (c := c) (e := e) (x := x) (p := p) (g := none) (S := S1) h0 hi ha hb hc he
      refine ⟨d, r, d0, d1, hr0, ?_⟩
      rw [keep]
      show exL P cl none (_ :: _) _ S1 = _
      refine ex_nx (ex_if (S1 := S1) (t := false) (tst_bl ?_) ex_nil) q
      by_cases g1 : i < (ns.map D.int).length
      · refine ev_land (t := true) (ev_cmp (ev_var rfl) len (cmp_d (vw_d _ _) (vw_d _ _) own_int (congrArg some (decide_eq_true g1)))) ?_
        exact ev_cmp ab pw (cmp_d (vw_d _ _) (vw_d _ _) own_int (congrArg some (decide_eq_false fun g2 => great ⟨g1, g2⟩)))
      · exact ev_land (t := false) (ev_cmp (ev_var rfl) len (cmp_d (vw_d _ _) (vw_d _ _) own_int (congrArg some (decide_eq_false g1)))) rfl
  have fin : ∀ {d r' : Int}, S1.set p (.lst [.lst (ns.map .int), .int (i + 1), .int r']) = S.set p (.lst [.lst (ns.map .int), .int (i + 1), .int r']) := fun {d r'} => by rw [hS1, List.set_set]
  have pre : ∀ {rr : SR} (x : Int), exL P cl none ((drawF a b c e).body.drop 6) [some (.ref p), some (.d (.int many)), some (.d (.int i)), some (.d (.int x)), none, none, none] S1 = rr → (ns = [] ∧ x = a * i + b ∨ ns ≠ [] ∧ L2.atI (ns.map D.int) (i % ((ns.map D.int).length : Int)) = some (.int x)) →
      exL P cl none (drawF a b c e).body [some (.ref p), some (.d (.int many)), none, none, none, none, none] S = rr := fun {rr} x q hx => by
    refine ex_nx (ex_if (tst_bl (ev_cmp (ev_var rfl) ev_cst (cmp_d (vw_d _ _) (vw_d _ _) own_int (congrArg some (decide_eq_false h))))) ex_nil) ?_
    refine ex_nx (ex_if (t := false) (tst_bl (ev_cmp (ev_ix (ev_var rfl) ev_cst hv (vw_d _ _) rfl) ev_cst (cmp_d (vw_d _ _) (vw_d _ _) own_int (congrArg some (decide_eq_false hr))))) ex_nil) ?_
    refine ex_nx (ex_asg (ev_ix (ev_var rfl) ev_cst hv (vw_d _ _) rfl)) ?_
    refine ex_nx (S1 := S1) ((ex_setIx (k := 0) (ev_bin (ev_var rfl) ev_cst (vw_d _ _) (vw_d _ _) rfl) (frz_d _ _) (ev_var rfl) ev_cst hS rfl).trans (by rw [hS1]; rfl)) ?_
    refine ex_nx (S1 := S1) (ex_asg (ev_bin (ev_bin ev_cst (ev_var rfl) (vw_d _ _) (vw_d _ _) (mul_ok (by omega))) ev_cst (vw_d _ _) (vw_d _ _) rfl)) ?_
    have c0 : evE P cl none (.cmp .ne (.ix (.var 0) (.cst (.int 0))) (.lst [])) [some (.ref p), some (.d (.int many)), some (.d (.int i)), some (.d (.int (a * i + b))), none, none, none] S1 = .ok (.d (.bl (!ns.isEmpty))) S1 :=
      ev_cmp (ev_ix (ev_var rfl) ev_cst hv1 (vw_d _ _) rfl) (by simp only [evE, evL]; rfl) (cmp_d (vw_d _ _) (vw_d _ _) own_lst ne_nil)
    rcases hx with ⟨e1, e2⟩ | ⟨e1, e2⟩
    · subst e1 e2
      exact ex_nx (ex_if (t := false) (tst_bl c0) ex_nil) q
    · have nn : (!ns.isEmpty) = true := by cases ns <;> simp_all
      rw [nn] at c0
      have hl : (0 : Int) < (ns.map D.int).length := by
        cases ns with
        | nil => exact absurd rfl e1
        | cons n ns => simp
      refine ex_nx (S1 := S1) (ex_if (t := true) (tst_bl c0) (ex_nx (S1 := S1) (ex_asg (ev_ix (ev_ix (ev_var rfl) ev_cst hv1 (vw_d _ _) rfl) (ev_bin (ev_bi1 (ev_var rfl) (vw_d _ _) rfl) (ev_bi1 (ev_ix (ev_var rfl) ev_cst hv1 (vw_d _ _) rfl) (vw_d _ _) rfl) (vw_d _ _) (vw_d _ _) (mod_ok hl)) (vw_d _ _) (vw_d _ _) e2)) ex_nil)) q
  cases ns with
  | nil =>
    obtain ⟨d, r', q1, q2, q3, q4⟩ := tail (a * i + b)
    exact ⟨d, r', q1, q2, q3, (pre _ q4 (.inl ⟨rfl, rfl⟩)).trans (by rw [fin (d := d)])⟩
  | cons n ns =>
    obtain ⟨x, hx⟩ := atI_ints (ns := n :: ns) (j := i % (((n :: ns).map D.int).length : Int)) (Int.emod_nonneg _ (by simp; omega)) (by
      have := Int.emod_lt_of_pos i (show (0 : Int) < (((n :: ns).map D.int).length : Int) by simp)
      rw [List.length_map] at this ⊢
      exact this)
    obtain ⟨d, r', q1, q2, q3, q4⟩ := tail x
    exact ⟨d, r', q1, q2, q3, (pre _ q4 (.inr ⟨by simp, hx⟩)).trans (by rw [fin (d := d)])⟩
end
end Wk

set_option Elab.async false
set_option linter.all false
set_option maxRecDepth 100000
set_option maxHeartbeats 1000000
/-! WmE: == and in, more. -/
namespace Wk
open PySem hiding Env
mutual
/-- no truths in it -/
def nb : D → Bool
  | .bl _ => false
  | .tup ds => nbL ds
  | .lst ds => nbL ds
  | _ => true
def nbL : List D → Bool
  | [] => true
  | d :: ds => nb d && nbL ds
end
theorem str_beq {x y : Str} : (x == y) = true ↔ x = y := by
  constructor
  · intro h
    exact eq_of_beq h
  · intro h
    subst h
    exact beq_self_eq_true x
mutual
theorem eqv_iff : ∀ {x y : D}, lay x = true → lay y = true → nb x = true → nb y = true → (PyData.eqv (toPy x) (toPy y) = true ↔ x = y)
  | .non, y, _, hy, _, ny => by cases y <;> simp_all [lay, nb, toPy, PyData.eqv]
  | .int i, y, _, hy, _, ny => by cases y <;> simp_all [lay, nb, toPy, PyData.eqv]
  | .str s, y, _, hy, _, ny => by
    cases y with
    | str t =>
      simp only [toPy, PyData.eqv]
      rw [str_beq]
      simp
    | _ => simp_all [lay, nb, toPy, PyData.eqv]
  | .tup ds, y, hx, hy, nx, ny => by
    cases y with
    | tup es =>
      simp only [lay, nb] at hx hy nx ny
      simp only [toPy, PyData.eqv]
      rw [eqv_iffL hx hy nx ny]
      simp
    | _ => simp_all [lay, nb, toPy, PyData.eqv]
  | .lst ds, y, hx, hy, nx, ny => by
    cases y with
    | lst es =>
      simp only [lay, nb] at hx hy nx ny
      simp only [toPy, PyData.eqv]
      rw [eqv_iffL hx hy nx ny]
      simp
    | _ => simp_all [lay, nb, toPy, PyData.eqv]
  | .bl b, y, _, hy, nx, ny => by simp [nb] at nx
  | .dct _, y, hx, hy, nx, ny => by simp [lay] at hx
  | .ins _ _, y, hx, hy, nx, ny => by simp [lay] at hx
  | .scr _, y, hx, hy, nx, ny => by simp [lay] at hx
theorem eqv_iffL : ∀ {xs ys : List D}, layL xs = true → layL ys = true → nbL xs = true → nbL ys = true → (PyData.eqvAll (toPyL xs) (toPyL ys) = true ↔ xs = ys)
  | [], [], _, _, _, _ => by simp [toPyL, PyData.eqvAll]
  | [], y :: ys, _, _, _, _ => by simp [toPyL, PyData.eqvAll]
  | x :: xs, [], _, _, _, _ => by simp [toPyL, PyData.eqvAll]
  | x :: xs, y :: ys, hx, hy, nx, ny => by
    simp only [layL, nbL, Bool.and_eq_true] at hx hy nx ny
    simp only [toPyL, PyData.eqvAll, Bool.and_eq_true, List.cons.injEq]
    rw [eqv_iff hx.1 hy.1 nx.1 ny.1, eqv_iffL hx.2 hy.2 nx.2 ny.2]
end
theorem eqD_dec {x y : D} {p : Prop} [Decidable p] (hx : lay x = true) (hy : lay y = true) (dx : dep x ≤ 64) (dy : dep y ≤ 64) (nx : nb x = true) (ny : nb y = true) (h : x = y ↔ p) : eqD x y = some (decide p) := by
  rw [eqD_lay hx hy dx dy]
  congr 1
  rw [Bool.eq_iff_iff, eqv_iff hx hy nx ny, h, decide_eq_true_iff]
theorem layL_all {α : Type} {e : α → D} : ∀ {xs : List α}, (∀ x ∈ xs, lay (e x) = true) → layL (xs.map e) = true
  | [], _ => rfl
  | x :: xs, h => by
    simp only [List.map_cons, layL, Bool.and_eq_true]
    exact ⟨h x List.mem_cons_self, layL_all fun y hy => h y (List.mem_cons_of_mem _ hy)⟩
theorem nbL_all {α : Type} {e : α → D} : ∀ {xs : List α}, (∀ x ∈ xs, nb (e x) = true) → nbL (xs.map e) = true
  | [], _ => rfl
  | x :: xs, h => by
    simp only [List.map_cons, nbL, Bool.and_eq_true]
    exact ⟨h x List.mem_cons_self, nbL_all fun y hy => h y (List.mem_cons_of_mem _ hy)⟩
theorem depL_le {α : Type} {e : α → D} {k : Nat} : ∀ {xs : List α}, (∀ x ∈ xs, dep (e x) ≤ k) → depL (xs.map e) ≤ k
  | [], _ => Nat.zero_le _
  | x :: xs, h => by
    simp only [List.map_cons, depL]
    have h1 := h x List.mem_cons_self
    have h2 := depL_le (xs := xs) fun y hy => h y (List.mem_cons_of_mem _ hy)
    omega
section
variable {P : Pg} {cl : Cl} {S : Store}
theorem ownEq_flat {o : Co} {x : D} (h : ∀ c fs, x ≠ .ins c fs) : ownEq P o x = none := by
  cases x with
  | ins c fs => exact absurd rfl (h c fs)
  | _ => cases o <;> rfl
theorem eq_D {x y : D} {b : Bool} (h : ∀ c fs, x ≠ .ins c fs) (e : eqD x y = some b) : cmpM P cl .eq (.d x) (.d y) S = .ok b S := by
  unfold cmpM
  show (match ownEq P .eq x with
    | some f => _
    | none => ofO (cmpop .eq x y) S) = _
  rw [ownEq_flat h]
  show ofO (eqD x y) S = _
  rw [e]
  rfl
theorem ne_D {x y : D} {b : Bool} (h : ∀ c fs, x ≠ .ins c fs) (e : eqD x y = some b) : cmpM P cl .ne (.d x) (.d y) S = .ok (!b) S := by
  unfold cmpM
  show (match ownEq P .ne x with
    | some f => _
    | none => ofO (cmpop .ne x y) S) = _
  rw [ownEq_flat h]
  show ofO ((eqD x y).map (!·)) S = _
  rw [e]
  rfl
theorem in_s2 {w a b : Str} : cmpM P cl .in_ (.d (.str w)) (.d (.tup [.str a, .str b])) S = .ok (a == w || b == w) S := by
  have : ∀ c : Bool, (a == w || (b == w || false)) = c → cmpM P cl .in_ (.d (.str w)) (.d (.tup [.str a, .str b])) S = .ok c S := fun c h => by
    rw [← h]
    rfl
  rw [this _ rfl, Bool.or_false]
theorem in_s3 {w a b c : Str} : cmpM P cl .in_ (.d (.str w)) (.d (.tup [.str a, .str b, .str c])) S = .ok (a == w || (b == w || c == w)) S := by
  have : ∀ d : Bool, (a == w || (b == w || (c == w || false))) = d → cmpM P cl .in_ (.d (.str w)) (.d (.tup [.str a, .str b, .str c])) S = .ok d S := fun d h => by
    rw [← h]
    rfl
  rw [this _ rfl, Bool.or_false]
theorem eq_s {w a : Str} (h1 : PyData.canLay0 (.str w) = true) (h2 : PyData.canLay0 (.str a) = true) : cmpM P cl .eq (.d (.str w)) (.d (.str a)) S = .ok (w == a) S := by
  refine eq_D (fun _ _ => nofun) ?_
  rw [eqD_lay (by simpa [lay] using h1) (by simpa [lay] using h2) (by simp [dep]) (by simp [dep])]
  rfl
theorem ne_s {w a : Str} (h1 : PyData.canLay0 (.str w) = true) (h2 : PyData.canLay0 (.str a) = true) : cmpM P cl .ne (.d (.str w)) (.d (.str a)) S = .ok (!(w == a)) S := by
  refine ne_D (fun _ _ => nofun) ?_
  rw [eqD_lay (by simpa [lay] using h1) (by simpa [lay] using h2) (by simp [dep]) (by simp [dep])]
  rfl
theorem eq_i {i j : Int} : cmpM P cl .eq (.d (.int i)) (.d (.int j)) S = .ok (i == j) S := by
  refine eq_D (fun _ _ => nofun) ?_
  rw [eqD_lay rfl rfl (by simp [dep]) (by simp [dep])]
  rfl
theorem ne_i {i j : Int} : cmpM P cl .ne (.d (.int i)) (.d (.int j)) S = .ok (!(i == j)) S := by
  refine ne_D (fun _ _ => nofun) ?_
  rw [eqD_lay rfl rfl (by simp [dep]) (by simp [dep])]
  rfl
theorem eq_b {i j : Bool} : cmpM P cl .eq (.d (.bl i)) (.d (.bl j)) S = .ok (i == j) S := by
  refine eq_D (fun _ _ => nofun) ?_
  rw [eqD_lay rfl rfl (by simp [dep]) (by simp [dep])]
  rfl
theorem ne_b {i j : Bool} : cmpM P cl .ne (.d (.bl i)) (.d (.bl j)) S = .ok (!(i == j)) S := by
  refine ne_D (fun _ _ => nofun) ?_
  rw [eqD_lay rfl rfl (by simp [dep]) (by simp [dep])]
  rfl
end
end Wk

set_option Elab.async false
set_option linter.all false
set_option maxRecDepth 100000
set_option maxHeartbeats 1000000
/-! WmF: programs as data. -/
namespace Wk
open PySem hiding Env
abbrev Deed := Str × Int
def deedD (d : Deed) : D := .tup [.str d.1, .int d.2]
def textD (t : List Deed) : D := .tup (t.map deedD)
abbrev Hand := List Deed × List Deed
def handD (h : Hand) : D := .tup [textD h.1, textD h.2]
def hLen (h : Hand) : Nat := h.1.length + h.2.length
/-- all places, ascending -/
def places (H : List Hand) : List (Nat × Nat) := H.zipIdx.flatMap fun p => (List.range (hLen p.1)).map fun a => (p.2, a)
def placeD (p : Nat × Nat) : D := .tup [.int p.1, .int p.2]
def placesD (H : List Hand) : List D := H.zipIdx.flatMap fun p => (List.range (hLen p.1)).map fun (a : Nat) => D.tup [.int p.2, .int a]
theorem placesD_map {H : List Hand} : placesD H = (places H).map placeD := by
  unfold placesD places
  rw [List.map_flatMap]
  congr 1
  funext p
  rw [List.map_map]
  rfl
theorem placesD_len {H : List Hand} {b : Nat} (h : ∀ x ∈ H, hLen x ≤ b) : (placesD H).length ≤ H.length * b := by
  have : ∀ (L : List Hand) (k : Nat), (∀ x ∈ L, hLen x ≤ b) → (((L.zipIdx k).flatMap fun p => (List.range (hLen p.1)).map fun (a : Nat) => D.tup [.int p.2, .int a])).length ≤ L.length * b := by
    intro L
    induction L with
    | nil => intro k _; simp
    | cons x L ih =>
      intro k hx
      rw [List.zipIdx_cons, List.flatMap_cons, List.length_append, List.length_cons, Nat.succ_mul]
      have := ih (k + 1) fun y hy => hx y (List.mem_cons_of_mem _ hy)
      have := hx x List.mem_cons_self
      simp only [List.length_map, List.length_range]
      omega
  exact this H 0 h
def isW (w : Str) : Bool := ("read" : Str) == w || (("write" : Str) == w || ("turn" : Str) == w)
def goodD (d : Deed) : Prop := isW d.1 = true ∧ 0 ≤ d.2 ∧ d.2 ≤ 5
def goodH (m : Nat) (h : Hand) : Prop := (∀ d ∈ h.1, goodD d) ∧ (∀ d ∈ h.2, goodD d) ∧ 1 ≤ hLen h ∧ hLen h ≤ m
/-- hands and sites of a program -/
structure Good (many m : Nat) (H : List Hand) (T : List Int) : Prop where
  le : 1 ≤ H.length ∧ H.length ≤ many
  hd : ∀ h ∈ H, goodH m h
  len : T.length = H.length
  si : ∀ t ∈ T, 0 ≤ t ∧ t ≤ 5
def strt (H : List Hand) : Bool := H.all fun h => h.2.isEmpty
theorem deedD_inj {a b : Deed} (h : deedD a = deedD b) : a = b := by
  unfold deedD at h
  simp at h
  exact Prod.ext h.1 h.2
theorem map_inj {α β : Type} {f : α → β} (hf : ∀ a b, f a = f b → a = b) : ∀ {xs ys : List α}, xs.map f = ys.map f → xs = ys
  | [], [], _ => rfl
  | [], _ :: _, h => by simp at h
  | _ :: _, [], h => by simp at h
  | x :: xs, y :: ys, h => by
    simp only [List.map_cons, List.cons.injEq] at h
    rw [hf _ _ h.1, map_inj hf h.2]
theorem textD_inj {a b : List Deed} (h : textD a = textD b) : a = b := by
  unfold textD at h
  simp only [D.tup.injEq] at h
  exact map_inj (fun _ _ => deedD_inj) h
theorem handD_inj {a b : Hand} (h : handD a = handD b) : a = b := by
  unfold handD at h
  simp only [D.tup.injEq, List.cons.injEq, and_true] at h
  exact Prod.ext (textD_inj h.1) (textD_inj h.2)
theorem isW_lay {w : Str} (h : isW w = true) : PyData.canLay0 (.str w) = true := by
  simp only [isW, Bool.or_eq_true, str_beq] at h
  rcases h with h | h | h <;> subst h <;> decide +kernel
/-- == tells of it -/
structure Eqd (k : Nat) (x : D) : Prop where
  lay : lay x = true
  nb : nb x = true
  dep : dep x ≤ k
theorem eqd_deed {d : Deed} (h : goodD d) : Eqd 1 (deedD d) := by
  have := isW_lay h.1
  exact ⟨by simp [deedD, Wk.lay, layL, this], by simp [deedD, Wk.nb, nbL], by simp [deedD, Wk.dep, depL]⟩
theorem eqd_tup {α : Type} {e : α → D} {k : Nat} {xs : List α} (h : ∀ x ∈ xs, Eqd k (e x)) : Eqd (k + 1) (.tup (xs.map e)) :=
  ⟨by simpa [Wk.lay] using layL_all fun x hx => (h x hx).lay, by simpa [Wk.nb] using nbL_all fun x hx => (h x hx).nb, by
    simp only [Wk.dep]
    have := depL_le (k := k) fun x hx => (h x hx).dep
    omega⟩
theorem eqd_lst {α : Type} {e : α → D} {k : Nat} {xs : List α} (h : ∀ x ∈ xs, Eqd k (e x)) : Eqd (k + 1) (.lst (xs.map e)) :=
  ⟨by simpa [Wk.lay] using layL_all fun x hx => (h x hx).lay, by simpa [Wk.nb] using nbL_all fun x hx => (h x hx).nb, by
    simp only [Wk.dep]
    have := depL_le (k := k) fun x hx => (h x hx).dep
    omega⟩
theorem eqd_int {i : Int} : Eqd 0 (.int i) := ⟨rfl, rfl, Nat.le_refl _⟩
theorem eqd_text {t : List Deed} (h : ∀ d ∈ t, goodD d) : Eqd 2 (textD t) := eqd_tup fun d hd => eqd_deed (h d hd)
theorem eqd_hand {h : Hand} (h1 : ∀ d ∈ h.1, goodD d) (h2 : ∀ d ∈ h.2, goodD d) : Eqd 3 (handD h) := by
  have := eqd_tup (e := fun x : D => x) (k := 2) (xs := [textD h.1, textD h.2]) fun x hx => by
    rcases List.mem_cons.mp hx with rfl | hx
    · exact eqd_text h1
    · rcases List.mem_cons.mp hx with rfl | hx
      · exact eqd_text h2
      · cases hx
  simpa [handD] using this
theorem eqd_hands {H : List Hand} {m : Nat} (h : ∀ x ∈ H, goodH m x) : Eqd 4 (.tup (H.map handD)) := eqd_tup fun x hx => eqd_hand (h x hx).1 (h x hx).2.1
theorem Eqd.eq {x y : D} {p : Prop} [Decidable p] {k l : Nat} (hx : Eqd k x) (hy : Eqd l y) (hk : k ≤ 64) (hl : l ≤ 64) (h : x = y ↔ p) : eqD x y = some (decide p) := eqD_dec hx.lay hy.lay (Nat.le_trans hx.dep hk) (Nat.le_trans hy.dep hl) hx.nb hy.nb h
/-- a plain program, as the laws draw it -/
def plainD (H : List Hand) (T : List Int) : D := .dct [(.inr "hands", .lst (H.map handD)), (.inr "sites", .lst (T.map .int))]
end Wk

set_option Elab.async false
set_option linter.all false
set_option maxRecDepth 100000
set_option maxHeartbeats 1000000
/-! WnA: evaluation by simp; what comes next is a first-order term. -/
namespace Wk
open PySem hiding Env
/-- a rule that simp is to name -/
theorem nr {α : Sort _} {a b : α} (h : a = b) : a = b := h
theorem bind_exc {α β : Type} (x : Exn) (S : Store) (k : α → Store → Res β) : (Res.exc x S).bind k = .exc x S := nr rfl
theorem st_exc {α : Type} (x : Exn) (S : Store) (ρ : Env) (k : α → Store → SR) : (Res.exc x S).st ρ k = .exc x ρ S := nr rfl
theorem sbind_exc (x : Exn) (ρ : Env) (S : Store) (k : Env → Store → SR) : (SR.exc x ρ S).bind k = .exc x ρ S := nr rfl
theorem sbind_brk (ρ : Env) (S : Store) (k : Env → Store → SR) : (SR.brk ρ S).bind k = .brk ρ S := nr rfl
theorem sbind_cnt (ρ : Env) (S : Store) (k : Env → Store → SR) : (SR.cnt ρ S).bind k = .cnt ρ S := nr rfl
/-! ### what an operation gives -/
def varR (o : Option (Option Vl)) (S : Store) : Res Vl := match o with
    | some (some v) => .ok v S
    | _ => .bad
def gloR (o : Option D) (S : Store) : Res Vl := match o with
    | some x => .ok (.d x) S
    | none => .bad
def binR (o : Op) (x y : Vl) (S : Store) : Res Vl := match vw S x, vw S y with
    | some x, some y => (ofO (binop o x y) S).bind fun z S => .ok (.d z) S
    | _, _ => .bad
def negR (x : Vl) (S : Store) : Res Vl := match x with
    | .d (.int i) => .ok (.d (.int (-i))) S
    | _ => .bad
def ixR (x y : Vl) (S : Store) : Res Vl := match vw S x, vw S y with
    | some x, some y => (ofO (ixop x y) S).bind fun z S => .ok (.d z) S
    | _, _ => .bad
def cutR (x : Vl) (l h : Option Int) (S : Store) : Res Vl := match vw S x with
    | some x => (ofO (cutop x l h) S).bind fun z S => .ok (.d z) S
    | none => .bad
def fldR (P : Pg) (f : Nat) (x : Vl) (S : Store) : Res Vl := match vw S x with
    | some (.ins c fs) => if fldOk P c f then (match lkF f fs with
      | some y => .ok (.d y) S
      | none => .bad) else .bad
    | some (.exn c fs) => if xfdOk P c f then (match lkF f fs with
      | some y => .ok (.d y) S
      | none => .bad) else .bad
    | _ => .bad
def isiR (P : Pg) (ts : List TyR) (x : Vl) (S : Store) : Res Vl := match vw S x with
    | some x => (ofO (isiA P x ts) S).bind fun b S => .ok (.d (.bl b)) S
    | none => .bad
def liveR (x : Vl) (S : Store) : Res Vl := match x with
      | .d (.lst xs) => .ok (.ref S.length) (S ++ [.lst xs])
      | _ => .bad
def callR (P : Pg) (cl : Cl) (f : Nat) (vs : List Vl) (zs : List (Nat × Vl)) (S : Store) : Res Vl := match P.fns[f]? with
    | some fd => (match argsOf fd.pars fd.dfl vs zs with
      | some us => cl f none us S
      | none => .bad)
    | none => .bad
def mkR (P : Pg) (cl : Cl) (c : Nat) (vs : List Vl) (zs : List (Nat × Vl)) (S : Store) : Res Vl := match (P.cls[c]?).bind (·.init) with
    | some f => (match P.fns[f]? with
      | some fd => (match argsOf fd.pars fd.dfl (.ref S.length :: vs) zs with
        | some us => mkM P cl c us S
        | none => .bad)
      | none => .bad)
    | none => .bad
def biR (P : Pg) (b : Bi) (vs : List Vl) (S : Store) : Res Vl := match vwL S vs with
    | some xs => (ofO (biop P b xs) S).bind fun z S => .ok (.d z) S
    | none => .bad
def oIntR (v : Vl) (S : Store) : Res (Option Int) := match v with
    | .d (.int i) => .ok (some i) S
    | _ => .bad
def asgR (p : Pt) (v : Vl) (ρ : Env) (S : Store) : SR := match setPv p v S ρ with
    | some ρ => .nx ρ S
    | none => .bad
def setIxR (r k : Vl) (x : D) (ρ : Env) (S : Store) : SR := match r, k with
    | .ref n, .d (.int k) => (match S[n]? with
      | some (.lst ds) => (match L2.ixN ds.length k with
        | some j => .nx ρ (S.set n (.lst (ds.set j x)))
        | none => .bad)
      | _ => .bad)
    | _, _ => .bad
def setFR (P : Pg) (f : Nat) (r : Vl) (x : D) (ρ : Env) (S : Store) : SR := match r with
    | .ref n => (match S[n]? with
      | some (.ins c fs) => if fs.length < 1000 ∧ fldOk P c f = true then .nx ρ (S.set n (.ins c (putF f x fs))) else .bad
      | _ => .bad)
    | _ => .bad
def raiseR (P : Pg) (c : Nat) (xs : List D) (ρ : Env) (S : Store) : SR := match P.exc[c]? with
    | some k => if k.flds.length = xs.length ∧ xs ≠ [] then .exc ⟨c, k.flds.zip xs⟩ ρ S else .bad
    | none => .bad
/-! ### what comes next -/
section
variable (P : Pg) (cl : Cl) (th : Th)
def kLive : Vl → Store → Res Vl := fun x S => liveR x S
def kBin (o : Op) (b : CE) (ρ : Env) : Vl → Store → Res Vl := fun x S => (evE P cl th b ρ S).bind fun y S => binR o x y S
def kBin2 (o : Op) (x : Vl) : Vl → Store → Res Vl := fun y S => binR o x y S
def kNeg : Vl → Store → Res Vl := fun x S => negR x S
def kCmp (o : Co) (b : CE) (ρ : Env) : Vl → Store → Res Vl := fun x S => (evE P cl th b ρ S).bind fun y S => (cmpM P cl o x y S).bind fun r S => .ok (.d (.bl r)) S
def kCmp2 (o : Co) (x : Vl) : Vl → Store → Res Vl := fun y S => (cmpM P cl o x y S).bind fun r S => .ok (.d (.bl r)) S
def kBl : Bool → Store → Res Vl := fun r S => .ok (.d (.bl r)) S
def kNbl : Bool → Store → Res Vl := fun r S => .ok (.d (.bl !r)) S
/-- the second of two tests -/
def iteA (t : Bool) (b : CE) (ρ : Env) (S : Store) : Res Vl := match t with
    | true => evE P cl th b ρ S
    | false => .ok (.d (.bl false)) S
def iteO (t : Bool) (b : CE) (ρ : Env) (S : Store) : Res Vl := match t with
    | true => .ok (.d (.bl true)) S
    | false => evE P cl th b ρ S
def iteE (t : Bool) (a b : CE) (ρ : Env) (S : Store) : Res Vl := match t with
    | true => evE P cl th a ρ S
    | false => evE P cl th b ρ S
def iteS (t : Bool) (a b : List CS) (ρ : Env) (S : Store) : SR := match t with
    | true => exL P cl th a ρ S
    | false => exL P cl th b ρ S
def kChn (o p : Co) (b c : CE) (ρ : Env) : Vl → Store → Res Vl := fun x S => (evE P cl th b ρ S).bind fun y S => (cmpM P cl o x y S).bind fun r S => (match r with
    | true => (evE P cl th c ρ S).bind fun z S => (cmpM P cl p y z S).bind fun r S => .ok (.d (.bl r)) S
    | false => .ok (.d (.bl false)) S)
def kChn2 (o p : Co) (c : CE) (ρ : Env) (x : Vl) : Vl → Store → Res Vl := fun y S => (cmpM P cl o x y S).bind fun r S => (match r with
    | true => (evE P cl th c ρ S).bind fun z S => (cmpM P cl p y z S).bind fun r S => .ok (.d (.bl r)) S
    | false => .ok (.d (.bl false)) S)
def kChn3 (p : Co) (c : CE) (ρ : Env) (y : Vl) : Bool → Store → Res Vl := fun r S => (match r with
    | true => (evE P cl th c ρ S).bind fun z S => (cmpM P cl p y z S).bind fun r S => .ok (.d (.bl r)) S
    | false => .ok (.d (.bl false)) S)
def chnR (t : Bool) (p : Co) (c : CE) (ρ : Env) (y : Vl) (S : Store) : Res Vl := (match t with
    | true => (evE P cl th c ρ S).bind fun z S => (cmpM P cl p y z S).bind fun r S => .ok (.d (.bl r)) S
    | false => .ok (.d (.bl false)) S)
def kAnd (b : CE) (ρ : Env) : Vl → Store → Res Vl := fun x S => (match truV P S x with
    | some true => evE P cl th b ρ S
    | some false => .ok x S
    | none => .bad)
def kOr (b : CE) (ρ : Env) : Vl → Store → Res Vl := fun x S => (match truV P S x with
    | some true => .ok x S
    | some false => evE P cl th b ρ S
    | none => .bad)
def kIte (a b : CE) (ρ : Env) : Bool → Store → Res Vl := fun t S => (match t with
    | true => evE P cl th a ρ S
    | false => evE P cl th b ρ S)
def kTup : List Vl → Store → Res Vl := fun vs S => (frzL vs S).bind fun xs S => .ok (.d (.tup xs)) S
def kTup2 : List D → Store → Res Vl := fun xs S => .ok (.d (.tup xs)) S
def kLst : List Vl → Store → Res Vl := fun vs S => (frzL vs S).bind fun xs S => .ok (.d (.lst xs)) S
def kLst2 : List D → Store → Res Vl := fun xs S => .ok (.d (.lst xs)) S
def kTupS : List D → Store → Res Vl := fun xs S => if xs.length ≤ sizeLine then .ok (.d (.tup xs)) S else .bad
def kLstS : List D → Store → Res Vl := fun xs S => if xs.length ≤ sizeLine then .ok (.d (.lst xs)) S else .bad
def kDct : List (Sum Int Str × D) → Store → Res Vl := fun xs S => .ok (.d (.dct xs)) S
def kIx (b : CE) (ρ : Env) : Vl → Store → Res Vl := fun x S => (evE P cl th b ρ S).bind fun y S => ixR x y S
def kIx2 (x : Vl) : Vl → Store → Res Vl := fun y S => ixR x y S
def kCut (lo hi : Option CE) (ρ : Env) : Vl → Store → Res Vl := fun x S => (evO P cl th lo ρ S).bind fun l S => (evO P cl th hi ρ S).bind fun h S => cutR x l h S
def kCut2 (hi : Option CE) (ρ : Env) (x : Vl) : Option Int → Store → Res Vl := fun l S => (evO P cl th hi ρ S).bind fun h S => cutR x l h S
def kCut3 (x : Vl) (l : Option Int) : Option Int → Store → Res Vl := fun h S => cutR x l h S
def kFld (f : Nat) : Vl → Store → Res Vl := fun x S => fldR P f x S
def kIsi (ts : List TyR) : Vl → Store → Res Vl := fun x S => isiR P ts x S
def kCall (f : Nat) (ks : List (Nat × CE)) (ρ : Env) : List Vl → Store → Res Vl := fun vs S => (evKs P cl th ks ρ S).bind fun zs S => callR P cl f vs zs S
def kCall2 (f : Nat) (vs : List Vl) : List (Nat × Vl) → Store → Res Vl := fun zs S => callR P cl f vs zs S
def kMk (f : Nat) (ks : List (Nat × CE)) (ρ : Env) : List Vl → Store → Res Vl := fun vs S => (evKs P cl th ks ρ S).bind fun zs S => mkR P cl f vs zs S
def kMk2 (f : Nat) (vs : List Vl) : List (Nat × Vl) → Store → Res Vl := fun zs S => mkR P cl f vs zs S
def methR (o : Option Nat) (as : List CE) (ks : List (Nat × CE)) (ρ : Env) (x : Vl) (S : Store) : Res Vl := match o with
    | some f => (evL P cl th as ρ S).bind fun vs S => (evKs P cl th ks ρ S).bind fun zs S => callR P cl f (x :: vs) zs S
    | none => .bad
def kMeth (m : Nat) (as : List CE) (ks : List (Nat × CE)) (ρ : Env) : Vl → Store → Res Vl := fun x S => methR P cl th (methOf P m (vw S x)) as ks ρ x S
def kMeth1 (f : Nat) (ks : List (Nat × CE)) (ρ : Env) (x : Vl) : List Vl → Store → Res Vl := fun vs S => (evKs P cl th ks ρ S).bind fun zs S => callR P cl f (x :: vs) zs S
def kBi (b : Bi) : List Vl → Store → Res Vl := fun vs S => biR P b vs S
def kBm (m : Bm) (as : List CE) (ρ : Env) : Vl → Store → Res Vl := fun x S => if lstAt S x then (evL P cl th as ρ S).bind fun vs S => bmop m x vs S else .bad
def kBm2 (m : Bm) (x : Vl) : List Vl → Store → Res Vl := fun vs S => bmop m x vs S
def kCons (es : List CE) (ρ : Env) : Vl → Store → Res (List Vl) := fun v S => (evL P cl th es ρ S).bind fun vs S => .ok (v :: vs) S
def kCons2 {α : Type} (v : α) : List α → Store → Res (List α) := fun vs S => .ok (v :: vs) S
def sxR (o : Option D) (es : List (Bool × CE)) (ρ : Env) (S : Store) : Res (List D) := match o with
    | some (.lst xs) => (evS P cl th es ρ S).bind fun ys S => .ok (xs ++ ys) S
    | some (.tup xs) => (evS P cl th es ρ S).bind fun ys S => .ok (xs ++ ys) S
    | _ => .bad
def kSx (es : List (Bool × CE)) (ρ : Env) : Vl → Store → Res (List D) := fun v S => sxR P cl th (vw S v) es ρ S
def kApp (xs : List D) : List D → Store → Res (List D) := fun ys S => .ok (xs ++ ys) S
def kSc (es : List (Bool × CE)) (ρ : Env) : Vl → Store → Res (List D) := fun v S => (frz v S).bind fun x S => (evS P cl th es ρ S).bind fun ys S => .ok (x :: ys) S
def kSc2 (es : List (Bool × CE)) (ρ : Env) : D → Store → Res (List D) := fun x S => (evS P cl th es ρ S).bind fun ys S => .ok (x :: ys) S
def kKc (k : Sum Int Str) (es : List (Sum Int Str × CE)) (ρ : Env) : Vl → Store → Res (List (Sum Int Str × D)) := fun v S => (frz v S).bind fun x S => (evK P cl th es ρ S).bind fun ys S => .ok ((k, x) :: ys) S
def kKc2 (k : Sum Int Str) (es : List (Sum Int Str × CE)) (ρ : Env) : D → Store → Res (List (Sum Int Str × D)) := fun x S => (evK P cl th es ρ S).bind fun ys S => .ok ((k, x) :: ys) S
def kKs (k : Nat) (es : List (Nat × CE)) (ρ : Env) : Vl → Store → Res (List (Nat × Vl)) := fun v S => (evKs P cl th es ρ S).bind fun vs S => .ok ((k, v) :: vs) S
def kO : Vl → Store → Res (Option Int) := fun v S => oIntR v S
def kIt (k : ItK) : List Vl → Store → Res (List D) := fun vs S => (frzL vs S).bind fun xs S => ofO (items k xs) S
def kIt2 (k : ItK) : List D → Store → Res (List D) := fun xs S => ofO (items k xs) S
/-- a comprehension over items -/
def compX (own : List Nat) (p : Pt) (cond : Option CE) (elt : CE) (ρ : Env) (its acc : List D) (S : Store) : Res (List D) := loopD (fun x acc S => compT (setPt p x (wipe ρ own)) (fun ρ1 S => evC P cl th cond ρ1 S) (fun ρ1 S => evE P cl th elt ρ1 S) acc S) its acc S
def kComp (own : List Nat) (p : Pt) (cond : Option CE) (elt : CE) (ρ : Env) : List D → Store → Res Vl := fun its S => (compX P cl th own p cond elt ρ its [] S).bind fun ys S => .ok (.d (.lst ys)) S
def comp2X (own own1 : List Nat) (p : Pt) (cond : Option CE) (k1 : ItK) (as1 : List CE) (p1 : Pt) (cond1 : Option CE) (elt : CE) (ρ : Env) (its acc : List D) (S : Store) : Res (List D) := loopD (fun x acc S => compT2 (setPt p x (wipe ρ own)) (fun ρ1 S => evC P cl th cond ρ1 S) (fun ρ1 S => (itR k1 (evL P cl th as1 ρ1 S)).nox)
      (fun ρ1 x1 acc S => compT (setPt p1 x1 (wipe ρ1 own1)) (fun ρ2 S => evC P cl th cond1 ρ2 S) (fun ρ2 S => evE P cl th elt ρ2 S) acc S) acc S) its acc S
def kComp2 (own own1 : List Nat) (p : Pt) (cond : Option CE) (k1 : ItK) (as1 : List CE) (p1 : Pt) (cond1 : Option CE) (elt : CE) (ρ : Env) : List D → Store → Res Vl := fun its S => (comp2X P cl th own own1 p cond k1 as1 p1 cond1 elt ρ its [] S).bind fun ys S => .ok (.d (.lst ys)) S
/-! statements -/
def kSeq (ss : List CS) : Env → Store → SR := fun ρ S => exL P cl th ss ρ S
def kDrop (ρ : Env) : Vl → Store → SR := fun _ S => .nx ρ S
def kAsg (p : Pt) (ρ : Env) : Vl → Store → SR := fun v S => asgR p v ρ S
def kPar (is : List Nat) (ρ : Env) : List Vl → Store → SR := fun vs S => .nx (setAll is vs ρ) S
def kAug (o : Op) (i : Nat) (x : Option (Option Vl)) (ρ : Env) : Vl → Store → SR := fun y S => (match x with
    | some (some x) => (match vw S x, vw S y with
      | some x, some y => (match binop o x y with
        | some z => .nx (ρ.set i (some (.d z))) S
        | none => .bad)
      | _, _ => .bad)
    | _ => .bad)
def kSI (o i : CE) (ρ : Env) : Vl → Store → SR := fun v S => (frz v S).st ρ fun x S => (evE P cl th o ρ S).st ρ fun r S => (evE P cl th i ρ S).st ρ fun k S => setIxR r k x ρ S
def kSI2 (o i : CE) (ρ : Env) : D → Store → SR := fun x S => (evE P cl th o ρ S).st ρ fun r S => (evE P cl th i ρ S).st ρ fun k S => setIxR r k x ρ S
def kSI3 (i : CE) (ρ : Env) (x : D) : Vl → Store → SR := fun r S => (evE P cl th i ρ S).st ρ fun k S => setIxR r k x ρ S
def kSI4 (ρ : Env) (x : D) (r : Vl) : Vl → Store → SR := fun k S => setIxR r k x ρ S
def kSF (o : CE) (f : Nat) (ρ : Env) : Vl → Store → SR := fun v S => (frz v S).st ρ fun x S => (evE P cl th o ρ S).st ρ fun r S => setFR P f r x ρ S
def kSF2 (o : CE) (f : Nat) (ρ : Env) : D → Store → SR := fun x S => (evE P cl th o ρ S).st ρ fun r S => setFR P f r x ρ S
def kSF3 (f : Nat) (ρ : Env) (x : D) : Vl → Store → SR := fun r S => setFR P f r x ρ S
def kIf (a b : List CS) (ρ : Env) : Bool → Store → SR := fun t S => iteS P cl th t a b ρ S
def kRet : Vl → Store → SR := fun v S => .ret v S
def kRaise (c : Nat) (ρ : Env) : List Vl → Store → SR := fun vs S => (frzL vs S).st ρ fun xs S => raiseR P c xs ρ S
def kRaise2 (c : Nat) (ρ : Env) : List D → Store → SR := fun xs S => raiseR P c xs ρ S
/-- a for loop over items -/
def forX (p : Pt) (body : List CS) (its : List D) (ρ : Env) (S : Store) : SR := forM (fun x ρ S => (match setPt p x ρ with
    | some ρ => exL P cl th body ρ S
    | none => .bad)) its ρ S
def kFor (p : Pt) (body : List CS) (ρ : Env) : List D → Store → SR := fun its S => forX P cl th p body its ρ S
def tryX (r : SR) (c slot : Nat) (suite : List CS) : SR := (match r with
    | .exc x ρ S => (match P.exc[x.c]? with
      | some k => if k.sup.contains c then (match exL P cl th suite (ρ.set slot (some (.d (.exn x.c x.fs)))) S with
          | .nx ρ S => .nx (ρ.set slot none) S
          | _ => .bad)
        else .exc x ρ S
      | none => .bad)
    | r => r)
end
section
variable {P : Pg} {cl : Cl} {th : Th} {ρ : Env} {S : Store}
/-! ### going in -/
theorem r_var {i : Nat} : evE P cl th (.var i) ρ S = varR ρ[i]? S := by simp only [evE]; rfl
theorem r_cst {x : D} : evE P cl th (.cst x) ρ S = .ok (.d x) S := by simp only [evE]
theorem r_glo {j : Nat} : evE P cl th (.glo j) ρ S = gloR P.cons[j]? S := by simp only [evE]; rfl
theorem r_live {e : CE} : evE P cl th (.live e) ρ S = (evE P cl th e ρ S).bind kLive := by simp only [evE]; rfl
theorem r_bin {o : Op} {a b : CE} : evE P cl th (.bin o a b) ρ S = (evE P cl th a ρ S).bind (kBin P cl th o b ρ) := by simp only [evE]; rfl
theorem r_neg {a : CE} : evE P cl th (.neg a) ρ S = (evE P cl th a ρ S).bind kNeg := by simp only [evE]; rfl
theorem r_cmp {o : Co} {a b : CE} : evE P cl th (.cmp o a b) ρ S = (evE P cl th a ρ S).bind (kCmp P cl th o b ρ) := by simp only [evE]; rfl
theorem r_chn {o p : Co} {a b c : CE} : evE P cl th (.chn o p a b c) ρ S = (evE P cl th a ρ S).bind (kChn P cl th o p b c ρ) := by simp only [evE]; rfl
theorem r_land {a b : CE} : evE P cl th (.land a b) ρ S = (evE P cl th a ρ S).bind (kAnd P cl th b ρ) := by simp only [evE]; rfl
theorem r_lor {a b : CE} : evE P cl th (.lor a b) ρ S = (evE P cl th a ρ S).bind (kOr P cl th b ρ) := by simp only [evE]; rfl
theorem r_lnot {a : CE} : evE P cl th (.lnot a) ρ S = (tst P (evE P cl th a ρ S)).bind kNbl := by simp only [evE]; rfl
theorem r_ite {c a b : CE} : evE P cl th (.ite c a b) ρ S = (tst P (evE P cl th c ρ S)).bind (kIte P cl th a b ρ) := by simp only [evE]; rfl
theorem r_tup {es : List CE} : evE P cl th (.tup es) ρ S = (evL P cl th es ρ S).bind kTup := by simp only [evE]; rfl
theorem r_lst {es : List CE} : evE P cl th (.lst es) ρ S = (evL P cl th es ρ S).bind kLst := by simp only [evE]; rfl
theorem r_tupS {es : List (Bool × CE)} : evE P cl th (.tupS es) ρ S = (evS P cl th es ρ S).bind kTupS := by simp only [evE]; rfl
theorem r_lstS {es : List (Bool × CE)} : evE P cl th (.lstS es) ρ S = (evS P cl th es ρ S).bind kLstS := by simp only [evE]; rfl
theorem r_dct {es : List (Sum Int Str × CE)} : evE P cl th (.dct es) ρ S = (evK P cl th es ρ S).bind kDct := by simp only [evE]; rfl
theorem r_ix {a b : CE} : evE P cl th (.ix a b) ρ S = (evE P cl th a ρ S).bind (kIx P cl th b ρ) := by simp only [evE]; rfl
theorem r_cut {a : CE} {lo hi : Option CE} : evE P cl th (.cut a lo hi) ρ S = (evE P cl th a ρ S).bind (kCut P cl th lo hi ρ) := by simp only [evE]; rfl
theorem r_fld {a : CE} {f : Nat} : evE P cl th (.fld a f) ρ S = (evE P cl th a ρ S).bind (kFld P f) := by simp only [evE]; rfl
theorem r_isi {a : CE} {ts : List TyR} : evE P cl th (.isi a ts) ρ S = (evE P cl th a ρ S).bind (kIsi P ts) := by simp only [evE]; rfl
theorem r_call {f : Nat} {as : List CE} {ks : List (Nat × CE)} : evE P cl th (.call f as ks) ρ S = (evL P cl th as ρ S).bind (kCall P cl th f ks ρ) := by simp only [evE]; rfl
theorem r_mk {f : Nat} {as : List CE} {ks : List (Nat × CE)} : evE P cl th (.mk f as ks) ρ S = (evL P cl th as ρ S).bind (kMk P cl th f ks ρ) := by simp only [evE]; rfl
theorem r_meth {o : CE} {m : Nat} {as : List CE} {ks : List (Nat × CE)} : evE P cl th (.meth o m as ks) ρ S = (evE P cl th o ρ S).bind (kMeth P cl th m as ks ρ) := by simp only [evE]; rfl
theorem r_bi {b : Bi} {as : List CE} : evE P cl th (.bi b as) ρ S = (evL P cl th as ρ S).bind (kBi P b) := by simp only [evE]; rfl
theorem r_bm {m : Bm} {o : CE} {as : List CE} : evE P cl th (.bm m o as) ρ S = (evE P cl th o ρ S).bind (kBm P cl th m as ρ) := by simp only [evE]; rfl
theorem r_comp {own : List Nat} {k : ItK} {as : List CE} {p : Pt} {cond : Option CE} {elt : CE} : evE P cl th (.comp own k as p cond elt) ρ S = ((evL P cl th as ρ S).bind (kIt k)).bind (kComp P cl th own p cond elt ρ) := by simp only [evE]; rfl
theorem r_comp2 {own own1 : List Nat} {k k1 : ItK} {as as1 : List CE} {p p1 : Pt} {cond cond1 : Option CE} {elt : CE} : evE P cl th (.comp2 own own1 k as p cond k1 as1 p1 cond1 elt) ρ S = ((evL P cl th as ρ S).bind (kIt k)).bind (kComp2 P cl th own own1 p cond k1 as1 p1 cond1 elt ρ) := by simp only [evE]; rfl
theorem r_heard {f : Nat} {body : CE} : evE P cl th (.heard f body) ρ S = hearM P (cl f none) (evE P cl th body ρ S) := by simp only [evE]
theorem raise_e {c : Nat} {xs : List D} {k : XDef} (h : P.exc[c]? = some k) (h2 : k.flds.length = xs.length) (h3 : xs ≠ []) : raiseR P c xs ρ S = .exc ⟨c, k.flds.zip xs⟩ ρ S := by
  unfold raiseR
  rw [h]
  dsimp only
  rw [if_pos ⟨h2, h3⟩]
theorem hear_ok {c : List Vl → Store → Res Vl} : hearM P c (.ok v S) = c [v, .d .non] S := nr rfl
theorem hear_exc {c : List Vl → Store → Res Vl} {i : Nat} {fs : List (Nat × D)} {k : XDef} (h : P.exc[i]? = some k) : hearM P c (.exc ⟨i, fs⟩ S) = c [.d .non, .d (.exn i fs)] S := by
  unfold hearM
  dsimp only
  rw [h]
theorem r_ask {t : Store → Res Vl} : evE P cl (some t) .ask ρ S = t S := by simp only [evE]
theorem r_lnil : evL P cl th [] ρ S = .ok [] S := by simp only [evL]
theorem r_lcons {e : CE} {es : List CE} : evL P cl th (e :: es) ρ S = (evE P cl th e ρ S).bind (kCons P cl th es ρ) := by simp only [evL]; rfl
theorem r_snil : evS P cl th [] ρ S = .ok [] S := by simp only [evS]
theorem r_sT {e : CE} {es : List (Bool × CE)} : evS P cl th ((true, e) :: es) ρ S = (evE P cl th e ρ S).bind (kSx P cl th es ρ) := by simp only [evS]; rfl
theorem r_sF {e : CE} {es : List (Bool × CE)} : evS P cl th ((false, e) :: es) ρ S = (evE P cl th e ρ S).bind (kSc P cl th es ρ) := by simp only [evS]; rfl
theorem r_knil : evK P cl th [] ρ S = .ok [] S := by simp only [evK]
theorem r_kcons {k : Sum Int Str} {e : CE} {es : List (Sum Int Str × CE)} : evK P cl th ((k, e) :: es) ρ S = (evE P cl th e ρ S).bind (kKc P cl th k es ρ) := by simp only [evK]; rfl
theorem r_ksnil : evKs P cl th [] ρ S = .ok [] S := by simp only [evKs]
theorem r_kscons {k : Nat} {e : CE} {es : List (Nat × CE)} : evKs P cl th ((k, e) :: es) ρ S = (evE P cl th e ρ S).bind (kKs P cl th k es ρ) := by simp only [evKs]; rfl
theorem r_onone : evO P cl th none ρ S = .ok none S := by simp only [evO]
theorem r_osome {e : CE} : evO P cl th (some e) ρ S = (evE P cl th e ρ S).bind kO := by simp only [evO]; rfl
theorem r_cnone : evC P cl th none ρ S = .ok true S := by simp only [evC]
theorem r_csome {e : CE} : evC P cl th (some e) ρ S = tst P (evE P cl th e ρ S) := by simp only [evC]
/-! ### going on -/
variable {v x y : Vl} {o : Op} {b c e : CE}
theorem k_live : (Res.ok v S).bind kLive = liveR v S := nr rfl
theorem k_bin : (Res.ok v S).bind (kBin P cl th o b ρ) = (evE P cl th b ρ S).bind (kBin2 o v) := nr rfl
theorem k_bin2 : (Res.ok y S).bind (kBin2 o x) = binR o x y S := nr rfl
theorem k_neg : (Res.ok v S).bind kNeg = negR v S := nr rfl
theorem k_cmp {o : Co} : (Res.ok v S).bind (kCmp P cl th o b ρ) = (evE P cl th b ρ S).bind (kCmp2 P cl o v) := nr rfl
theorem k_cmp2 {o : Co} : (Res.ok y S).bind (kCmp2 P cl o x) = (cmpM P cl o x y S).bind kBl := nr rfl
theorem k_bl {t : Bool} : (Res.ok t S).bind kBl = .ok (.d (.bl t)) S := nr rfl
theorem k_nbl {t : Bool} : (Res.ok t S).bind kNbl = .ok (.d (.bl !t)) S := nr rfl
theorem k_chn {o p : Co} : (Res.ok v S).bind (kChn P cl th o p b c ρ) = (evE P cl th b ρ S).bind (kChn2 P cl th o p c ρ v) := nr rfl
theorem k_chn2 {o p : Co} : (Res.ok y S).bind (kChn2 P cl th o p c ρ x) = (cmpM P cl o x y S).bind (kChn3 P cl th p c ρ y) := nr rfl
theorem k_chn3 {p : Co} {t : Bool} : (Res.ok t S).bind (kChn3 P cl th p c ρ y) = chnR P cl th t p c ρ y S := nr rfl
theorem chn_t {p : Co} : chnR P cl th true p c ρ y S = (evE P cl th c ρ S).bind (kCmp2 P cl p y) := nr rfl
theorem chn_f {p : Co} : chnR P cl th false p c ρ y S = .ok (.d (.bl false)) S := nr rfl
theorem k_and {t : Bool} : (Res.ok (.d (.bl t)) S).bind (kAnd P cl th b ρ) = iteA P cl th t b ρ S := by cases t <;> rfl
theorem k_or {t : Bool} : (Res.ok (.d (.bl t)) S).bind (kOr P cl th b ρ) = iteO P cl th t b ρ S := by cases t <;> rfl
theorem iteA_t : iteA P cl th true b ρ S = evE P cl th b ρ S := nr rfl
theorem iteA_f : iteA P cl th false b ρ S = .ok (.d (.bl false)) S := nr rfl
theorem iteA_ok {t r : Bool} (h : evE P cl th b ρ S = .ok (.d (.bl r)) S) : iteA P cl th t b ρ S = .ok (.d (.bl (t && r))) S := by
  cases t
  · rfl
  · exact h
/-- both were looked at; the store stayed -/
def andR (t : Bool) (S : Store) (r : Res Vl) : Res Vl := match t with
    | true => r
    | false => .ok (.d (.bl false)) S
def orR (t : Bool) (S : Store) (r : Res Vl) : Res Vl := match t with
    | true => .ok (.d (.bl true)) S
    | false => r
theorem iteA_s {t : Bool} : iteA P cl th t b ρ S = andR t S (evE P cl th b ρ S) := by cases t <;> rfl
theorem iteO_s {t : Bool} : iteO P cl th t b ρ S = orR t S (evE P cl th b ρ S) := by cases t <;> rfl
theorem chn_s {t : Bool} {p : Co} : chnR P cl th t p c ρ y S = andR t S ((evE P cl th c ρ S).bind (kCmp2 P cl p y)) := by cases t <;> rfl
theorem andR_t {r : Res Vl} : andR true S r = r := nr rfl
theorem andR_f {r : Res Vl} : andR false S r = .ok (.d (.bl false)) S := nr rfl
theorem andR_b {t r : Bool} : andR t S (.ok (.d (.bl r)) S) = .ok (.d (.bl (t && r))) S := by cases t <;> rfl
theorem orR_t {r : Res Vl} : orR true S r = .ok (.d (.bl true)) S := nr rfl
theorem orR_f {r : Res Vl} : orR false S r = r := nr rfl
theorem orR_b {t r : Bool} : orR t S (.ok (.d (.bl r)) S) = .ok (.d (.bl (t || r))) S := by cases t <;> rfl
theorem iteO_t : iteO P cl th true b ρ S = .ok (.d (.bl true)) S := nr rfl
theorem iteO_f : iteO P cl th false b ρ S = evE P cl th b ρ S := nr rfl
theorem iteO_ok {t r : Bool} (h : evE P cl th b ρ S = .ok (.d (.bl r)) S) : iteO P cl th t b ρ S = .ok (.d (.bl (t || r))) S := by
  cases t
  · exact h
  · rfl
theorem k_ite {a b : CE} {t : Bool} : (Res.ok t S).bind (kIte P cl th a b ρ) = iteE P cl th t a b ρ S := nr rfl
theorem iteE_t {a b : CE} : iteE P cl th true a b ρ S = evE P cl th a ρ S := nr rfl
theorem iteE_f {a b : CE} : iteE P cl th false a b ρ S = evE P cl th b ρ S := nr rfl
theorem iteS_t {a b : List CS} : iteS P cl th true a b ρ S = exL P cl th a ρ S := nr rfl
theorem iteS_f {a b : List CS} : iteS P cl th false a b ρ S = exL P cl th b ρ S := nr rfl
theorem k_tup {vs : List Vl} : (Res.ok vs S).bind kTup = (frzL vs S).bind kTup2 := nr rfl
theorem k_tup2 {xs : List D} : (Res.ok xs S).bind kTup2 = .ok (.d (.tup xs)) S := nr rfl
theorem k_lst {vs : List Vl} : (Res.ok vs S).bind kLst = (frzL vs S).bind kLst2 := nr rfl
theorem k_lst2 {xs : List D} : (Res.ok xs S).bind kLst2 = .ok (.d (.lst xs)) S := nr rfl
theorem k_tupS {xs : List D} (h : xs.length ≤ sizeLine) : (Res.ok xs S).bind kTupS = .ok (.d (.tup xs)) S := if_pos h
theorem k_lstS {xs : List D} (h : xs.length ≤ sizeLine) : (Res.ok xs S).bind kLstS = .ok (.d (.lst xs)) S := if_pos h
theorem k_dct {xs : List (Sum Int Str × D)} : (Res.ok xs S).bind kDct = .ok (.d (.dct xs)) S := nr rfl
theorem k_ix : (Res.ok v S).bind (kIx P cl th b ρ) = (evE P cl th b ρ S).bind (kIx2 v) := nr rfl
theorem k_ix2 : (Res.ok y S).bind (kIx2 x) = ixR x y S := nr rfl
theorem k_cut {lo hi : Option CE} : (Res.ok v S).bind (kCut P cl th lo hi ρ) = (evO P cl th lo ρ S).bind (kCut2 P cl th hi ρ v) := nr rfl
theorem k_cut2 {hi : Option CE} {l : Option Int} : (Res.ok l S).bind (kCut2 P cl th hi ρ v) = (evO P cl th hi ρ S).bind (kCut3 v l) := nr rfl
theorem k_cut3 {l h : Option Int} : (Res.ok h S).bind (kCut3 v l) = cutR v l h S := nr rfl
theorem k_fld {f : Nat} : (Res.ok v S).bind (kFld P f) = fldR P f v S := nr rfl
theorem k_isi {ts : List TyR} : (Res.ok v S).bind (kIsi P ts) = isiR P ts v S := nr rfl
theorem k_call {f : Nat} {vs : List Vl} {ks : List (Nat × CE)} : (Res.ok vs S).bind (kCall P cl th f ks ρ) = (evKs P cl th ks ρ S).bind (kCall2 P cl f vs) := nr rfl
theorem k_call2 {f : Nat} {vs : List Vl} {zs : List (Nat × Vl)} : (Res.ok zs S).bind (kCall2 P cl f vs) = callR P cl f vs zs S := nr rfl
theorem k_mk {f : Nat} {vs : List Vl} {ks : List (Nat × CE)} : (Res.ok vs S).bind (kMk P cl th f ks ρ) = (evKs P cl th ks ρ S).bind (kMk2 P cl f vs) := nr rfl
theorem k_mk2 {f : Nat} {vs : List Vl} {zs : List (Nat × Vl)} : (Res.ok zs S).bind (kMk2 P cl f vs) = mkR P cl f vs zs S := nr rfl
theorem k_meth {m : Nat} {as : List CE} {ks : List (Nat × CE)} : (Res.ok v S).bind (kMeth P cl th m as ks ρ) = methR P cl th (methOf P m (vw S v)) as ks ρ v S := nr rfl
theorem meth_some {f : Nat} {as : List CE} {ks : List (Nat × CE)} : methR P cl th (some f) as ks ρ v S = (evL P cl th as ρ S).bind (kMeth1 P cl th f ks ρ v) := nr rfl
theorem k_meth1 {f : Nat} {vs : List Vl} {ks : List (Nat × CE)} : (Res.ok vs S).bind (kMeth1 P cl th f ks ρ v) = (evKs P cl th ks ρ S).bind (kCall2 P cl f (v :: vs)) := nr rfl
theorem k_bi {b : Bi} {vs : List Vl} : (Res.ok vs S).bind (kBi P b) = biR P b vs S := nr rfl
theorem k_bm {m : Bm} {as : List CE} (h : lstAt S v = true) : (Res.ok v S).bind (kBm P cl th m as ρ) = (evL P cl th as ρ S).bind (kBm2 m v) := if_pos h
theorem k_bm2 {m : Bm} {vs : List Vl} : (Res.ok vs S).bind (kBm2 m v) = bmop m v vs S := nr rfl
theorem k_cons {es : List CE} : (Res.ok v S).bind (kCons P cl th es ρ) = (evL P cl th es ρ S).bind (kCons2 v) := nr rfl
theorem k_cons2 {α : Type} {v : α} {vs : List α} : (Res.ok vs S).bind (kCons2 v) = .ok (v :: vs) S := nr rfl
theorem k_sx {es : List (Bool × CE)} : (Res.ok v S).bind (kSx P cl th es ρ) = sxR P cl th (vw S v) es ρ S := nr rfl
theorem sx_l {xs : List D} {es : List (Bool × CE)} : sxR P cl th (some (.lst xs)) es ρ S = (evS P cl th es ρ S).bind (kApp xs) := nr rfl
theorem sx_t {xs : List D} {es : List (Bool × CE)} : sxR P cl th (some (.tup xs)) es ρ S = (evS P cl th es ρ S).bind (kApp xs) := nr rfl
theorem k_app {xs ys : List D} : (Res.ok ys S).bind (kApp xs) = .ok (xs ++ ys) S := nr rfl
theorem k_sc {es : List (Bool × CE)} : (Res.ok v S).bind (kSc P cl th es ρ) = (frz v S).bind (kSc2 P cl th es ρ) := nr rfl
theorem k_sc2 {z : D} {es : List (Bool × CE)} : (Res.ok z S).bind (kSc2 P cl th es ρ) = (evS P cl th es ρ S).bind (kCons2 z) := nr rfl
theorem k_kc {k : Sum Int Str} {es : List (Sum Int Str × CE)} : (Res.ok v S).bind (kKc P cl th k es ρ) = (frz v S).bind (kKc2 P cl th k es ρ) := nr rfl
theorem k_kc2 {k : Sum Int Str} {z : D} {es : List (Sum Int Str × CE)} : (Res.ok z S).bind (kKc2 P cl th k es ρ) = (evK P cl th es ρ S).bind (kCons2 (k, z)) := nr rfl
theorem k_ks {k : Nat} {es : List (Nat × CE)} : (Res.ok v S).bind (kKs P cl th k es ρ) = (evKs P cl th es ρ S).bind (kCons2 (k, v)) := nr rfl
theorem k_o : (Res.ok v S).bind kO = oIntR v S := nr rfl
theorem k_it {k : ItK} {vs : List Vl} : (Res.ok vs S).bind (kIt k) = (frzL vs S).bind (kIt2 k) := nr rfl
theorem k_it2 {k : ItK} {xs : List D} : (Res.ok xs S).bind (kIt2 k) = ofO (items k xs) S := nr rfl
theorem k_comp {own : List Nat} {p : Pt} {cond : Option CE} {elt : CE} {its : List D} : (Res.ok its S).bind (kComp P cl th own p cond elt ρ) = (compX P cl th own p cond elt ρ its [] S).bind kLst2 := nr rfl
theorem k_comp2 {own own1 : List Nat} {p p1 : Pt} {cond cond1 : Option CE} {k1 : ItK} {as1 : List CE} {elt : CE} {its : List D} : (Res.ok its S).bind (kComp2 P cl th own own1 p cond k1 as1 p1 cond1 elt ρ) = (comp2X P cl th own own1 p cond k1 as1 p1 cond1 elt ρ its [] S).bind kLst2 := nr rfl
/-! ### values -/
theorem varR_ok : varR (some (some v)) S = .ok v S := nr rfl
theorem gloR_ok {z : D} : gloR (some z) S = .ok (.d z) S := nr rfl
theorem oIntR_i {i : Int} : oIntR (.d (.int i)) S = .ok (some i) S := nr rfl
theorem vw_d' {z : D} : vw S (.d z) = some z := nr rfl
theorem frzL_nil : frzL [] S = .ok [] S := nr rfl
theorem frzL_d {x : D} {vs : List Vl} : frzL (.d x :: vs) S = (frzL vs S).bind (kCons2 x) := nr rfl
theorem tst_b {b : Bool} : tst P (.ok (.d (.bl b)) S) = .ok b S := nr rfl
theorem tst_i {i : Int} : tst P (.ok (.d (.int i)) S) = .ok (i != 0) S := nr rfl
theorem tst_exc {x : Exn} : tst P (.exc x S) = .exc x S := nr rfl
theorem liveR_l {xs : List D} : liveR (.d (.lst xs)) S = .ok (.ref S.length) (S ++ [.lst xs]) := nr rfl
theorem binR_d {o : Op} {x y z : D} (h : binop o x y = some z) : binR o (.d x) (.d y) S = .ok (.d z) S := by
  show (ofO (binop o x y) S).bind _ = _
  rw [h]
  rfl
theorem add_i {i j : Int} : binR .add (.d (.int i)) (.d (.int j)) S = .ok (.d (.int (i + j))) S := nr rfl
theorem sub_i {i j : Int} : binR .sub (.d (.int i)) (.d (.int j)) S = .ok (.d (.int (i - j))) S := nr rfl
theorem mul_i {i j : Int} (h : (-(2 ^ 64) < i ∧ i < 2 ^ 64) ∨ (-(2 ^ 64) < j ∧ j < 2 ^ 64)) : binR .mul (.d (.int i)) (.d (.int j)) S = .ok (.d (.int (i * j))) S := binR_d (by
  unfold binop
  refine if_pos ?_
  rw [Bool.or_eq_true]
  exact h.imp (fun h => decide_eq_true h) fun h => decide_eq_true h)
theorem mod_i {i j : Int} (h : 0 < j) : binR .mod (.d (.int i)) (.d (.int j)) S = .ok (.d (.int (i % j))) S := binR_d (if_pos h)
theorem fdiv_i {i j : Int} (h : 0 < j ∧ j < 1073741824) : binR .fdiv (.d (.int i)) (.d (.int j)) S = .ok (.d (.int (i / j))) S := binR_d (if_pos h)
theorem add_t {xs ys : List D} (h : xs.length + ys.length ≤ sizeLine) : binR .add (.d (.tup xs)) (.d (.tup ys)) S = .ok (.d (.tup (xs ++ ys))) S := binR_d (if_pos h)
theorem add_l {xs ys : List D} (h : xs.length + ys.length ≤ sizeLine) : binR .add (.d (.lst xs)) (.d (.lst ys)) S = .ok (.d (.lst (xs ++ ys))) S := binR_d (if_pos h)
theorem negR_i {i : Int} : negR (.d (.int i)) S = .ok (.d (.int (-i))) S := nr rfl
theorem cmpR_d {o : Co} {a b : D} {r : Bool} (h3 : ownEq P o a = none) (h4 : cmpop o a b = some r) : cmpM P cl o (.d a) (.d b) S = .ok r S := by
  unfold cmpM
  show (match ownEq P o a with
    | some f => _
    | none => ofO (cmpop o a b) S) = _
  rw [h3, h4]
  rfl
theorem lt_i {i j : Int} : cmpM P cl .lt (.d (.int i)) (.d (.int j)) S = .ok (decide (i < j)) S := nr rfl
theorem le_i {i j : Int} : cmpM P cl .le (.d (.int i)) (.d (.int j)) S = .ok (decide (i ≤ j)) S := nr rfl
theorem gt_i {i j : Int} : cmpM P cl .gt (.d (.int i)) (.d (.int j)) S = .ok (decide (j < i)) S := nr rfl
theorem ge_i {i j : Int} : cmpM P cl .ge (.d (.int i)) (.d (.int j)) S = .ok (decide (j ≤ i)) S := nr rfl
theorem isN_n {x : D} : cmpM P cl .isN (.d x) (.d .non) S = .ok (isNon x) S := cmpR_d (by cases x <;> rfl) rfl
theorem notN_n {x : D} : cmpM P cl .notN (.d x) (.d .non) S = .ok (!isNon x) S := cmpR_d (by cases x <;> rfl) rfl
theorem isT_b {x : D} : cmpM P cl .isT (.d x) (.d (.bl true)) S = .ok (isTru x) S := cmpR_d (by cases x <;> rfl) rfl
theorem notT_b {x : D} : cmpM P cl .notT (.d x) (.d (.bl true)) S = .ok (!isTru x) S := cmpR_d (by cases x <;> rfl) rfl
theorem ixR_d {x y z : D} (h : ixop x y = some z) : ixR (.d x) (.d y) S = .ok (.d z) S := by
  show (ofO (ixop x y) S).bind _ = _
  rw [h]
  rfl
theorem fldR_d {c f : Nat} {fs : List (Nat × D)} {y : D} (h1 : fldOk P c f = true) (h2 : lkF f fs = some y) : fldR P f (.d (.ins c fs)) S = .ok (.d y) S := by
  show (if fldOk P c f then (match lkF f fs with
      | some y => Res.ok (Vl.d y) S
      | none => .bad) else .bad) = _
  rw [if_pos h1, h2]
theorem isiR_d {x : D} {ts : List TyR} {b : Bool} (h : isiA P x ts = some b) : isiR P ts (.d x) S = .ok (.d (.bl b)) S := by
  show (ofO (isiA P x ts) S).bind _ = _
  rw [h]
  rfl
theorem biR_d {b : Bi} {vs : List Vl} {xs : List D} {z : D} (h1 : vwL S vs = some xs) (h2 : biop P b xs = some z) : biR P b vs S = .ok (.d z) S := by
  unfold biR
  rw [h1]
  show (ofO (biop P b xs) S).bind _ = _
  rw [h2]
  rfl
theorem len_l {xs : List D} : biR P .len [.d (.lst xs)] S = .ok (.d (.int xs.length)) S := nr rfl
theorem len_t {xs : List D} : biR P .len [.d (.tup xs)] S = .ok (.d (.int xs.length)) S := nr rfl
theorem list_l {xs : List D} : biR P .list [.d (.lst xs)] S = .ok (.d (.lst xs)) S := nr rfl
theorem list_t {xs : List D} : biR P .list [.d (.tup xs)] S = .ok (.d (.lst xs)) S := nr rfl
theorem tuple_l {xs : List D} : biR P .tuple [.d (.lst xs)] S = .ok (.d (.tup xs)) S := nr rfl
theorem tuple_t {xs : List D} : biR P .tuple [.d (.tup xs)] S = .ok (.d (.tup xs)) S := nr rfl
theorem int_i {i : Int} : biR P .int [.d (.int i)] S = .ok (.d (.int i)) S := nr rfl
theorem int_b {b : Bool} : biR P .int [.d (.bl b)] S = .ok (.d (.int (if b then 1 else 0))) S := nr rfl
theorem abs_i {i : Int} : biR P .abs [.d (.int i)] S = .ok (.d (.int (if i < 0 then -i else i))) S := nr rfl
theorem callR_of {f : Nat} {vs us : List Vl} {zs : List (Nat × Vl)} {fd : FDef} (h1 : P.fns[f]? = some fd) (h2 : argsOf fd.pars fd.dfl vs zs = some us) : callR P cl f vs zs S = cl f none us S := by
  unfold callR
  rw [h1]
  dsimp only
  rw [h2]
theorem it_rng {j : Int} (h : -16777216 ≤ j ∧ j ≤ 16777216) : items .rng1 [.int j] = some (rngD 0 j.toNat) := if_pos h
theorem it_l {xs : List D} : items .seq [.lst xs] = some xs := nr rfl
theorem it_t {xs : List D} : items .seq [.tup xs] = some xs := nr rfl
theorem it_enl {xs : List D} : items .enum [.lst xs] = some (enumD 0 xs) := nr rfl
theorem it_ent {xs : List D} : items .enum [.tup xs] = some (enumD 0 xs) := nr rfl
theorem it_zl {xs ys : List D} : items .zip [.lst xs, .lst ys] = some (zipD xs ys) := nr rfl
theorem it_zt {xs ys : List D} : items .zip [.tup xs, .tup ys] = some (zipD xs ys) := nr rfl
/-! ### comprehensions -/
def ptE (p : Pt) (v : D) (ρ : Env) (e : CE) (P : Pg) (cl : Cl) (th : Th) (S : Store) : Res Vl := match setPt p v ρ with
    | some ρ => evE P cl th e ρ S
    | none => .bad
theorem ptE_nm {i : Nat} {z : D} {e : CE} : ptE (.nm i) z ρ e P cl th S = evE P cl th e (ρ.set i (some (.d z))) S := nr rfl
theorem ptE_2 {i j : Nat} {a b : D} {e : CE} : ptE (.tup [i, j]) (.tup [a, b]) ρ e P cl th S = evE P cl th e ((ρ.set i (some (.d a))).set j (some (.d b))) S := nr rfl
theorem ptE_3 {i j k : Nat} {a b c : D} {e : CE} : ptE (.tup [i, j, k]) (.tup [a, b, c]) ρ e P cl th S = evE P cl th e (((ρ.set i (some (.d a))).set j (some (.d b))).set k (some (.d c))) S := nr rfl
def mapR {α : Type} (f : α → Res Vl) : List α → Store → Res (List D)
  | [], S => .ok [] S
  | x :: xs, S => match f x with
    | .ok (.d y) _ => (mapR f xs S).bind (kCons2 y)
    | _ => .bad
theorem mapR_ok {α : Type} {g : α → D} {S : Store} : ∀ {xs : List α}, mapR (fun x => .ok (.d (g x)) S) xs S = .ok (xs.map g) S
  | [] => rfl
  | x :: xs => by
    show (mapR _ xs S).bind _ = _
    rw [mapR_ok (xs := xs)]
    rfl
theorem mapR_cg {α : Type} {f g : α → Res Vl} {xs : List α} {S : Store} (h : ∀ x ∈ xs, f x = g x) : mapR f xs S = mapR g xs S := by
  induction xs with
  | nil => rfl
  | cons x xs ih =>
    unfold mapR
    rw [h x List.mem_cons_self, ih fun y hy => h y (List.mem_cons_of_mem _ hy)]
theorem compX_mapR {α : Type} {own : List Nat} {p : Pt} {elt : CE} {e : α → D} {xs : List α} {ys : List D} {acc : List D} (hz : acc.length + xs.length ≤ sizeLine) (h : mapR (fun x => ptE p (e x) (wipe ρ own) elt P cl th S) xs S = .ok ys S) (hs : ∀ x ∈ xs, ∃ z, ptE p (e x) (wipe ρ own) elt P cl th S = .ok (.d z) S) : compX P cl th own p none elt ρ (xs.map e) acc S = .ok (acc ++ ys) S := by
  induction xs generalizing acc ys with
  | nil =>
    cases h
    show Res.ok acc S = _
    rw [List.append_nil]
  | cons x xs ih =>
    rw [List.length_cons] at hz
    obtain ⟨z, hz1⟩ := hs x List.mem_cons_self
    unfold mapR at h
    simp only [hz1] at h
    cases hm : mapR (fun x => ptE p (e x) (wipe ρ own) elt P cl th S) xs S with
    | ok ys1 S1 =>
      rw [hm] at h
      have h : Res.ok (z :: ys1) S1 = Res.ok ys S := h
      injection h with h1 h2
      subst h1 h2
      have key : compT (setPt p (e x) (wipe ρ own)) (fun ρ1 S => evC P cl th none ρ1 S) (fun ρ1 S => evE P cl th elt ρ1 S) acc S1 = .ok (acc ++ [z]) S1 := by
        unfold ptE at hz1
        unfold compT
        cases hp : setPt p (e x) (wipe ρ own) with
        | none => rw [hp] at hz1; cases hz1
        | some ρ1 =>
          rw [hp] at hz1
          dsimp only at hz1 ⊢
          simp only [evC, nox_ok, bind_ok, hz1, frz_d]
          rw [if_pos (by omega)]
      show (compT _ _ _ _ _).bind _ = _
      rw [key]
      show compX P cl th own p none elt ρ (xs.map e) (acc ++ [z]) S1 = _
      rw [ih (by rw [List.length_append, List.length_singleton]; omega) hm fun y hy => hs y (List.mem_cons_of_mem _ hy), List.append_assoc]
      rfl
    | exc x S1 => rw [hm] at h; cases h
    | bad => rw [hm] at h; cases h
/-- [elt for p in xs]: each element by itself -/
theorem comp_map {α : Type} {own : List Nat} {p : Pt} {elt : CE} {e g : α → D} {xs : List α} (hz : xs.length ≤ sizeLine) (h : ∀ x ∈ xs, ptE p (e x) (wipe ρ own) elt P cl th S = .ok (.d (g x)) S) : compX P cl th own p none elt ρ (xs.map e) [] S = .ok (xs.map g) S := by
  refine compX_mapR (acc := []) (by simpa using hz) ?_ fun x hx => ⟨g x, h x hx⟩
  rw [mapR_cg h, mapR_ok]
theorem comp_map' {own : List Nat} {p : Pt} {elt : CE} {g : D → D} {xs : List D} (hz : xs.length ≤ sizeLine) (h : ∀ x ∈ xs, ptE p x (wipe ρ own) elt P cl th S = .ok (.d (g x)) S) : compX P cl th own p none elt ρ xs [] S = .ok (xs.map g) S := by
  have := comp_map (e := id) hz h
  rwa [List.map_id] at this
def ptC (p : Pt) (v : D) (ρ : Env) (e : CE) (P : Pg) (cl : Cl) (th : Th) (S : Store) : Res Bool := match setPt p v ρ with
    | some ρ => tst P (evE P cl th e ρ S)
    | none => .bad
theorem ptC_nm {i : Nat} {z : D} {e : CE} : ptC (.nm i) z ρ e P cl th S = tst P (evE P cl th e (ρ.set i (some (.d z))) S) := nr rfl
theorem ptC_2 {i j : Nat} {a b : D} {e : CE} : ptC (.tup [i, j]) (.tup [a, b]) ρ e P cl th S = tst P (evE P cl th e ((ρ.set i (some (.d a))).set j (some (.d b))) S) := nr rfl
theorem ptC_3 {i j k : Nat} {a b c : D} {e : CE} : ptC (.tup [i, j, k]) (.tup [a, b, c]) ρ e P cl th S = tst P (evE P cl th e (((ρ.set i (some (.d a))).set j (some (.d b))).set k (some (.d c))) S) := nr rfl
theorem compX_fil {α : Type} {own : List Nat} {p : Pt} {elt co : CE} {e g : α → D} {c : α → Bool} {xs : List α} {acc : List D} (hz : acc.length + xs.length ≤ sizeLine) (hc : ∀ x ∈ xs, ptC p (e x) (wipe ρ own) co P cl th S = .ok (c x) S) (h : ∀ x ∈ xs, c x = true → ptE p (e x) (wipe ρ own) elt P cl th S = .ok (.d (g x)) S) : compX P cl th own p (some co) elt ρ (xs.map e) acc S = .ok (acc ++ (xs.filter c).map g) S := by
  induction xs generalizing acc with
  | nil =>
    show Res.ok acc S = _
    simp
  | cons x xs ih =>
    rw [List.length_cons] at hz
    have h1 := hc x List.mem_cons_self
    have key : compT (setPt p (e x) (wipe ρ own)) (fun ρ1 S => evC P cl th (some co) ρ1 S) (fun ρ1 S => evE P cl th elt ρ1 S) acc S = .ok (acc ++ if c x then [g x] else []) S := by
      unfold ptC at h1
      unfold compT
      cases hp : setPt p (e x) (wipe ρ own) with
      | none => rw [hp] at h1; cases h1
      | some ρ1 =>
        rw [hp] at h1
        dsimp only at h1 ⊢
        simp only [evC, h1, nox_ok, bind_ok]
        cases hcx : c x with
        | false => simp
        | true =>
          have h2 := h x List.mem_cons_self hcx
          unfold ptE at h2
          rw [hp] at h2
          dsimp only at h2 ⊢
          simp only [h2, nox_ok, bind_ok, frz_d]
          rw [if_pos (by omega)]
          simp
    show (compT _ _ _ _ _).bind _ = _
    rw [key]
    show compX P cl th own p (some co) elt ρ (xs.map e) _ S = _
    rw [ih (by rw [List.length_append]; split <;> simp <;> omega) (fun y hy => hc y (List.mem_cons_of_mem _ hy)) fun y hy => h y (List.mem_cons_of_mem _ hy), List.append_assoc]
    cases hcx : c x <;> simp [List.filter_cons, hcx]
theorem comp_fil {α : Type} {own : List Nat} {p : Pt} {elt co : CE} {e g : α → D} {c : α → Bool} {xs : List α} (hz : xs.length ≤ sizeLine) (hc : ∀ x ∈ xs, ptC p (e x) (wipe ρ own) co P cl th S = .ok (c x) S) (h : ∀ x ∈ xs, c x = true → ptE p (e x) (wipe ρ own) elt P cl th S = .ok (.d (g x)) S) : compX P cl th own p (some co) elt ρ (xs.map e) [] S = .ok ((xs.filter c).map g) S := compX_fil (acc := []) (by simpa using hz) hc h
/-! ### statements -/
variable {ss : List CS}
theorem x_nil : exL P cl th [] ρ S = .nx ρ S := by simp only [exL]
theorem x_cons {s : CS} : exL P cl th (s :: ss) ρ S = (exS P cl th s ρ S).bind (kSeq P cl th ss) := by simp only [exL]; rfl
theorem x_seq : (SR.nx ρ S).bind (kSeq P cl th ss) = exL P cl th ss ρ S := nr rfl
theorem x_seqr : (SR.ret v S).bind (kSeq P cl th ss) = .ret v S := nr rfl
theorem x_seqe {x : Exn} : (SR.exc x ρ S).bind (kSeq P cl th ss) = .exc x ρ S := nr rfl
theorem x_seqb : (SR.brk ρ S).bind (kSeq P cl th ss) = .brk ρ S := nr rfl
theorem x_seqc : (SR.cnt ρ S).bind (kSeq P cl th ss) = .cnt ρ S := nr rfl
theorem x_expr {e : CE} : exS P cl th (.expr e) ρ S = (evE P cl th e ρ S).st ρ (kDrop ρ) := by simp only [exS]; rfl
theorem x_asg {p : Pt} {e : CE} : exS P cl th (.asg p e) ρ S = (evE P cl th e ρ S).st ρ (kAsg p ρ) := by simp only [exS]; rfl
theorem x_par {is : List Nat} {es : List CE} : exS P cl th (.par is es) ρ S = (evL P cl th es ρ S).st ρ (kPar is ρ) := by simp only [exS]; rfl
theorem x_setIx {o i e : CE} : exS P cl th (.setIx o i e) ρ S = (evE P cl th e ρ S).st ρ (kSI P cl th o i ρ) := by simp only [exS]; rfl
theorem x_setF {o e : CE} {f : Nat} : exS P cl th (.setF o f e) ρ S = (evE P cl th e ρ S).st ρ (kSF P cl th o f ρ) := by simp only [exS]; rfl
theorem x_if {c : CE} {a b : List CS} : exS P cl th (.iff c a b) ρ S = (tst P (evE P cl th c ρ S)).st ρ (kIf P cl th a b ρ) := by simp only [exS]; rfl
theorem x_for {k : ItK} {as : List CE} {p : Pt} {body : List CS} : exS P cl th (.for_ k as p body) ρ S = ((evL P cl th as ρ S).bind (kIt k)).st ρ (kFor P cl th p body ρ) := by simp only [exS]; rfl
theorem x_ret {e : CE} : exS P cl th (.ret e) ρ S = (evE P cl th e ρ S).st ρ kRet := by simp only [exS]; rfl
theorem x_retN : exS P cl th .retN ρ S = .ret (.d .non) S := by simp only [exS]
theorem x_raise {c : Nat} {as : List CE} : exS P cl th (.raise c as) ρ S = (evL P cl th as ρ S).st ρ (kRaise P c ρ) := by simp only [exS]; rfl
theorem x_try {body suite : List CS} {c slot : Nat} : exS P cl th (.try_ body c slot suite) ρ S = tryX P cl th (exL P cl th body ρ S) c slot suite := by simp only [exS]; rfl
theorem x_brk : exS P cl th .brk ρ S = .brk ρ S := by simp only [exS]
theorem x_cnt : exS P cl th .cnt ρ S = .cnt ρ S := by simp only [exS]
theorem x_pass : exS P cl th .pass ρ S = .nx ρ S := by simp only [exS]
theorem s_drop {ρ' : Env} : (Res.ok v S).st ρ' (kDrop ρ) = .nx ρ S := nr rfl
theorem s_asg {ρ' : Env} {p : Pt} : (Res.ok v S).st ρ' (kAsg p ρ) = asgR p v ρ S := nr rfl
theorem asgR_nm {i : Nat} : asgR (.nm i) v ρ S = .nx (ρ.set i (some v)) S := nr rfl
theorem asgR_tup {is : List Nat} {xs : List D} (h : xs.length = is.length) : asgR (.tup is) (.d (.tup xs)) ρ S = .nx ((is.zip xs).foldl (fun ρ p => ρ.set p.1 (some (.d p.2))) ρ) S := by
  show (match (if xs.length = is.length then some ((is.zip xs).foldl (fun (ρ : Env) p => ρ.set p.1 (some (.d p.2))) ρ) else none) with
    | some ρ => SR.nx ρ S
    | none => .bad) = _
  rw [if_pos h]
theorem s_par {ρ' : Env} {is : List Nat} {vs : List Vl} : (Res.ok vs S).st ρ' (kPar is ρ) = .nx (setAll is vs ρ) S := nr rfl
theorem s_si {ρ' : Env} {o i : CE} : (Res.ok v S).st ρ' (kSI P cl th o i ρ) = (frz v S).st ρ (kSI2 P cl th o i ρ) := nr rfl
theorem s_si2 {ρ' : Env} {o i : CE} {z : D} : (Res.ok z S).st ρ' (kSI2 P cl th o i ρ) = (evE P cl th o ρ S).st ρ (kSI3 P cl th i ρ z) := nr rfl
theorem s_si3 {ρ' : Env} {i : CE} {z : D} : (Res.ok v S).st ρ' (kSI3 P cl th i ρ z) = (evE P cl th i ρ S).st ρ (kSI4 ρ z v) := nr rfl
theorem s_si4 {ρ' : Env} {z : D} : (Res.ok y S).st ρ' (kSI4 ρ z v) = setIxR v y z ρ S := nr rfl
theorem s_sf {ρ' : Env} {o : CE} {f : Nat} : (Res.ok v S).st ρ' (kSF P cl th o f ρ) = (frz v S).st ρ (kSF2 P cl th o f ρ) := nr rfl
theorem s_sf2 {ρ' : Env} {o : CE} {f : Nat} {z : D} : (Res.ok z S).st ρ' (kSF2 P cl th o f ρ) = (evE P cl th o ρ S).st ρ (kSF3 P f ρ z) := nr rfl
theorem s_sf3 {ρ' : Env} {f : Nat} {z : D} : (Res.ok v S).st ρ' (kSF3 P f ρ z) = setFR P f v z ρ S := nr rfl
theorem s_if {ρ' : Env} {a b : List CS} {t : Bool} : (Res.ok t S).st ρ' (kIf P cl th a b ρ) = iteS P cl th t a b ρ S := nr rfl
theorem s_ret {ρ' : Env} : (Res.ok v S).st ρ' kRet = .ret v S := nr rfl
theorem s_raise {ρ' : Env} {c : Nat} {vs : List Vl} : (Res.ok vs S).st ρ' (kRaise P c ρ) = (frzL vs S).st ρ (kRaise2 P c ρ) := nr rfl
theorem s_raise2 {ρ' : Env} {c : Nat} {xs : List D} : (Res.ok xs S).st ρ' (kRaise2 P c ρ) = raiseR P c xs ρ S := nr rfl
theorem s_for {ρ' : Env} {p : Pt} {body : List CS} {its : List D} : (Res.ok its S).st ρ' (kFor P cl th p body ρ) = forX P cl th p body its ρ S := nr rfl
theorem try_ret {suite : List CS} {c slot : Nat} : tryX P cl th (.ret v S) c slot suite = .ret v S := nr rfl
theorem try_nx {suite : List CS} {c slot : Nat} : tryX P cl th (.nx ρ S) c slot suite = .nx ρ S := nr rfl
/-! ### objects, the store's end -/
theorem mkR_of {c f : Nat} {vs us : List Vl} {zs : List (Nat × Vl)} {fd : FDef} (h0 : (P.cls[c]?).bind (·.init) = some f) (h1 : P.fns[f]? = some fd) (h2 : argsOf fd.pars fd.dfl (.ref S.length :: vs) zs = some us) : mkR P cl c vs zs S = mkM P cl c us S := by
  unfold mkR
  rw [h0]
  dsimp only
  rw [h1]
  dsimp only
  rw [h2]
theorem mkM_of {c f : Nat} {vs : List Vl} {fs : List (Nat × D)} (hi : (P.cls[c]?).bind (·.init) = some f) (h : cl f none vs (S ++ [.ins c []]) = .ok (.d .non) (S ++ [.ins c fs])) : mkM P cl c vs S = .ok (.d (.ins c fs)) S := by
  unfold mkM
  rw [hi]
  dsimp only
  rw [h]
  rw [bind_ok]
  rw [List.getElem?_append_right (Nat.le_refl _), Nat.sub_self, List.take_left]
  rfl
theorem mkM_exc {c f : Nat} {vs : List Vl} {x : Exn} {S1 : Store} (hi : (P.cls[c]?).bind (·.init) = some f) (h : cl f none vs (S ++ [.ins c []]) = .exc x S1) : mkM P cl c vs S = .exc x S1 := by
  unfold mkM
  rw [hi]
  dsimp only
  rw [h]
  rfl
theorem at_end {c : Cell} : (S ++ [c])[S.length]? = some c := by
  rw [List.getElem?_append_right (Nat.le_refl _), Nat.sub_self]
  rfl
theorem set_end {c e : Cell} : (S ++ [c]).set S.length e = S ++ [e] := by
  rw [List.set_append_right _ _ (Nat.le_refl _), Nat.sub_self]
  rfl
theorem take_end {c : Cell} : (S ++ [c]).take S.length = S := List.take_left
theorem len_end {c : Cell} : (S ++ [c]).length = S.length + 1 := by simp
theorem vw_ins {n c : Nat} {fs : List (Nat × D)} (h : S[n]? = some (.ins c fs)) : vw S (.ref n) = some (.ins c fs) := by
  show (match S[n]? with
    | some (.lst ds) => some (D.lst ds)
    | some (.ins c fs) => some (.ins c fs)
    | some (.fz x) => some x
    | none => none) = _
  rw [h]
theorem vw_lst {n : Nat} {xs : List D} (h : S[n]? = some (.lst xs)) : vw S (.ref n) = some (.lst xs) := by
  show (match S[n]? with
    | some (.lst ds) => some (D.lst ds)
    | some (.ins c fs) => some (.ins c fs)
    | some (.fz x) => some x
    | none => none) = _
  rw [h]
theorem vw_insE {c : Nat} {fs : List (Nat × D)} : vw (S ++ [.ins c fs]) (.ref S.length) = some (.ins c fs) := vw_ins at_end
theorem vw_lstE {xs : List D} : vw (S ++ [.lst xs]) (.ref S.length) = some (.lst xs) := vw_lst at_end
def lkR (o : Option D) (S : Store) : Res Vl := match o with
  | some y => .ok (.d y) S
  | none => .bad
theorem lkR_ok {z : D} : lkR (some z) S = .ok (.d z) S := nr rfl
theorem fldR_lk {c f : Nat} {fs : List (Nat × D)} (h1 : fldOk P c f = true) : fldR P f (.d (.ins c fs)) S = lkR (lkF f fs) S := if_pos h1
theorem fldR_lkE {c f : Nat} {fs : List (Nat × D)} (h1 : fldOk P c f = true) : fldR P f (.ref S.length) (S ++ [.ins c fs]) = lkR (lkF f fs) (S ++ [.ins c fs]) := by
  unfold fldR
  rw [vw_insE]
  exact if_pos h1
theorem setFR_E {c f : Nat} {fs : List (Nat × D)} {z : D} (h1 : fldOk P c f = true) (h2 : fs.length < 1000) : setFR P f (.ref S.length) z ρ (S ++ [.ins c fs]) = .nx ρ (S ++ [.ins c (putF f z fs)]) := by
  unfold setFR
  dsimp only
  rw [at_end]
  dsimp only
  rw [if_pos ⟨h2, h1⟩, set_end]
theorem lkF_hit {f : Nat} {z : D} {r : List (Nat × D)} : lkF f ((f, z) :: r) = some z := if_pos rfl
theorem lkF_miss {f g : Nat} {z : D} {r : List (Nat × D)} (h : g ≠ f) : lkF f ((g, z) :: r) = lkF f r := if_neg h
theorem putF_nil {f : Nat} {z : D} : putF f z [] = [(f, z)] := nr rfl
theorem putF_hit {f : Nat} {z w : D} {r : List (Nat × D)} : putF f z ((f, w) :: r) = (f, z) :: r := if_pos rfl
theorem putF_miss {f g : Nat} {z w : D} {r : List (Nat × D)} (h : g ≠ f) : putF f z ((g, w) :: r) = (g, w) :: putF f z r := if_neg h
theorem app_lstE {xs : List D} {z : D} (h : xs.length < sizeLine) : bmop .append (.ref S.length) [.d z] (S ++ [.lst xs]) = .ok (.d .non) (S ++ [.lst (xs ++ [z])]) := by
  unfold bmop
  dsimp only
  rw [frz_d, bind_ok, at_end]
  dsimp only
  rw [if_pos h, set_end]
theorem lstAt_E {xs : List D} : lstAt (S ++ [.lst xs]) (.ref S.length) = true := by
  unfold lstAt
  dsimp only
  rw [at_end]
def isiK (o : Option Bool) (S : Store) : Res Vl := match o with
  | some b => .ok (.d (.bl b)) S
  | none => .bad
theorem isiR_k {z : D} {ts : List TyR} : isiR P ts (.d z) S = isiK (isiA P z ts) S := by
  show (ofO (isiA P z ts) S).bind _ = _
  cases isiA P z ts <;> rfl
theorem isiK_ok {b : Bool} : isiK (some b) S = .ok (.d (.bl b)) S := nr rfl
theorem cut_l {xs : List D} {l h : Option Int} : cutR (.d (.lst xs)) l h S = .ok (.d (.lst (cutD xs l h))) S := nr rfl
theorem cut_t {xs : List D} {l h : Option Int} : cutR (.d (.tup xs)) l h S = .ok (.d (.tup (cutD xs l h))) S := nr rfl
theorem cut_s {ns : List Int} {l h : Option Int} : cutR (.d (.scr ns)) l h S = .ok (.d (.lst (cutD (ns.map .int) l h))) S := nr rfl
def ofOd (o : Option D) (S : Store) : Res Vl := match o with
  | some z => .ok (.d z) S
  | none => .bad
theorem ofOd_ok {z : D} : ofOd (some z) S = .ok (.d z) S := nr rfl
theorem ix_k {x y : D} : ixR (.d x) (.d y) S = ofOd (ixop x y) S := by
  show (ofO (ixop x y) S).bind _ = _
  cases ixop x y <;> rfl
theorem ix_dct {kvs : List (Sum Int Str × D)} {k : Str} : ixop (.dct kvs) (.str k) = lookK (.inr k) kvs := nr rfl
theorem ix_dcti {kvs : List (Sum Int Str × D)} {k : Int} : ixop (.dct kvs) (.int k) = lookK (.inl k) kvs := nr rfl
theorem ix_l {xs : List D} {i : Int} : ixop (.lst xs) (.int i) = L2.atI xs i := nr rfl
theorem ix_t {xs : List D} {i : Int} : ixop (.tup xs) (.int i) = L2.atI xs i := nr rfl
theorem lookK_hit {k : Sum Int Str} {z : D} {r : List (Sum Int Str × D)} : lookK k ((k, z) :: r) = some z := if_pos rfl
theorem lookK_miss {f g : Sum Int Str} {z : D} {r : List (Sum Int Str × D)} (h : g ≠ f) : lookK f ((g, z) :: r) = lookK f r := if_neg h
theorem atI_nat {α : Type} {xs : List α} {n : Nat} : L2.atI xs (n : Int) = xs[n]? := by
  unfold L2.atI L2.ixN
  rw [if_pos (Int.natCast_nonneg n)]
  by_cases h : (n : Int) < xs.length
  · rw [if_pos h]
    rfl
  · rw [if_neg h]
    have : xs.length ≤ n := by omega
    rw [List.getElem?_eq_none this]
    rfl
theorem atI_0 {α : Type} {x : α} {xs : List α} : L2.atI (x :: xs) 0 = some x := by
  have := atI_nat (xs := x :: xs) (n := 0)
  simpa using this
theorem atI_1 {α : Type} {x y : α} {xs : List α} : L2.atI (x :: y :: xs) 1 = some y := by
  have := atI_nat (xs := x :: y :: xs) (n := 1)
  simpa using this
theorem atI_2 {α : Type} {x y z : α} {xs : List α} : L2.atI (x :: y :: z :: xs) 2 = some z := by
  have := atI_nat (xs := x :: y :: z :: xs) (n := 2)
  simpa using this
theorem bi_k {b : Bi} {vs : List Vl} : biR P b vs S = ofOd ((vwL S vs).bind (biop P b)) S := by
  unfold biR
  cases vwL S vs with
  | none => rfl
  | some xs =>
    show (ofO (biop P b xs) S).bind _ = ofOd (biop P b xs) S
    cases biop P b xs <;> rfl
/-! ### comprehensions, by simp under the binder -/
def compF {α : Type} (f : α → Store → Res Vl) (xs : List α) (acc : List D) (S : Store) : Res (List D) := match xs with
  | [] => .ok acc S
  | x :: xs => (f x S).nox.bind fun v S => (frz v S).bind fun y S => if acc.length < sizeLine then compF f xs (acc ++ [y]) S else .bad
def compG {α : Type} (c : α → Store → Res Bool) (f : α → Store → Res Vl) (xs : List α) (acc : List D) (S : Store) : Res (List D) := match xs with
  | [] => .ok acc S
  | x :: xs => (c x S).nox.bind fun b S => (match b with
    | true => (f x S).nox.bind fun v S => (frz v S).bind fun y S => if acc.length < sizeLine then compG c f xs (acc ++ [y]) S else .bad
    | false => compG c f xs acc S)
theorem r_compF {own : List Nat} {p : Pt} {elt : CE} {its acc : List D} : compX P cl th own p none elt ρ its acc S = compF (fun x S => ptE p x (wipe ρ own) elt P cl th S) its acc S := by
  induction its generalizing acc S with
  | nil => rfl
  | cons x xs ih =>
    show (compT (setPt p x (wipe ρ own)) (fun ρ1 S => evC P cl th none ρ1 S) (fun ρ1 S => evE P cl th elt ρ1 S) acc S).bind (fun a S => compX P cl th own p none elt ρ xs a S) = _
    unfold compT compF ptE
    cases setPt p x (wipe ρ own) with
    | none => rfl
    | some ρ1 =>
      simp only [evC, nox_ok, bind_ok]
      cases (evE P cl th elt ρ1 S).nox with
      | bad => rfl
      | exc x S => rfl
      | ok v S =>
        rw [bind_ok, bind_ok]
        cases frz v S with
        | bad => rfl
        | exc x S => rfl
        | ok y S =>
          rw [bind_ok, bind_ok]
          by_cases h : acc.length < sizeLine
          · rw [if_pos h, if_pos h, bind_ok, ih]
            rfl
          · rw [if_neg h, if_neg h]
            rfl
theorem r_compG {own : List Nat} {p : Pt} {elt co : CE} {its acc : List D} : compX P cl th own p (some co) elt ρ its acc S = compG (fun x S => ptC p x (wipe ρ own) co P cl th S) (fun x S => ptE p x (wipe ρ own) elt P cl th S) its acc S := by
  induction its generalizing acc S with
  | nil => rfl
  | cons x xs ih =>
    show (compT (setPt p x (wipe ρ own)) (fun ρ1 S => evC P cl th (some co) ρ1 S) (fun ρ1 S => evE P cl th elt ρ1 S) acc S).bind (fun a S => compX P cl th own p (some co) elt ρ xs a S) = _
    unfold compT compG ptE ptC
    cases setPt p x (wipe ρ own) with
    | none => rfl
    | some ρ1 =>
      simp only [evC]
      cases (tst P (evE P cl th co ρ1 S)).nox with
      | bad => rfl
      | exc x S => rfl
      | ok b S =>
        rw [bind_ok, bind_ok]
        cases b with
        | false =>
          rw [bind_ok, ih]
          rfl
        | true =>
          dsimp only
          cases (evE P cl th elt ρ1 S).nox with
          | bad => rfl
          | exc x S => rfl
          | ok v S =>
            rw [bind_ok, bind_ok]
            cases frz v S with
            | bad => rfl
            | exc x S => rfl
            | ok y S =>
              rw [bind_ok, bind_ok]
              by_cases h : acc.length < sizeLine
              · rw [if_pos h, if_pos h, bind_ok, ih]
                rfl
              · rw [if_neg h, if_neg h]
                rfl
theorem compF_map {α β : Type} {f : β → Store → Res Vl} {e : α → β} {xs : List α} {acc : List D} : compF f (xs.map e) acc S = compF (fun x => f (e x)) xs acc S := by
  induction xs generalizing acc S with
  | nil => rfl
  | cons x xs ih =>
    show (f (e x) S).nox.bind _ = (f (e x) S).nox.bind _
    simp only [ih]
theorem compG_map {α β : Type} {c : β → Store → Res Bool} {f : β → Store → Res Vl} {e : α → β} {xs : List α} {acc : List D} : compG c f (xs.map e) acc S = compG (fun x => c (e x)) (fun x => f (e x)) xs acc S := by
  induction xs generalizing acc S with
  | nil => rfl
  | cons x xs ih =>
    show (c (e x) S).nox.bind _ = (c (e x) S).nox.bind _
    simp only [ih]
theorem compF_acc {α : Type} {g : α → D} {xs : List α} {acc : List D} (h : acc.length + xs.length ≤ sizeLine) : compF (fun x S => .ok (.d (g x)) S) xs acc S = .ok (acc ++ xs.map g) S := by
  induction xs generalizing acc with
  | nil =>
    show Res.ok acc S = _
    rw [List.map_nil, List.append_nil]
  | cons x xs ih =>
    rw [List.length_cons] at h
    show (if acc.length < sizeLine then compF _ xs (acc ++ [g x]) S else .bad) = _
    rw [if_pos (by omega), ih (by rw [List.length_append, List.length_singleton]; omega), List.append_assoc]
    rfl
theorem compG_acc {α : Type} {c : α → Bool} {g : α → D} {xs : List α} {acc : List D} (h : acc.length + xs.length ≤ sizeLine) : compG (fun x S => .ok (c x) S) (fun x S => .ok (.d (g x)) S) xs acc S = .ok (acc ++ (xs.filter c).map g) S := by
  induction xs generalizing acc with
  | nil =>
    show Res.ok acc S = _
    simp
  | cons x xs ih =>
    rw [List.length_cons] at h
    show (match c x with
      | true => if acc.length < sizeLine then compG _ _ xs (acc ++ [g x]) S else .bad
      | false => compG _ _ xs acc S) = _
    cases hc : c x with
    | false =>
      dsimp only
      rw [ih (by omega), List.filter_cons, hc]
      rfl
    | true =>
      dsimp only
      rw [if_pos (by omega), ih (by rw [List.length_append, List.length_singleton]; omega), List.append_assoc, List.filter_cons, hc]
      rfl
theorem compF_ok {α : Type} {g : α → D} {xs : List α} (h : xs.length ≤ sizeLine) : compF (fun x S => .ok (.d (g x)) S) xs [] S = .ok (xs.map g) S := compF_acc (acc := []) (by simpa using h)
theorem compG_ok {α : Type} {c : α → Bool} {g : α → D} {xs : List α} (h : xs.length ≤ sizeLine) : compG (fun x S => .ok (c x) S) (fun x S => .ok (.d (g x)) S) xs [] S = .ok ((xs.filter c).map g) S := compG_acc (acc := []) (by simpa using h)
theorem compF_cg {α : Type} {f g : α → Store → Res Vl} {xs : List α} {acc : List D} (h : ∀ x ∈ xs, ∀ S, f x S = g x S) : compF f xs acc S = compF g xs acc S := by
  induction xs generalizing acc S with
  | nil => rfl
  | cons x xs ih =>
    unfold compF
    rw [h x List.mem_cons_self]
    simp only [ih fun y hy => h y (List.mem_cons_of_mem _ hy)]
theorem compG_cg {α : Type} {c d : α → Store → Res Bool} {f g : α → Store → Res Vl} {xs : List α} {acc : List D} (hc : ∀ x ∈ xs, ∀ S, c x S = d x S) (h : ∀ x ∈ xs, ∀ S, f x S = g x S) : compG c f xs acc S = compG d g xs acc S := by
  induction xs generalizing acc S with
  | nil => rfl
  | cons x xs ih =>
    unfold compG
    rw [hc x List.mem_cons_self]
    simp only [ih (fun y hy => hc y (List.mem_cons_of_mem _ hy)) fun y hy => h y (List.mem_cons_of_mem _ hy)]
    cases (d x S).nox with
    | bad => rfl
    | exc x S => rfl
    | ok b S =>
      rw [bind_ok, bind_ok]
      cases b with
      | false => rfl
      | true => simp only [h x List.mem_cons_self]
/-! two loops -/
def comp2F {α : Type} (its : α → Store → Res (List D)) (f : α → List D → List D → Store → Res (List D)) (xs : List α) (acc : List D) (S : Store) : Res (List D) := match xs with
  | [] => .ok acc S
  | x :: xs => (its x S).nox.bind fun ys S => (f x ys acc S).bind fun acc S => comp2F its f xs acc S
def ptI (k : ItK) (p : Pt) (v : D) (ρ : Env) (as : List CE) (P : Pg) (cl : Cl) (th : Th) (S : Store) : Res (List D) := match setPt p v ρ with
    | some ρ => (evL P cl th as ρ S).bind (kIt k)
    | none => .bad
theorem ptI_nm {k : ItK} {i : Nat} {z : D} {as : List CE} : ptI k (.nm i) z ρ as P cl th S = (evL P cl th as (ρ.set i (some (.d z))) S).bind (kIt k) := nr rfl
theorem ptI_2 {k : ItK} {i j : Nat} {a b : D} {as : List CE} : ptI k (.tup [i, j]) (.tup [a, b]) ρ as P cl th S = (evL P cl th as ((ρ.set i (some (.d a))).set j (some (.d b))) S).bind (kIt k) := nr rfl
/-- the inner loop, at an item of the outer one -/
def inX (p : Pt) (v : D) (own1 : List Nat) (p1 : Pt) (cond1 : Option CE) (elt : CE) (ρ : Env) (P : Pg) (cl : Cl) (th : Th) (ys acc : List D) (S : Store) : Res (List D) := match setPt p v ρ with
    | some ρ => compX P cl th own1 p1 cond1 elt ρ ys acc S
    | none => .bad
theorem inX_nm {i : Nat} {z : D} {own1 : List Nat} {p1 : Pt} {cond1 : Option CE} {elt : CE} {ys acc : List D} : inX (.nm i) z own1 p1 cond1 elt ρ P cl th ys acc S = compX P cl th own1 p1 cond1 elt (ρ.set i (some (.d z))) ys acc S := nr rfl
theorem inX_2 {i j : Nat} {a b : D} {own1 : List Nat} {p1 : Pt} {cond1 : Option CE} {elt : CE} {ys acc : List D} : inX (.tup [i, j]) (.tup [a, b]) own1 p1 cond1 elt ρ P cl th ys acc S = compX P cl th own1 p1 cond1 elt ((ρ.set i (some (.d a))).set j (some (.d b))) ys acc S := nr rfl
theorem r_comp2F {own own1 : List Nat} {p p1 : Pt} {cond1 : Option CE} {k1 : ItK} {as1 : List CE} {elt : CE} {its acc : List D} : comp2X P cl th own own1 p none k1 as1 p1 cond1 elt ρ its acc S = comp2F (fun x S => ptI k1 p x (wipe ρ own) as1 P cl th S) (fun x ys acc S => inX p x own1 p1 cond1 elt (wipe ρ own) P cl th ys acc S) its acc S := by
  induction its generalizing acc S with
  | nil => rfl
  | cons x xs ih =>
    show (compT2 (setPt p x (wipe ρ own)) _ _ _ acc S).bind (fun a S => comp2X P cl th own own1 p none k1 as1 p1 cond1 elt ρ xs a S) = _
    unfold compT2 comp2F ptI inX
    cases setPt p x (wipe ρ own) with
    | none => rfl
    | some ρ1 =>
      simp only [evC, nox_ok, bind_ok]
      show (Res.bind (Res.nox ((evL P cl th as1 ρ1 S).bind (kIt k1))) fun its S => compX P cl th own1 p1 cond1 elt ρ1 its acc S).bind _ = _
      cases (Res.nox ((evL P cl th as1 ρ1 S).bind (kIt k1))) with
      | bad => rfl
      | exc x S => rfl
      | ok ys S =>
        rw [bind_ok, bind_ok]
        simp only [ih]
        rfl
theorem comp2F_map {α β : Type} {its : β → Store → Res (List D)} {f : β → List D → List D → Store → Res (List D)} {e : α → β} {xs : List α} {acc : List D} : comp2F its f (xs.map e) acc S = comp2F (fun x => its (e x)) (fun x => f (e x)) xs acc S := by
  induction xs generalizing acc S with
  | nil => rfl
  | cons x xs ih =>
    show (its (e x) S).nox.bind _ = (its (e x) S).nox.bind _
    simp only [ih]
/-- each item by itself: what it adds -/
theorem comp2F_flat {α : Type} {its : α → Store → Res (List D)} {f : α → List D → List D → Store → Res (List D)} {g : α → List D} {j : α → List D} {xs : List α} {acc : List D} {S : Store} {z : Nat} (hi : ∀ x ∈ xs, its x S = .ok (j x) S) (hf : ∀ x ∈ xs, ∀ acc : List D, acc.length + (g x).length ≤ z → f x (j x) acc S = .ok (acc ++ g x) S) (hz : acc.length + (xs.flatMap g).length ≤ z) : comp2F its f xs acc S = .ok (acc ++ xs.flatMap g) S := by
  induction xs generalizing acc with
  | nil =>
    show Res.ok acc S = _
    simp
  | cons x xs ih =>
    rw [List.flatMap_cons, List.length_append] at hz
    show (its x S).nox.bind _ = _
    rw [hi x List.mem_cons_self, nox_ok, bind_ok, hf x List.mem_cons_self acc (by omega), bind_ok, ih (fun y hy => hi y (List.mem_cons_of_mem _ hy)) (fun y hy => hf y (List.mem_cons_of_mem _ hy)) (by rw [List.length_append]; omega), List.append_assoc, List.flatMap_cons]
/-! .. by simp under the binder -/
def addR (acc ys : List D) (S : Store) : Res (List D) := if ys = [] ∨ acc.length + ys.length ≤ sizeLine then .ok (acc ++ ys) S else .bad
theorem compF_add {α : Type} {g : α → D} {xs : List α} {acc : List D} : compF (fun x S => .ok (.d (g x)) S) xs acc S = addR acc (xs.map g) S := by
  induction xs generalizing acc with
  | nil =>
    show Res.ok acc S = _
    unfold addR
    simp
  | cons x xs ih =>
    show (if acc.length < sizeLine then compF _ xs (acc ++ [g x]) S else .bad) = _
    rw [ih]
    unfold addR
    simp only [List.length_append, List.length_map, List.map_cons, List.length_cons, List.length_nil, List.append_assoc, List.singleton_append, List.map_eq_nil_iff, reduceCtorEq, false_or]
    by_cases h : acc.length + (xs.length + 1) ≤ sizeLine
    · rw [if_pos (by omega), if_pos (.inr (by omega)), if_pos h]
    · rw [if_neg h]
      by_cases h2 : acc.length < sizeLine
      · rw [if_pos h2, if_neg]
        rintro (q | q)
        · subst q
          simp only [List.length_nil] at h
          omega
        · omega
      · rw [if_neg h2]
theorem compG_add {α : Type} {c : α → Bool} {g : α → D} {xs : List α} {acc : List D} : compG (fun x S => .ok (c x) S) (fun x S => .ok (.d (g x)) S) xs acc S = addR acc ((xs.filter c).map g) S := by
  rw [← compF_add]
  induction xs generalizing acc with
  | nil => rfl
  | cons x xs ih =>
    show (match c x with
      | true => if acc.length < sizeLine then compG _ _ xs (acc ++ [g x]) S else .bad
      | false => compG _ _ xs acc S) = _
    cases hc : c x with
    | false =>
      dsimp only
      rw [ih, List.filter_cons, hc]
      rfl
    | true =>
      dsimp only
      rw [ih, List.filter_cons, hc]
      rfl
/-- .. each item known to be one of them -/
def compM {α : Type} (xs : List α) (f : (x : α) → x ∈ xs → Store → Res Vl) (acc : List D) (S : Store) : Res (List D) := compF (fun (x : {x // x ∈ xs}) S => f x.1 x.2 S) xs.attach acc S
def compN {α : Type} (xs : List α) (c : (x : α) → x ∈ xs → Store → Res Bool) (f : (x : α) → x ∈ xs → Store → Res Vl) (acc : List D) (S : Store) : Res (List D) := compG (fun (x : {x // x ∈ xs}) S => c x.1 x.2 S) (fun (x : {x // x ∈ xs}) S => f x.1 x.2 S) xs.attach acc S
theorem compM_no {α : Type} {f : α → Store → Res Vl} {xs : List α} {acc : List D} : compM xs (fun x _ => f x) acc S = compF f xs acc S := by
  have := compF_map (f := f) (e := fun x : {x // x ∈ xs} => x.1) (xs := xs.attach) (acc := acc) (S := S)
  rw [List.attach_map_subtype_val] at this
  exact this.symm
theorem compN_no {α : Type} {c : α → Store → Res Bool} {f : α → Store → Res Vl} {xs : List α} {acc : List D} : compN xs (fun x _ => c x) (fun x _ => f x) acc S = compG c f xs acc S := by
  have := compG_map (c := c) (f := f) (e := fun x : {x // x ∈ xs} => x.1) (xs := xs.attach) (acc := acc) (S := S)
  rw [List.attach_map_subtype_val] at this
  exact this.symm
theorem r_compM {own : List Nat} {p : Pt} {elt : CE} {its acc : List D} : compX P cl th own p none elt ρ its acc S = compM its (fun x _ S => ptE p x (wipe ρ own) elt P cl th S) acc S := r_compF.trans compM_no.symm
theorem r_compN {own : List Nat} {p : Pt} {elt co : CE} {its acc : List D} : compX P cl th own p (some co) elt ρ its acc S = compN its (fun x _ S => ptC p x (wipe ρ own) co P cl th S) (fun x _ S => ptE p x (wipe ρ own) elt P cl th S) acc S := r_compG.trans compN_no.symm
theorem attach_e {α β : Type} {e : α → β} {xs : List α} : (xs.map e).attach = xs.attach.map fun x => ⟨e x.1, List.mem_map_of_mem x.2⟩ := by
  rw [List.attach_map]
theorem compM_map {α β : Type} {e : α → β} {xs : List α} {f : (x : β) → x ∈ xs.map e → Store → Res Vl} {acc : List D} : compM (xs.map e) f acc S = compM xs (fun x h => f (e x) (List.mem_map_of_mem h)) acc S := by
  unfold compM
  rw [attach_e, compF_map]
theorem compN_map {α β : Type} {e : α → β} {xs : List α} {c : (x : β) → x ∈ xs.map e → Store → Res Bool} {f : (x : β) → x ∈ xs.map e → Store → Res Vl} {acc : List D} : compN (xs.map e) c f acc S = compN xs (fun x h => c (e x) (List.mem_map_of_mem h)) (fun x h => f (e x) (List.mem_map_of_mem h)) acc S := by
  unfold compN
  rw [attach_e, compG_map]
theorem compM_add {α : Type} {g : α → D} {xs : List α} {acc : List D} : compM xs (fun x _ S => .ok (.d (g x)) S) acc S = addR acc (xs.map g) S := compM_no.trans compF_add
theorem compN_add {α : Type} {c : α → Bool} {g : α → D} {xs : List α} {acc : List D} : compN xs (fun x _ S => .ok (c x) S) (fun x _ S => .ok (.d (g x)) S) acc S = addR acc ((xs.filter c).map g) S := compN_no.trans compG_add
/-- .. what may be computed of a kept one alone -/
theorem compN_cg {α : Type} {c : α → Bool} {g : α → D} {xs : List α} {f : (x : α) → x ∈ xs → Store → Res Vl} {acc : List D} (h : ∀ x (hx : x ∈ xs), c x = true → ∀ S, f x hx S = .ok (.d (g x)) S) : compN xs (fun x _ S => .ok (c x) S) f acc S = addR acc ((xs.filter c).map g) S := by
  rw [← compN_add]
  unfold compN
  have key : ∀ (ys : List {x // x ∈ xs}) (acc : List D) (S : Store), compG (fun (x : {x // x ∈ xs}) S => Res.ok (c x.1) S) (fun (x : {x // x ∈ xs}) S => f x.1 x.2 S) ys acc S = compG (fun (x : {x // x ∈ xs}) S => Res.ok (c x.1) S) (fun (x : {x // x ∈ xs}) S => Res.ok (Vl.d (g x.1)) S) ys acc S := by
    intro ys
    induction ys with
    | nil => intro acc S; rfl
    | cons y ys ih =>
      intro acc S
      unfold compG
      simp only [nox_ok, bind_ok]
      cases hc : c y.1 with
      | false => exact ih acc S
      | true =>
        dsimp only
        rw [h y.1 y.2 hc]
        simp only [nox_ok, bind_ok, frz_d, ih]
  exact key _ _ _
theorem addR_map {α : Type} {g : α → D} {xs : List α} (h : xs.length ≤ sizeLine) : addR [] (xs.map g) S = .ok (xs.map g) S := if_pos (.inr (by simpa using h))
theorem addR_fil {α : Type} {g : α → D} {c : α → Bool} {xs : List α} (h : xs.length ≤ sizeLine) : addR [] ((xs.filter c).map g) S = .ok ((xs.filter c).map g) S := if_pos (.inr (by
  have := List.length_filter_le c xs
  simp only [List.length_nil, List.length_map]
  omega))
def comp2H {α : Type} (h : α → List D → Store → Res (List D)) (xs : List α) (acc : List D) (S : Store) : Res (List D) := match xs with
  | [] => .ok acc S
  | x :: xs => (h x acc S).bind fun acc S => comp2H h xs acc S
theorem comp2H_cg {α : Type} {f g : α → List D → Store → Res (List D)} {xs : List α} {acc : List D} (h : ∀ x ∈ xs, ∀ acc S, f x acc S = g x acc S) : comp2H f xs acc S = comp2H g xs acc S := by
  induction xs generalizing acc S with
  | nil => rfl
  | cons x xs ih =>
    unfold comp2H
    rw [h x List.mem_cons_self]
    simp only [ih fun y hy => h y (List.mem_cons_of_mem _ hy)]
def kIn (p : Pt) (v : D) (own1 : List Nat) (p1 : Pt) (cond1 : Option CE) (elt : CE) (ρ : Env) (P : Pg) (cl : Cl) (th : Th) (acc : List D) : List D → Store → Res (List D) := fun ys S => inX p v own1 p1 cond1 elt ρ P cl th ys acc S
theorem k_in {p : Pt} {v : D} {own1 : List Nat} {p1 : Pt} {cond1 : Option CE} {elt : CE} {acc ys : List D} : (Res.ok ys S).bind (kIn p v own1 p1 cond1 elt ρ P cl th acc) = inX p v own1 p1 cond1 elt ρ P cl th ys acc S := nr rfl
theorem r_comp2H {own own1 : List Nat} {p p1 : Pt} {cond1 : Option CE} {k1 : ItK} {as1 : List CE} {elt : CE} {its acc : List D} : comp2X P cl th own own1 p none k1 as1 p1 cond1 elt ρ its acc S = comp2H (fun x acc S => (ptI k1 p x (wipe ρ own) as1 P cl th S).nox.bind (kIn p x own1 p1 cond1 elt (wipe ρ own) P cl th acc)) its acc S := by
  rw [r_comp2F]
  induction its generalizing acc S with
  | nil => rfl
  | cons x xs ih =>
    unfold comp2F comp2H
    cases (ptI k1 p x (wipe ρ own) as1 P cl th S).nox with
    | bad => rfl
    | exc x S => rfl
    | ok ys S =>
      rw [bind_ok, bind_ok]
      simp only [ih]
      rfl
theorem comp2H_map {α β : Type} {f : β → List D → Store → Res (List D)} {e : α → β} {xs : List α} {acc : List D} : comp2H f (xs.map e) acc S = comp2H (fun x => f (e x)) xs acc S := by
  induction xs generalizing acc S with
  | nil => rfl
  | cons x xs ih =>
    show (f (e x) acc S).bind _ = (f (e x) acc S).bind _
    simp only [ih]
theorem comp2H_acc {α : Type} {j : α → List D} {xs : List α} {acc : List D} (h : acc.length + (xs.flatMap j).length ≤ sizeLine) : comp2H (fun x acc S => addR acc (j x) S) xs acc S = .ok (acc ++ xs.flatMap j) S := by
  induction xs generalizing acc with
  | nil =>
    show Res.ok acc S = _
    simp
  | cons x xs ih =>
    rw [List.flatMap_cons, List.length_append] at h
    show (addR acc (j x) S).bind _ = _
    rw [show addR acc (j x) S = .ok (acc ++ j x) S from if_pos (.inr (by omega)), bind_ok, ih (by rw [List.length_append]; omega), List.append_assoc, List.flatMap_cons]
theorem comp2H_ok {α : Type} {j : α → List D} {xs : List α} (h : (xs.flatMap j).length ≤ sizeLine) : comp2H (fun x acc S => addR acc (j x) S) xs [] S = .ok (xs.flatMap j) S := comp2H_acc (acc := []) (by simpa using h)
def comp2M {α : Type} (xs : List α) (h : (x : α) → x ∈ xs → List D → Store → Res (List D)) (acc : List D) (S : Store) : Res (List D) := comp2H (fun (x : {x // x ∈ xs}) acc S => h x.1 x.2 acc S) xs.attach acc S
theorem comp2M_no {α : Type} {h : α → List D → Store → Res (List D)} {xs : List α} {acc : List D} : comp2M xs (fun x _ => h x) acc S = comp2H h xs acc S := by
  have := comp2H_map (f := h) (e := fun x : {x // x ∈ xs} => x.1) (xs := xs.attach) (acc := acc) (S := S)
  rw [List.attach_map_subtype_val] at this
  exact this.symm
theorem r_comp2M {own own1 : List Nat} {p p1 : Pt} {cond1 : Option CE} {k1 : ItK} {as1 : List CE} {elt : CE} {its acc : List D} : comp2X P cl th own own1 p none k1 as1 p1 cond1 elt ρ its acc S = comp2M its (fun x _ acc S => (ptI k1 p x (wipe ρ own) as1 P cl th S).nox.bind (kIn p x own1 p1 cond1 elt (wipe ρ own) P cl th acc)) acc S := r_comp2H.trans (comp2M_no (h := fun x acc S => (ptI k1 p x (wipe ρ own) as1 P cl th S).nox.bind (kIn p x own1 p1 cond1 elt (wipe ρ own) P cl th acc))).symm
theorem comp2M_map {α β : Type} {e : α → β} {xs : List α} {h : (x : β) → x ∈ xs.map e → List D → Store → Res (List D)} {acc : List D} : comp2M (xs.map e) h acc S = comp2M xs (fun x hx => h (e x) (List.mem_map_of_mem hx)) acc S := by
  unfold comp2M
  rw [attach_e, comp2H_map]
theorem comp2M_ok {α : Type} {j : α → List D} {xs : List α} (h : (xs.flatMap j).length ≤ sizeLine) : comp2M xs (fun x _ acc S => addR acc (j x) S) [] S = .ok (xs.flatMap j) S := (comp2M_no (h := fun x acc S => addR acc (j x) S)).trans (comp2H_ok h)
/-! all, any -/
theorem bls_map {α : Type} {f : α → Bool} : ∀ {xs : List α}, blsOf (xs.map fun x => D.bl (f x)) = some (xs.map f)
  | [] => rfl
  | x :: xs => by
    show (blsOf (xs.map fun x => D.bl (f x))).map _ = _
    rw [bls_map (xs := xs)]
    rfl
theorem all_l {α : Type} {f : α → Bool} {xs : List α} : biR P .all [.d (.lst (xs.map fun x => D.bl (f x)))] S = .ok (.d (.bl (xs.all f))) S := by
  refine biR_d (xs := [.lst (xs.map fun x => D.bl (f x))]) rfl ?_
  show (blsOf (xs.map fun x => D.bl (f x))).map _ = _
  rw [bls_map]
  simp [List.all_map, Function.comp_def]
theorem any_l {α : Type} {f : α → Bool} {xs : List α} : biR P .any [.d (.lst (xs.map fun x => D.bl (f x)))] S = .ok (.d (.bl (xs.any f))) S := by
  refine biR_d (xs := [.lst (xs.map fun x => D.bl (f x))]) rfl ?_
  show (blsOf (xs.map fun x => D.bl (f x))).map _ = _
  rw [bls_map]
  simp [List.any_map, Function.comp_def]
theorem fst_in {x : Vl} {S : Store} : x = x := nr rfl
/-! items -/
theorem rngD_map {lo : Int} {m : Nat} : rngD lo m = (List.range m).map fun (i : Nat) => D.int (lo + (i : Nat)) := nr rfl
theorem enumD_map {xs : List D} {m : Nat} : enumD m xs = (xs.zipIdx m).map fun p => D.tup [.int (p.2 : Nat), p.1] := by
  induction xs generalizing m with
  | nil => rfl
  | cons x xs ih =>
    show D.tup [.int m, x] :: enumD (m + 1) xs = _
    rw [ih, List.zipIdx_cons, List.map_cons]
theorem enumD_mapf {α : Type} {f : α → D} {xs : List α} {m : Nat} : enumD m (xs.map f) = (xs.zipIdx m).map fun p => D.tup [.int (p.2 : Nat), f p.1] := by
  induction xs generalizing m with
  | nil => rfl
  | cons x xs ih =>
    show D.tup [.int m, f x] :: enumD (m + 1) (xs.map f) = _
    rw [ih, List.zipIdx_cons, List.map_cons]
theorem zipD_map {xs ys : List D} : zipD xs ys = (List.zip xs ys).map fun p => D.tup [p.1, p.2] := by
  induction xs generalizing ys with
  | nil => rfl
  | cons x xs ih => cases ys with
    | nil => rfl
    | cons y ys =>
      show D.tup [x, y] :: zipD xs ys = _
      rw [ih]
      rfl
/-! ### a call, to its end -/
def endR (keep : Bool) (len : Nat) (r : SR) : Res Vl := match r with
  | .nx _ S1 => leave keep len (.d .non) S1
  | .ret v S1 => leave keep len v S1
  | .exc x _ S1 => .exc x (S1.take len)
  | _ => .bad
theorem call_e {n f : Nat} {us : List Vl} {fd : FDef} (h1 : P.fns[f]? = some fd) (h2 : us.length = fd.pars) (hs : fd.star = false := by rfl) : callN P (n + 1) f th us S = endR fd.keep S.length (exL P (callN P n) th fd.body (us.map some ++ List.replicate (fd.slots - fd.pars) none) S) := by
  show callF P (callN P n) f th us S = _
  unfold callF
  rw [h1]
  dsimp only
  rw [lenOf_f hs, envOf_f hs, if_pos h2]
  rfl
/-- a def that hears -/
theorem call_h {n f : Nat} {us : List Vl} {fd : FDef} (h1 : P.fns[f]? = some fd) (h2 : us.length = 2) (hs : fd.star = true) : callN P (n + 1) f th us S = endR fd.keep S.length (exL P (callN P n) th fd.body (none :: (us.map some ++ List.replicate (fd.slots - 3) none)) S) := by
  show callF P (callN P n) f th us S = _
  unfold callF
  rw [h1]
  dsimp only
  rw [lenOf_t hs, envOf_t hs, if_pos h2]
  rfl
theorem end_nx {len : Nat} : endR false len (.nx ρ S) = .ok (.d .non) (S.take len) := nr rfl
theorem end_ret {len : Nat} {z : D} : endR false len (.ret (.d z) S) = .ok (.d z) (S.take len) := nr rfl
theorem end_keep {len : Nat} : endR true len (.ret v S) = .ok v S := nr rfl
theorem end_exc {len : Nat} {keep : Bool} {x : Exn} : endR keep len (.exc x ρ S) = .exc x (S.take len) := nr rfl
theorem end_ref {len m : Nat} {xs : List D} (h : S[m]? = some (.lst xs)) : endR false len (.ret (.ref m) S) = .ok (.d (.lst xs)) ((S.set m (.fz (.lst xs))).take len) := by
  show (match vw S (.ref m) with
    | some x => Res.ok x (S.set m (.fz x))
    | none => .bad).bind _ = _
  rw [vw_lst h]
  rfl
theorem end_refE {xs : List D} : endR false S.length (.ret (.ref S.length) (S ++ [.lst xs])) = .ok (.d (.lst xs)) S := by
  rw [end_ref at_end, set_end, take_end]
theorem take_upd {c e : Cell} : (S ++ [c]).take (S ++ [e]).length = S ++ [c] := by
  rw [List.take_of_length_le]
  simp
theorem take_upd2 {c e : Cell} : (S ++ [c]).take (S.length + [e].length) = S ++ [c] := by
  rw [List.take_of_length_le]
  simp
theorem nonD_n : isNon .non = true := nr rfl
theorem truD_n : isTru .non = false := nr rfl
theorem nonD_b {b : Bool} : isNon (.bl b) = false := nr rfl
theorem nonD_i {i : Int} : isNon (.int i) = false := nr rfl
theorem truD_i {i : Int} : isTru (.int i) = false := nr rfl
theorem nonD_s {s : Str} : isNon (.str s) = false := nr rfl
theorem truD_s {s : Str} : isTru (.str s) = false := nr rfl
theorem nonD_t {xs : List D} : isNon (.tup xs) = false := nr rfl
theorem truD_t {xs : List D} : isTru (.tup xs) = false := nr rfl
theorem nonD_l {xs : List D} : isNon (.lst xs) = false := nr rfl
theorem truD_l {xs : List D} : isTru (.lst xs) = false := nr rfl
theorem nonD_d {kvs : List (Sum Int Str × D)} : isNon (.dct kvs) = false := nr rfl
theorem truD_d {kvs : List (Sum Int Str × D)} : isTru (.dct kvs) = false := nr rfl
theorem nonD_o {c : Nat} {fs : List (Nat × D)} : isNon (.ins c fs) = false := nr rfl
theorem truD_o {c : Nat} {fs : List (Nat × D)} : isTru (.ins c fs) = false := nr rfl
theorem truD_b {b : Bool} : isTru (.bl b) = b := nr rfl
end
end Wk

set_option Elab.async false
set_option linter.all false
set_option maxRecDepth 100000
set_option maxHeartbeats 1000000
/-! WmG: drawing in loops. -/
namespace Wk
open PySem hiding Env
theorem deedD_e {d : Deed} : deedD d = .tup [.str d.1, .int d.2] := nr rfl
theorem textD_e {t : List Deed} : textD t = .tup (t.map deedD) := nr rfl
theorem handD_e {h : Hand} : handD h = .tup [textD h.1, textD h.2] := nr rfl
theorem placeD_e {a : Nat × Nat} : placeD a = .tup [.int a.1, .int a.2] := nr rfl
section
variable {P : Pg} {cl : Cl} {th : Th} {ρ : Env} {S : Store} {ns : List Int} {p : Nat}
/-- a draw's call -/
theorem draw_ok {a b c e many : Int} {n f : Nat} {bd : Int} (hf : P.fns[f]? = some (drawF a b c e)) (hp : Pen ns p S bd) (hb : bd ≤ 99999) (h1 : 1 ≤ many) (hm : many < 1073741824) (ha : 0 ≤ a ∧ a ≤ 100000) (hb' : 0 ≤ b ∧ b ≤ 100000) (hc : 0 ≤ c ∧ c ≤ 100000) (he : 0 ≤ e ∧ e ≤ 100000) :
    ∃ (d : Int) (S' : Store), callN P (n + 1) f none [.ref p, .d (.int many)] S = .ok (.d (.int d)) S' ∧ PenTo ns p S S' (bd + 1) ∧ 0 ≤ d ∧ d < many := by
  obtain ⟨i, r, hS, h0, h2, h3⟩ := hp
  have hl : p < S.length := (List.getElem?_eq_some_iff.mp hS).1
  rw [call_e (fd := drawF a b c e) hf rfl]
  show ∃ (d : Int) (S' : Store), endR false S.length (exL P (callN P n) none (drawF a b c e).body [some (.ref p), some (.d (.int many)), none, none, none, none, none] S) = _ ∧ _
  by_cases hs : many < 2
  · rw [draw_small hs]
    exact ⟨0, S, by rw [end_ret, List.take_length], (Pen.mono ⟨i, r, hS, h0, h2, h3⟩ (by omega)).self, by omega, by omega⟩
  · by_cases hr : 0 < r
    · rw [draw_rest hS hs hm hr]
      refine ⟨r % many, _, by rw [end_ret, List.take_of_length_le (by simp)], ⟨i, r / many, rfl, h0, by omega, Int.ediv_nonneg h3 (by omega)⟩, Int.emod_nonneg _ (by omega), Int.emod_lt_of_pos _ (by omega)⟩
    · obtain ⟨d, r', d1, d2, d3, q⟩ := draw_fresh (P := P) (cl := callN P n) hS hs hm hr h3 ⟨h0, by omega⟩ ha hb' hc he
      rw [q]
      exact ⟨d, _, by rw [end_ret, List.take_of_length_le (by simp)], ⟨i + 1, r', rfl, by omega, by omega, d3⟩, d1, d2⟩
theorem Pen.app {bd : Int} {c : Cell} (h : Pen ns p S bd) : Pen ns p (S ++ [c]) bd := by
  have hl := h.lt
  obtain ⟨i, r, h1, h2⟩ := h
  exact ⟨i, r, by rw [List.getElem?_append_left hl]; exact h1, h2⟩
theorem PenTo.app {bd : Int} {c : Cell} {S' : Store} (h : PenTo ns p (S ++ [c]) S' bd) (hl : p < S.length) : ∃ S1, S' = S1 ++ [c] ∧ PenTo ns p S S1 bd := by
  obtain ⟨i, r, rfl, h2⟩ := h
  exact ⟨S.set p (.lst [.lst (ns.map .int), .int i, .int r]), List.set_append_left _ _ hl, i, r, rfl, h2⟩
theorem PenTo.up {bd bd' : Int} {S' : Store} (h : PenTo ns p S S' bd) (hb : bd ≤ bd') : PenTo ns p S S' bd' := by
  obtain ⟨i, r, e, h1, h2, h3⟩ := h
  exact ⟨i, r, e, h1, by omega, h3⟩
/-- a comprehension that draws -/
theorem compF_pen {α : Type} {f : α → Store → Res Vl} {Q : α → D → Prop} {k : Int} (hk : 0 ≤ k) : ∀ {xs : List α} {acc : List D} {S : Store} {bd : Int}, (∀ x ∈ xs, ∀ (S : Store) (bd : Int), Pen ns p S bd → bd + k ≤ 100000 → ∃ y S', f x S = .ok (.d y) S' ∧ PenTo ns p S S' (bd + k) ∧ Q x y) → Pen ns p S bd → bd + k * xs.length ≤ 100000 → acc.length + xs.length ≤ sizeLine →
    ∃ ys S', compM xs (fun x _ => f x) acc S = .ok (acc ++ ys) S' ∧ PenTo ns p S S' (bd + k * xs.length) ∧ ys.length = xs.length ∧ (∀ (i : Nat) (x : α) y, xs[i]? = some x → ys[i]? = some y → Q x y)
  | [], acc, S, bd, h, hp, hb, hz => ⟨[], S, by rw [List.append_nil, compM_no]; rfl, hp.self.up (by simp), rfl, fun i x y hx => by simp at hx⟩
  | x :: xs, acc, S, bd, h, hp, hb, hz => by
    have e : k * ((x :: xs).length : Int) = k * xs.length + k := by
      rw [List.length_cons, Int.natCast_add, Int.mul_add]
      simp
    have e0 : 0 ≤ k * (xs.length : Int) := Int.mul_nonneg hk (Int.natCast_nonneg _)
    rw [List.length_cons] at hz
    obtain ⟨y, S1, h1, h2, h3⟩ := h x List.mem_cons_self S bd hp (by omega)
    obtain ⟨ys, S2, g1, g2, g3, g4⟩ := compF_pen hk (f := f) (Q := Q) (xs := xs) (acc := acc ++ [y]) (fun z hz => h z (List.mem_cons_of_mem _ hz)) (h2.pen hp.lt) (by omega) (by rw [List.length_append, List.length_singleton]; omega)
    refine ⟨y :: ys, S2, ?_, (h2.trans g2).up (by omega), by rw [List.length_cons, List.length_cons, g3], fun i z w hz hw => ?_⟩
    · rw [compM_no]
      show (f x S).nox.bind _ = _
      rw [compM_no] at g1
      rw [h1, nox_ok, bind_ok, frz_d, bind_ok, if_pos (by omega), g1, List.append_assoc]
      rfl
    · cases i with
      | zero =>
        simp at hz hw
        subst hz hw
        exact h3
      | succ i => exact g4 i z w (by simpa using hz) (by simpa using hw)
/-- all are coded -/
theorem map_of {β : Type} {e : β → D} {G : β → Prop} : ∀ {ys : List D}, (∀ y ∈ ys, ∃ d, y = e d ∧ G d) → ∃ ds : List β, ys = ds.map e ∧ (∀ d ∈ ds, G d) ∧ ds.length = ys.length
  | [], _ => ⟨[], rfl, fun d hd => by simp at hd, rfl⟩
  | y :: ys, h => by
    obtain ⟨d, rfl, g⟩ := h y List.mem_cons_self
    obtain ⟨ds, rfl, g2, g3⟩ := map_of (ys := ys) fun z hz => h z (List.mem_cons_of_mem _ hz)
    exact ⟨d :: ds, rfl, fun z hz => by
      rcases List.mem_cons.mp hz with rfl | hz
      · exact g
      · exact g2 z hz, by rw [List.length_cons, List.length_cons, g3]⟩
theorem map_of2 {α β : Type} {e : β → D} {G : α → β → Prop} : ∀ {xs : List α} {ys : List D}, ys.length = xs.length → (∀ (i : Nat) (x : α) y, xs[i]? = some x → ys[i]? = some y → ∃ d, y = e d ∧ G x d) → ∃ ds : List β, ys = ds.map e ∧ ds.length = xs.length ∧ ∀ (i : Nat) (x : α) d, xs[i]? = some x → ds[i]? = some d → G x d
  | [], [], _, _ => ⟨[], rfl, rfl, fun i x d hx => by simp at hx⟩
  | x :: xs, [], h, _ => by simp at h
  | [], y :: ys, h, _ => by simp at h
  | x :: xs, y :: ys, h, q => by
    obtain ⟨d, rfl, g⟩ := q 0 x y rfl rfl
    obtain ⟨ds, rfl, g2, g3⟩ := map_of2 (xs := xs) (ys := ys) (G := G) (e := e) (by simpa using h) fun i a b ha hb => q (i + 1) a b (by simpa using ha) (by simpa using hb)
    refine ⟨d :: ds, rfl, by simp [g2], fun i a b ha hb => ?_⟩
    cases i with
    | zero =>
      simp at ha hb
      subst ha hb
      exact g
    | succ i => exact g3 i a b (by simpa using ha) (by simpa using hb)
/-! ### for loops -/
def forT (p : Pt) (v : D) (body : List CS) (P : Pg) (cl : Cl) (th : Th) (ρ : Env) (S : Store) : SR := match setPt p v ρ with
    | some ρ => exL P cl th body ρ S
    | none => .bad
theorem forT_nm {i : Nat} {z : D} {body : List CS} : forT (.nm i) z body P cl th ρ S = exL P cl th body (ρ.set i (some (.d z))) S := nr rfl
theorem forT_2 {i j : Nat} {a b : D} {body : List CS} : forT (.tup [i, j]) (.tup [a, b]) body P cl th ρ S = exL P cl th body ((ρ.set i (some (.d a))).set j (some (.d b))) S := nr rfl
theorem forT_3 {i j k : Nat} {a b c : D} {body : List CS} : forT (.tup [i, j, k]) (.tup [a, b, c]) body P cl th ρ S = exL P cl th body (((ρ.set i (some (.d a))).set j (some (.d b))).set k (some (.d c))) S := nr rfl
theorem forX_inv {p : Pt} {body : List CS} {I : Nat → Env → Store → Prop} : ∀ {its : List D} {k : Nat} {ρ : Env} {S : Store}, I k ρ S → (∀ i x, its[i]? = some x → ∀ ρ S, I (k + i) ρ S → ∃ ρ' S', (forT p x body P cl th ρ S = .nx ρ' S' ∨ forT p x body P cl th ρ S = .cnt ρ' S') ∧ I (k + i + 1) ρ' S') → ∃ ρ' S', forX P cl th p body its ρ S = .nx ρ' S' ∧ I (k + its.length) ρ' S'
  | [], k, ρ, S, h0, _ => ⟨ρ, S, rfl, h0⟩
  | x :: its, k, ρ, S, h0, hs => by
    obtain ⟨ρ1, S1, e, h1⟩ := hs 0 x rfl ρ S h0
    obtain ⟨ρ2, S2, e2, h2⟩ := forX_inv (its := its) (k := k + 1) (I := I) h1 fun i y hy ρ S h => by
      have := hs (i + 1) y (by simpa using hy) ρ S (by rw [show k + (i + 1) = k + 1 + i by omega]; exact h)
      rw [show k + (i + 1) + 1 = k + 1 + i + 1 by omega] at this
      exact this
    refine ⟨ρ2, S2, ?_, by rw [List.length_cons, show k + (its.length + 1) = k + 1 + its.length by omega]; exact h2⟩
    have : forX P cl th p body (x :: its) ρ S = (match forT p x body P cl th ρ S with
      | .nx ρ S => forX P cl th p body its ρ S
      | .cnt ρ S => forX P cl th p body its ρ S
      | .brk ρ S => .nx ρ S
      | r => r) := rfl
    rw [this]
    rcases e with e | e <;> rw [e] <;> exact e2
end
theorem cut_take {xs : List D} {c : Nat} (h : c ≤ xs.length) : cutD xs none (some (c : Int)) = xs.take c := by
  unfold cutD
  have : HT.sIx xs.length xs.length (some (c : Int)) = c := by
    rw [HT.sIx_nat]
    omega
  rw [this]
  have : HT.sIx xs.length 0 none = 0 := rfl
  rw [this]
  simp
theorem cut_drop {xs : List D} {c : Nat} (h : c ≤ xs.length) : cutD xs (some (c : Int)) none = xs.drop c := by
  unfold cutD
  have : HT.sIx xs.length 0 (some (c : Int)) = c := by
    rw [HT.sIx_nat]
    omega
  rw [this]
  have : HT.sIx xs.length xs.length none = xs.length := rfl
  rw [this]
  exact List.take_of_length_le (by simp)
end Wk

set_option Elab.async false
set_option linter.all false
set_option maxRecDepth 100000
set_option maxHeartbeats 1000000
/-! WmH: repr of data. -/
namespace Wk
open PySem hiding Env
mutual
/-- no less than the letters of the repr -/
def wt : D → Nat
  | .int i => if i.natAbs < 10 ^ 9 then 10 else 600
  | .str s => 10 * s.length + 2
  | .tup ds => wtL ds + 4
  | .lst ds => wtL ds + 4
  | _ => 5
def wtL : List D → Nat
  | [] => 0
  | d :: ds => wt d + 2 + wtL ds
end
mutual
/-- repr tells of it -/
def shw : D → Bool
  | .non => true
  | .bl _ => true
  | .int i => decide (i.natAbs.log2 < 1900)
  | .str s => PyData.canLay0 (.str s)
  | .tup ds => shwL ds
  | .lst ds => shwL ds
  | _ => false
def shwL : List D → Bool
  | [] => true
  | d :: ds => shw d && shwL ds
end
mutual
theorem shw_lay : ∀ {d : D}, shw d = true → lay d = true ∧ (toPy d).showable = true
  | .non, _ => ⟨rfl, rfl⟩
  | .bl _, _ => ⟨rfl, rfl⟩
  | .int i, h => ⟨rfl, by simpa [toPy, PyData.showable, shw] using (Nat.lt_trans (by simpa [shw] using h) (by decide : 1900 < 1920))⟩
  | .str s, h => ⟨by simpa [shw, lay] using h, rfl⟩
  | .tup ds, h => by
    obtain ⟨a, b⟩ := shw_layL (ds := ds) (by simpa [shw] using h)
    exact ⟨by simpa [lay] using a, by simpa [toPy, PyData.showable] using b⟩
  | .lst ds, h => by
    obtain ⟨a, b⟩ := shw_layL (ds := ds) (by simpa [shw] using h)
    exact ⟨by simpa [lay] using a, by simpa [toPy, PyData.showable] using b⟩
  | .dct _, h => by simp [shw] at h
  | .ins _ _, h => by simp [shw] at h
  | .scr _, h => by simp [shw] at h
theorem shw_layL : ∀ {ds : List D}, shwL ds = true → layL ds = true ∧ PyData.showableAll (toPyL ds) = true
  | [], _ => ⟨rfl, rfl⟩
  | d :: ds, h => by
    simp only [shwL, Bool.and_eq_true] at h
    obtain ⟨a, b⟩ := shw_lay h.1
    obtain ⟨c, e⟩ := shw_layL h.2
    exact ⟨by simp [layL, a, c], by simp [toPyL, PyData.showableAll, b, e]⟩
end
def chrS (x : Str) : Prop := ∀ c ∈ x.cps.toList, c < 0x110000
theorem chrS_lay {x : Str} : PyData.canLay0 (.str x) = true ↔ chrS x := by
  show x.cps.all (· < 0x110000) = true ↔ _
  rw [← Array.all_toList, List.all_eq_true]
  simp [chrS]
theorem chrS_app {x y : Str} (hx : chrS x) (hy : chrS y) : chrS (x ++ y) := by
  intro c hc
  have : (x ++ y).cps.toList = x.cps.toList ++ y.cps.toList := by
    show (x.cps ++ y.cps).toList = _
    simp
  rw [this] at hc
  rcases List.mem_append.mp hc with q | q
  · exact hx c q
  · exact hy c q
theorem chrS_of (s : String) : chrS (Str.ofString s) := by
  rw [Str.ofString_eq_toList]
  intro c hc
  simp only [List.mem_map] at hc
  obtain ⟨a, _, rfl⟩ := hc
  have := a.valid
  rcases this with h | h
  · have h : a.toNat < 0xD800 := h
    omega
  · exact h.2
theorem len_nat {m k : Nat} (hk : 1 ≤ k) (h : m < 10 ^ k) : (Str.ofString (toString ((m : Nat) : Int))).length ≤ k := by
  have e := congrArg List.length (PySem.W.KIN.signs_num m)
  rw [List.length_map] at e
  have : (Str.ofString (toString ((m : Nat) : Int))).length = (Str.ofString (toString ((m : Nat) : Int))).cps.toList.length := by
    show Array.size _ = _
    simp
  rw [this, e]
  exact PyProof.Rows.digits10_le hk h
theorem len_int {i : Int} {k : Nat} (hk : 1 ≤ k) (h : i.natAbs < 10 ^ k) : (Str.ofString (toString i)).length ≤ k + 1 := by
  by_cases hi : i < 0
  · rw [PyProof.Rows.len_text_neg hi]
    have e : 0 - i = ((i.natAbs : Nat) : Int) := by omega
    rw [e]
    have := len_nat hk h
    omega
  · have e : i = ((i.natAbs : Nat) : Int) := by omega
    rw [e]
    have := len_nat hk h
    omega
theorem log_lt {m : Nat} (h : m.log2 < 1900) : m < 10 ^ 572 := by
  have h1 : m < 2 ^ 1900 := by
    by_cases z : m = 0
    · subst z
      exact Nat.two_pow_pos _
    · exact Nat.lt_of_lt_of_le (Nat.log2_lt z |>.mp h) (Nat.le_refl _)
  exact Nat.lt_of_lt_of_le h1 (by decide +kernel)
theorem chrS_list {ts : List Str} : ∀ {k : Nat} {acc : Str}, chrS acc → (∀ t ∈ ts, chrS t) → chrS (textFrom k acc ts) := by
  induction ts with
  | nil => intro k acc h _; exact h
  | cons t ts ih =>
    intro k acc h h2
    refine ih (chrS_app (chrS_app h ?_) (h2 t List.mem_cons_self)) fun u hu => h2 u (List.mem_cons_of_mem _ hu)
    split <;> exact chrS_of _
theorem chrS_join {ts : List Str} (h : ∀ t ∈ ts, chrS t) : chrS (Str.join ", " ts) := by
  induction ts with
  | nil => intro c hc; cases hc
  | cons t ts ih =>
    cases ts with
    | nil => exact h t List.mem_cons_self
    | cons u ts => exact chrS_app (chrS_app (h t List.mem_cons_self) (chrS_of _)) (ih fun v hv => h v (List.mem_cons_of_mem _ hv))
theorem hex_small {w c d : Nat} (h : d ∈ List.replicate w 48 ++ (Nat.toDigits 16 c).map Char.toNat) : d < 0x110000 := by
  rcases List.mem_append.mp h with q | q
  · rw [(List.mem_replicate.mp q).2]
    decide
  · obtain ⟨a, _, rfl⟩ := List.mem_map.mp q
    rcases a.valid with h | h
    · have h : a.toNat < 0xD800 := h
      omega
    · exact h.2
theorem chrS_char {q c : Nat} (hq : q < 0x110000) (hc : c < 0x110000) : ∀ d ∈ Builtin.Str.reprChar q c, d < 0x110000 := by
  intro d hd
  unfold Builtin.Str.reprChar at hd
  split at hd
  · simp only [List.mem_cons, List.not_mem_nil, or_false] at hd
    rcases hd with rfl | rfl <;> omega
  split at hd
  · simp only [List.mem_cons, List.not_mem_nil, or_false] at hd
    rcases hd with rfl | rfl <;> omega
  split at hd
  · simp only [List.mem_cons, List.not_mem_nil, or_false] at hd
    rcases hd with rfl | rfl <;> omega
  split at hd
  · simp only [List.mem_cons, List.not_mem_nil, or_false] at hd
    rcases hd with rfl | rfl <;> omega
  split at hd
  · simp only [List.mem_cons, List.not_mem_nil, or_false] at hd
    omega
  split at hd
  · rcases List.mem_append.mp hd with z | z
    · simp only [List.mem_cons, List.not_mem_nil, or_false] at z
      rcases z with rfl | rfl <;> omega
    · exact hex_small z
  split at hd
  · rcases List.mem_append.mp hd with z | z
    · simp only [List.mem_cons, List.not_mem_nil, or_false] at z
      rcases z with rfl | rfl <;> omega
    · exact hex_small z
  · rcases List.mem_append.mp hd with z | z
    · simp only [List.mem_cons, List.not_mem_nil, or_false] at z
      rcases z with rfl | rfl <;> omega
    · exact hex_small z
theorem chrS_fold {q : Nat} (hq : q < 0x110000) : ∀ {l : List Nat} {acc : Array Nat}, (∀ c ∈ l, c < 0x110000) → (∀ c ∈ acc.toList, c < 0x110000) → ∀ c ∈ (l.foldl (fun out c => out ++ (Builtin.Str.reprChar q c).toArray) acc).toList, c < 0x110000
  | [], acc, _, h2 => h2
  | a :: l, acc, h1, h2 => by
    refine chrS_fold hq (l := l) (fun c hc => h1 c (List.mem_cons_of_mem _ hc)) fun c hc => ?_
    simp only [Array.toList_append, List.mem_append] at hc
    rcases hc with z | z
    · exact h2 c z
    · exact chrS_char hq (h1 a List.mem_cons_self) c (by simpa using z)
theorem chrS_repr {x : Str} (h : chrS x) : chrS (reprText x) := by
  have hq : reprQuote x < 0x110000 := by
    unfold reprQuote
    split <;> decide
  intro c hc
  unfold reprText at hc
  simp only [Array.toList_push, List.mem_append, List.mem_singleton] at hc
  rcases hc with z | z
  · rw [← Array.foldl_toList] at z
    exact chrS_fold hq h (fun c hc => by
      simp only [List.mem_singleton] at hc
      rw [hc]
      exact hq) c z
  · rw [z]
    exact hq
theorem len_list (ts : List Str) : (listText ts).length ≤ piled ts + 4 := by
  cases ts with
  | nil => decide
  | cons t r =>
    have h := textFrom_length_pos r 1 (("[" : Str) ++ (if (0 : Nat) > 0 then ", " else "" : String) ++ t) (Nat.succ_pos 0)
    have e : ((("[" : Str) ++ (if (0 : Nat) > 0 then ", " else "" : String) ++ t)).length = 1 + t.length := by
      rw [strLen_append, strLen_append]; rfl
    have hX : (listText (t :: r)).length = (textFrom 0 "[" (t :: r)).length + 1 := by
      show (textFrom 0 "[" (t :: r) ++ "]").length = _
      rw [strLen_append]; rfl
    have hY : (textFrom 0 "[" (t :: r)).length = (textFrom 1 (("[" : Str) ++ (if (0 : Nat) > 0 then ", " else "" : String) ++ t) r).length := rfl
    rw [hX, hY, h, e, piled_cons]; omega
theorem len_tup (ts : List Str) : (tupleText ts).length ≤ piled ts + 4 := by
  unfold tupleText
  rw [strLen_append, strLen_append]
  have e1 : ((("(" : String) : Str)).length = 1 := rfl
  have e2 : (((if ts.length == 1 then ",)" else ")" : String)) : Str).length ≤ 2 := by
    split <;> decide
  rw [e1]
  by_cases hz : ts = []
  · subst hz
    have : (Str.join ", " ([] : List Str)).length = 0 := rfl
    omega
  · have := join_length_add ts hz
    omega
mutual
theorem shown_ok : ∀ {d : D}, shw d = true → (toPy d).shown.length ≤ wt d ∧ chrS (toPy d).shown
  | .non, _ => ⟨by decide +kernel, chrS_of _⟩
  | .bl b, _ => ⟨by cases b <;> decide +kernel, by
    simp only [toPy, PyData.shown]
    cases b <;> exact chrS_of _⟩
  | .int i, h => by
    refine ⟨?_, chrS_of _⟩
    simp only [toPy, PyData.shown, wt]
    split
    · exact len_int (k := 9) (by decide) (by assumption)
    · exact Nat.le_trans (len_int (k := 572) (by decide) (log_lt (by simpa [shw] using h))) (by decide)
  | .str s, h => by
    have h : chrS s := chrS_lay.mp (by simpa [shw] using h)
    exact ⟨StrLaws.reprText_len s fun c hc => Nat.lt_trans (h c hc) (by decide), chrS_repr h⟩
  | .tup ds, h => by
    obtain ⟨a, b⟩ := shown_okL (ds := ds) (by simpa [shw] using h)
    simp only [toPy, PyData.shown, wt]
    refine ⟨Nat.le_trans (len_tup _) (by omega), ?_⟩
    unfold tupleText
    refine chrS_app (chrS_app (chrS_of _) (chrS_join b)) ?_
    split <;> exact chrS_of _
  | .lst ds, h => by
    obtain ⟨a, b⟩ := shown_okL (ds := ds) (by simpa [shw] using h)
    simp only [toPy, PyData.shown, wt]
    exact ⟨Nat.le_trans (len_list _) (by omega), chrS_app (chrS_list (chrS_of _) b) (chrS_of _)⟩
  | .dct _, h => by simp [shw] at h
  | .ins _ _, h => by simp [shw] at h
  | .scr _, h => by simp [shw] at h
theorem shown_okL : ∀ {ds : List D}, shwL ds = true → piled (PyData.shownAll (toPyL ds)) ≤ wtL ds ∧ ∀ t ∈ PyData.shownAll (toPyL ds), chrS t
  | [], _ => ⟨Nat.le_refl _, fun t ht => by simp [toPyL, PyData.shownAll] at ht⟩
  | d :: ds, h => by
    simp only [shwL, Bool.and_eq_true] at h
    obtain ⟨a, b⟩ := shown_ok h.1
    obtain ⟨c, e⟩ := shown_okL h.2
    simp only [toPyL, PyData.shownAll, piled_cons, wtL]
    refine ⟨by omega, fun t ht => ?_⟩
    rcases List.mem_cons.mp ht with rfl | ht
    · exact b
    · exact e t ht
end
/-- what repr tells -/
def rpr (d : D) : Str := (toPy d).shown
/-- repr can be asked of it -/
structure Rp (d : D) : Prop where
  shw : shw d = true
  dep : dep d ≤ 64
  wt : wt d ≤ sizeLine
section
variable {P : Pg} {cl : Cl} {S : Store}
theorem Rp.biop {d : D} (h : Rp d) : Wk.biop P .repr [d] = some (.str (rpr d)) := by
  obtain ⟨h1, h2⟩ := shw_lay h.shw
  obtain ⟨p1, p2, p3⟩ := py_lay h1
  obtain ⟨l1, l2⟩ := shown_ok h.shw
  show (match py d with
    | some a => if SeqAt.shaped a && a.showable && decide (a.shown.length ≤ sizeLine) then some (D.str a.shown) else none
    | none => none) = _
  rw [p1]
  dsimp only
  rw [if_pos]
  · rfl
  · simp only [SeqAt.shaped, p2, p3, h2, h.dep, decide_true, Bool.true_and, Bool.and_true, decide_eq_true_eq]
    exact Nat.le_trans l1 h.wt
theorem Rp.bi {d : D} (h : Rp d) : biR P .repr [.d d] S = .ok (.d (.str (rpr d))) S := biR_d (xs := [d]) rfl h.biop
theorem Rp.lay {d : D} (h : Rp d) : PyData.canLay0 (.str (rpr d)) = true := chrS_lay.mpr (shown_ok h.shw).2
theorem Rp.ne {d : D} (h : Rp d) : cmpM P cl .ne (.d (.str (rpr d))) (.d (.str (rpr d))) S = .ok false S := by
  rw [ne_s h.lay h.lay, str_beq.mpr rfl]
  rfl
end
theorem shwL_all {α : Type} {e : α → D} : ∀ {xs : List α}, (∀ x ∈ xs, shw (e x) = true) → shwL (xs.map e) = true
  | [], _ => rfl
  | x :: xs, h => by
    simp only [List.map_cons, shwL, Bool.and_eq_true]
    exact ⟨h x List.mem_cons_self, shwL_all fun y hy => h y (List.mem_cons_of_mem _ hy)⟩
theorem wtL_le {α : Type} {e : α → D} {k : Nat} : ∀ {xs : List α}, (∀ x ∈ xs, wt (e x) ≤ k) → wtL (xs.map e) ≤ xs.length * (k + 2)
  | [], _ => by simp [wtL]
  | x :: xs, h => by
    simp only [List.map_cons, wtL, List.length_cons, Nat.succ_mul]
    have := h x List.mem_cons_self
    have := wtL_le (xs := xs) fun y hy => h y (List.mem_cons_of_mem _ hy)
    omega
/-- repr, how great -/
structure Rq (k w : Nat) (d : D) : Prop where
  shw : shw d = true
  dep : dep d ≤ k
  wt : wt d ≤ w
theorem Rq.rp {k w : Nat} {d : D} (h : Rq k w d) (hk : k ≤ 64) (hw : w ≤ sizeLine) : Rp d := ⟨h.shw, Nat.le_trans h.dep hk, Nat.le_trans h.wt hw⟩
theorem Rq.up {k w k' w' : Nat} {d : D} (h : Rq k w d) (hk : k ≤ k') (hw : w ≤ w') : Rq k' w' d := ⟨h.shw, Nat.le_trans h.dep hk, Nat.le_trans h.wt hw⟩
theorem rq_tup {α : Type} {e : α → D} {k w m : Nat} {xs : List α} (h : ∀ x ∈ xs, Rq k w (e x)) (hm : xs.length ≤ m) : Rq (k + 1) (m * (w + 2) + 4) (.tup (xs.map e)) ∧ Rq (k + 1) (m * (w + 2) + 4) (.lst (xs.map e)) := by
  have s := shwL_all fun x hx => (h x hx).shw
  have d := depL_le (k := k) fun x hx => (h x hx).dep
  have b := wtL_le (k := w) fun x hx => (h x hx).wt
  have c : xs.length * (w + 2) ≤ m * (w + 2) := Nat.mul_le_mul_right _ hm
  refine ⟨⟨by simpa [Wk.shw] using s, ?_, ?_⟩, ⟨by simpa [Wk.shw] using s, ?_, ?_⟩⟩ <;> simp only [Wk.dep, Wk.wt] <;> omega
theorem rq_list {ds : List D} {k w m : Nat} (h : ∀ x ∈ ds, Rq k w x) (hm : ds.length ≤ m) : Rq (k + 1) (m * (w + 2) + 4) (.tup ds) ∧ Rq (k + 1) (m * (w + 2) + 4) (.lst ds) := by
  have := rq_tup (e := fun x : D => x) h hm
  simpa using this
theorem rq_int {i : Int} (h : i.natAbs < 10 ^ 9) : Rq 0 10 (.int i) := ⟨by
  simp only [Wk.shw, decide_eq_true_eq]
  by_cases z : i.natAbs = 0
  · rw [z]
    decide
  · exact (Nat.log2_lt z).mpr (Nat.lt_trans h (by decide +kernel)), Nat.le_refl _, by simp only [Wk.wt]; rw [if_pos h]; exact Nat.le_refl _⟩
theorem rq_bl {b : Bool} : Rq 0 10 (.bl b) := ⟨rfl, Nat.le_refl _, by simp [Wk.wt]⟩
theorem rq_non : Rq 0 10 .non := ⟨rfl, Nat.le_refl _, by simp [Wk.wt]⟩
theorem rq_deed {d : Deed} (h : goodD d) : Rq 1 168 (deedD d) := by
  obtain ⟨h1, h2, h3⟩ := h
  have hs := isW_lay h1
  have hl : d.1.length ≤ 5 := by
    simp only [isW, Bool.or_eq_true, str_beq] at h1
    rcases h1 with h | h | h <;> rw [← h] <;> decide +kernel
  have := rq_list (ds := [.str d.1, .int d.2]) (k := 0) (w := 80) (m := 2) (fun x hx => by
    rcases List.mem_cons.mp hx with rfl | hx
    · exact ⟨hs, Nat.le_refl _, by simp only [Wk.wt]; omega⟩
    · rcases List.mem_cons.mp hx with rfl | hx
      · exact (rq_int (by omega)).up (Nat.le_refl _) (by omega)
      · cases hx) (by simp)
  exact this.1
theorem rq_text {t : List Deed} {m : Nat} (h : ∀ d ∈ t, goodD d) (hm : t.length ≤ m) : Rq 2 (m * 170 + 4) (textD t) := (rq_tup (fun d hd => rq_deed (h d hd)) hm).1
theorem rq_hand {m : Nat} {h : Hand} (g : goodH m h) : Rq 3 (2 * (m * 170 + 6) + 4) (handD h) := by
  obtain ⟨g1, g2, g3, g4⟩ := g
  unfold hLen at g4
  exact (rq_list (ds := [textD h.1, textD h.2]) (k := 2) (w := m * 170 + 4) (m := 2) (fun x hx => by
    rcases List.mem_cons.mp hx with rfl | hx
    · exact rq_text g1 (by omega)
    · rcases List.mem_cons.mp hx with rfl | hx
      · exact rq_text g2 (by omega)
      · cases hx) (by simp)).1
end Wk

set_option Elab.async false
set_option linter.all false
set_option maxRecDepth 100000
set_option maxHeartbeats 1000000
/-! WnB: a law's body, statement by statement. -/
namespace Wk
open PySem hiding Env
/-- it ends in True -/
def Tru (r : SR) : Prop := ∃ S1, r = .ret (.d (.bl true)) S1
section
variable {P : Pg} {cl : Cl} {th : Th} {ρ ρ1 : Env} {S S1 : Store}
theorem Tru.step {s : CS} {ss : List CS} (h : exS P cl th s ρ S = .nx ρ1 S1) (k : Tru (exL P cl th ss ρ1 S1)) : Tru (exL P cl th (s :: ss) ρ S) := by
  obtain ⟨S2, e⟩ := k
  exact ⟨S2, by rw [x_cons, h, x_seq, e]⟩
theorem Tru.last {s : CS} (h : exS P cl th s ρ S = .ret (.d (.bl true)) S1) : Tru (exL P cl th [s] ρ S) := ⟨S1, by rw [x_cons, h, x_seqr]⟩
theorem Tru.law {n f : Nat} {us : List Vl} {fd : FDef} (h1 : P.fns[f]? = some fd) (h2 : us.length = fd.pars) (hs : fd.star = false) (hk : fd.keep = false) (k : Tru (exL P (callN P n) th fd.body (us.map some ++ List.replicate (fd.slots - fd.pars) none) S)) : ∃ S1, callN P (n + 1) f th us S = .ok (.d (.bl true)) S1 := by
  obtain ⟨S2, e⟩ := k
  exact ⟨S2.take S.length, by rw [call_e h1 h2 hs, e, hk, end_ret]⟩
theorem rep_one {x : D} : ∀ k : Nat, (List.replicate k [x]).flatten = List.replicate k x
  | 0 => rfl
  | k + 1 => by rw [List.replicate_succ, List.flatten_cons, rep_one k]; rfl
theorem mul_ln {x : D} {k : Nat} (h : k ≤ 100000) : binR .mul (.d (.lst [x])) (.d (.int (k : Int))) S = .ok (.d (.lst (List.replicate k x))) S := binR_d (by
  have h3 : (k : Int) < 2 ^ 40 ∧ -2 ^ 40 < (k : Int) ∧ [x].length * ((k : Int)).toNat ≤ sizeLine := ⟨by omega, by omega, by
    rw [List.length_singleton, Nat.one_mul, Int.toNat_natCast]
    exact Nat.le_trans h (by decide)⟩
  simp only [binop]
  rw [if_pos h3, Int.toNat_natCast, rep_one])
theorem ne_c {x y : D} {b : Bool} (h1 : ownEq P .ne x = none) (h2 : cmpop .ne x y = some b) : cmpM P cl .ne (.d x) (.d y) S = .ok b S := cmpR_d h1 h2
theorem eq_c {x y : D} {b : Bool} (h1 : ownEq P .eq x = none) (h2 : cmpop .eq x y = some b) : cmpM P cl .eq (.d x) (.d y) S = .ok b S := cmpR_d h1 h2
end
end Wk

set_option maxHeartbeats 1000000
/-! the text as core terms; printed by gen2.py -/
namespace K02
open PySem Wk
abbrev s (x : String) : Str := Str.ofString x

abbrev i__wall : Nat := 0
abbrev i_is_integer : Nat := 1
abbrev i_is_within : Nat := 2
abbrev i_is_listed : Nat := 3
abbrev i_is_row : Nat := 4
abbrev i_fixed : Nat := 5
abbrev i_is_deed : Nat := 6
abbrev i_is_hand : Nat := 7
abbrev i_need_program : Nat := 8
abbrev i_written : Nat := 9
abbrev i_written_out : Nat := 10
abbrev i_with_sites : Nat := 11
abbrev i__law_pen : Nat := 12
abbrev i__law_draw : Nat := 13
abbrev i__law_pick : Nat := 14
abbrev i__law_heard : Nat := 15
abbrev i__law_deed : Nat := 16
abbrev i__law_plain : Nat := 17
abbrev i_law : Nat := 18
abbrev i_Program___init__ : Nat := 19
abbrev i_Program_take : Nat := 20
abbrev i_Program___eq__ : Nat := 21
abbrev i_Program_deed : Nat := 22
abbrev i_Program_cell : Nat := 23
abbrev i_Program_is_reader : Nat := 24
abbrev i_Program_is_maker : Nat := 25
abbrev i_Program_is_in_round : Nat := 26
abbrev i_Program_all_sites : Nat := 27
abbrev i_LongProgram___init__ : Nat := 28
abbrev c_Program : Nat := 0
abbrev c_LongProgram : Nat := 1
abbrev g_READ : Nat := 0
abbrev g_WRITE : Nat := 1
abbrev g_TURN : Nat := 2
abbrev g_MOST_HANDS : Nat := 3
abbrev g_MOST_DEEDS : Nat := 4
abbrev g_MOST_CELL : Nat := 5
abbrev g_MOST_SITE : Nat := 6
abbrev g_MOST_PASSES : Nat := 7
abbrev x_WaitError : Nat := 0
abbrev x_BadValue : Nat := 1
abbrev x_BadNumber : Nat := 2
abbrev x_BadProgram : Nat := 3
abbrev x_BadRule : Nat := 4
abbrev x_BadLog : Nat := 5
abbrev x_BadPair : Nat := 6
abbrev x_BadStep : Nat := 7
abbrev x_BadWord : Nat := 8
abbrev x_BadText : Nat := 9
abbrev x_Misfit : Nat := 10
abbrev x_Nothing : Nat := 11
abbrev x_TooMany : Nat := 12
abbrev n_is_straight : Nat := 0
abbrev n_hands : Nat := 1
abbrev n_sites : Nat := 2
abbrev n_what : Nat := 3
abbrev n_most : Nat := 4
abbrev n_pair : Nat := 5
abbrev n_step : Nat := 6
abbrev n_line : Nat := 7
abbrev n_word : Nat := 8
abbrev n_part : Nat := 9
abbrev n_heads : Nat := 10
abbrev n_lengths : Nat := 11
abbrev n_take : Nat := 12
abbrev n_many : Nat := 13
abbrev n_texts : Nat := 14
abbrev n_places : Nat := 15
abbrev n_deed : Nat := 16
abbrev n_cell : Nat := 17
abbrev n_is_reader : Nat := 18
abbrev n_is_maker : Nat := 19
abbrev n_is_in_round : Nat := 20
abbrev n_all_sites : Nat := 21
def f__wall : FDef where
  pars := 1
  slots := 1
  dfl := []
  star := false
  keep := false
  body := [
    .never]
def f_is_integer : FDef where
  pars := 1
  slots := 1
  dfl := []
  star := false
  keep := false
  body := [
    .ret (.land (.isi (.var 0) [.ty .int]) (.lnot (.isi (.var 0) [.ty .bl])))]
def f_is_within : FDef where
  pars := 3
  slots := 3
  dfl := []
  star := false
  keep := false
  body := [
    .ret (.land (.call i_is_integer [(.var 0)] []) (.chn .le .le (.var 1) (.var 0) (.var 2)))]
def f_is_listed : FDef where
  pars := 1
  slots := 1
  dfl := []
  star := false
  keep := false
  body := [
    .ret (.isi (.var 0) [.ty .lst, .ty .tup])]
def f_is_row : FDef where
  pars := 3
  slots := 3
  dfl := []
  star := false
  keep := false
  body := [
    .ret (.land (.call i_is_listed [(.var 0)] []) (.chn .le .le (.var 1) (.bi .len [(.var 0)]) (.var 2)))]
def f_fixed : FDef where
  pars := 1
  slots := 2
  dfl := []
  star := false
  keep := false
  body := [
    .iff (.isi (.var 0) [.ty .lst, .ty .tup]) [.ret (.bi .tuple [(.comp [1] .seq [(.var 0)] (.nm 1) none (.call i_fixed [(.var 1)] []))])] [],
    .ret (.var 0)]
def f_is_deed : FDef where
  pars := 1
  slots := 1
  dfl := []
  star := false
  keep := false
  body := [
    .iff (.lor (.lnot (.call i_is_row [(.var 0), (.cst (.int 2)), (.cst (.int 2))] [])) (.lnot (.isi (.ix (.var 0) (.cst (.int 0))) [.ty .str]))) [.ret (.cst (.bl false))] [],
    .ret (.land (.cmp .in_ (.ix (.var 0) (.cst (.int 0))) (.tup [(.glo g_READ), (.glo g_WRITE), (.glo g_TURN)])) (.call i_is_within [(.ix (.var 0) (.cst (.int 1))), (.cst (.int 0)), (.glo g_MOST_CELL)] []))]
def f_is_hand : FDef where
  pars := 2
  slots := 5
  dfl := []
  star := false
  keep := false
  body := [
    .iff (.lor (.lnot (.call i_is_row [(.var 0), (.cst (.int 2)), (.cst (.int 2))] [])) (.lnot (.bi .all [(.comp [4] .seq [(.var 0)] (.nm 4) none (.call i_is_row [(.var 4), (.cst (.int 0)), (.var 1)] []))]))) [.ret (.cst (.bl false))] [],
    .asg (.nm 2) (.lstS [(true, (.ix (.var 0) (.cst (.int 0)))), (true, (.ix (.var 0) (.cst (.int 1))))]),
    .ret (.land (.chn .le .le (.cst (.int 1)) (.bi .len [(.var 2)]) (.var 1)) (.bi .all [(.comp [3] .seq [(.var 2)] (.nm 3) none (.call i_is_deed [(.var 3)] []))]))]
def f_need_program : FDef where
  pars := 1
  slots := 1
  dfl := []
  star := false
  keep := false
  body := [
    .iff (.lnot (.isi (.var 0) [.cls c_Program])) [.raise x_BadProgram [(.cst (.str "program"))]] []]
def f_written : FDef where
  pars := 2
  slots := 4
  dfl := []
  star := false
  keep := false
  body := [
    .iff (.fld (.var 0) n_is_straight) [.ret (.var 0)] [],
    .ret (.mk c_LongProgram [(.comp [2, 3] .seq [(.fld (.var 0) n_hands)] (.tup [2, 3]) none (.tup [(.tupS [(true, (.var 2)), (true, (.bin .mul (.var 3) (.var 1)))]), (.tup [])])), (.fld (.var 0) n_sites)] [])]
def f_written_out : FDef where
  pars := 2
  slots := 2
  dfl := []
  star := false
  keep := false
  body := [
    .expr (.call i_need_program [(.var 0)] []),
    .iff (.lnot (.call i_is_within [(.var 1), (.cst (.int 1)), (.glo g_MOST_PASSES)] [])) [.raise x_BadNumber [(.cst (.str "passes"))]] [],
    .ret (.call i_written [(.var 0), (.var 1)] [])]
def f_with_sites : FDef where
  pars := 2
  slots := 2
  dfl := []
  star := false
  keep := false
  body := [
    .expr (.call i_need_program [(.var 0)] []),
    .ret (.mk c_Program [(.fld (.var 0) n_hands), (.var 1)] [])]
def f__law_pen : FDef where
  pars := 1
  slots := 1
  dfl := []
  star := false
  keep := true
  body := [
    .ret (.live (.lst [(.bi .list [(.cut (.var 0) none (some (.cst (.int 63))))]), (.cst (.int 0)), (.cst (.int 0))]))]
def f__law_draw : FDef where
  pars := 2
  slots := 7
  dfl := []
  star := false
  keep := false
  body := [
    .iff (.cmp .lt (.var 1) (.cst (.int 2))) [.ret (.cst (.int 0))] [],
    .iff (.cmp .gt (.ix (.var 0) (.cst (.int 2))) (.cst (.int 0))) [.asg (.nm 5) (.bin .mod (.bi .int [(.ix (.var 0) (.cst (.int 2)))]) (.var 1)), .setIx (.var 0) (.cst (.int 2)) (.bin .fdiv (.bi .int [(.ix (.var 0) (.cst (.int 2)))]) (.var 1)), .ret (.var 5)] [],
    .asg (.nm 2) (.ix (.var 0) (.cst (.int 1))),
    .setIx (.var 0) (.cst (.int 1)) (.bin .add (.var 2) (.cst (.int 1))),
    .asg (.nm 3) (.bin .add (.bin .mul (.cst (.int 71079)) (.var 2)) (.cst (.int 9053))),
    .iff (.cmp .ne (.ix (.var 0) (.cst (.int 0))) (.lst [])) [.asg (.nm 3) (.ix (.ix (.var 0) (.cst (.int 0))) (.bin .mod (.bi .int [(.var 2)]) (.bi .len [(.ix (.var 0) (.cst (.int 0)))])))] [],
    .iff (.land (.cmp .lt (.var 2) (.bi .len [(.ix (.var 0) (.cst (.int 0)))])) (.cmp .ge (.bi .abs [(.var 3)]) (.bin .pow (.cst (.int 10)) (.cst (.int 18))))) [.asg (.nm 6) (.bin .add (.bin .mul (.cst (.int 2)) (.bin .sub (.bi .abs [(.var 3)]) (.bin .pow (.cst (.int 10)) (.cst (.int 18))))) (.bi .int [(.cmp .lt (.var 3) (.cst (.int 0)))])), .setIx (.var 0) (.cst (.int 2)) (.bin .fdiv (.bi .int [(.var 6)]) (.var 1)), .ret (.bin .mod (.bi .int [(.var 6)]) (.var 1))] [],
    .asg (.nm 4) (.bin .mod (.bi .int [(.bin .pow (.bin .add (.bin .add (.bin .mod (.bi .int [(.var 3)]) (.cst (.int 2147483549))) (.bin .mul (.cst (.int 33129)) (.var 2))) (.cst (.int 9053))) (.cst (.int 3)))]) (.cst (.int 2147483629))),
    .asg (.nm 4) (.bin .mod (.bi .int [(.bin .pow (.bin .add (.bin .add (.bin .mul (.var 4) (.bin .add (.bin .mul (.cst (.int 2)) (.var 2)) (.cst (.int 6145)))) (.bin .mul (.bin .mul (.cst (.int 71079)) (.var 2)) (.var 2))) (.cst (.int 33129))) (.cst (.int 5)))]) (.cst (.int 2147483563))),
    .ret (.bin .mod (.bi .int [(.bin .fdiv (.var 4) (.cst (.int 16)))]) (.var 1))]
def f__law_pick : FDef where
  pars := 2
  slots := 2
  dfl := []
  star := false
  keep := false
  body := [
    .ret (.ix (.var 1) (.call i__law_draw [(.var 0), (.bi .len [(.var 1)])] []))]
def f__law_heard : FDef where
  pars := 1
  slots := 5
  dfl := []
  star := true
  keep := false
  body := [
    .iff (.cmp .isN (.var 2) (.cst .non)) [.ret (.lst [(.var 1)])] [],
    .iff (.isi (.var 2) [.exc x_TooMany]) [.ret (.tup [(.cst (.str "many")), (.fld (.var 2) n_what), (.fld (.var 2) n_most)])] [],
    .iff (.isi (.var 2) [.exc x_BadPair]) [.ret (.tup [(.cst (.str "pair")), (.bi .repr [(.fld (.var 2) n_pair)])])] [],
    .iff (.isi (.var 2) [.exc x_BadStep]) [.ret (.tup [(.cst (.str "step")), (.bi .repr [(.fld (.var 2) n_step)])])] [],
    .iff (.isi (.var 2) [.exc x_BadText]) [.ret (.tup [(.cst (.str "text")), (.fld (.var 2) n_line), (.fld (.var 2) n_word)])] [],
    .iff (.isi (.var 2) [.exc x_BadWord, .exc x_Nothing]) [.ret (.tup [(.ite (.isi (.var 2) [.exc x_BadWord]) (.cst (.str "word")) (.cst (.str "nothing"))), (.fld (.var 2) n_word)])] [],
    .asg (.nm 4) (.live (.lst [(.isi (.var 2) [.exc x_BadValue]), (.isi (.var 2) [.exc x_BadNumber]), (.isi (.var 2) [.exc x_BadProgram]), (.isi (.var 2) [.exc x_BadRule]), (.isi (.var 2) [.exc x_BadLog]), (.isi (.var 2) [.exc x_Misfit])])),
    .ret (.ite (.cmp .eq (.bm .count (.var 4) [(.cst (.bl true))]) (.cst (.int 1))) (.tup [(.ix (.lst [(.cst (.str "value")), (.cst (.str "number")), (.cst (.str "program")), (.cst (.str "rule")), (.cst (.str "log")), (.cst (.str "misfit"))]) (.bm .index (.var 4) [(.cst (.bl true))])), (.fld (.var 2) n_part)]) (.tup [(.cst (.str "other"))]))]
def f__law_deed : FDef where
  pars := 2
  slots := 2
  dfl := []
  star := false
  keep := false
  body := [
    .ret (.tup [(.call i__law_pick [(.var 0), (.lst [(.cst (.str "read")), (.cst (.str "read")), (.cst (.str "read")), (.cst (.str "write")), (.cst (.str "write")), (.cst (.str "write")), (.cst (.str "turn"))])] []), (.call i__law_pick [(.var 0), (.var 1)] [])])]
def f__law_plain : FDef where
  pars := 4
  slots := 12
  dfl := []
  star := false
  keep := false
  body := [
    .asg (.tup [6, 7]) (.tup [(.bin .add (.cst (.int 1)) (.call i__law_draw [(.var 0), (.var 1)] [])), (.call i__law_pick [(.var 0), (.lst [(.lst [(.cst (.int 0)), (.cst (.int 1))]), (.lst [(.cst (.int 0)), (.cst (.int 1))]), (.lst [(.cst (.int 0)), (.cst (.int 1)), (.cst (.int 2))]), (.lst [(.cst (.int 3)), (.cst (.int 5))]), (.lst [(.cst (.int 0))])])] [])]),
    .par [8, 2] [(.live (.lst [])), (.ite (.land (.cmp .gt (.var 6) (.cst (.int 3))) (.var 3)) (.bi .min [(.var 2), (.cst (.int 2))]) (.var 2))],
    .for_ .rng1 [(.var 6)] (.nm 4) [.asg (.nm 9) (.comp [11] .rng1 [(.bin .add (.cst (.int 1)) (.call i__law_draw [(.var 0), (.var 2)] []))] (.nm 11) none (.call i__law_deed [(.var 0), (.var 7)] [])), .asg (.nm 10) (.ite (.land (.var 3) (.cmp .eq (.call i__law_draw [(.var 0), (.cst (.int 2))] []) (.cst (.int 0)))) (.call i__law_draw [(.var 0), (.bin .add (.bi .len [(.var 9)]) (.cst (.int 1)))] []) (.bi .len [(.var 9)])), .expr (.bm .append (.var 8) [(.tup [(.bi .tuple [(.cut (.var 9) none (some (.var 10)))]), (.bi .tuple [(.cut (.var 9) (some (.var 10)) none)])])])],
    .asg (.nm 5) (.ite (.cmp .gt (.call i__law_draw [(.var 0), (.cst (.int 3))] []) (.cst (.int 0))) (.bi .listRange1 [(.var 6)]) (.comp [4] .rng1 [(.var 6)] (.nm 4) none (.call i__law_pick [(.var 0), (.lst [(.cst (.int 0)), (.cst (.int 0)), (.cst (.int 1)), (.cst (.int 2)), (.cst (.int 5))])] []))),
    .ret (.dct [(.inr "hands", (.var 8)), (.inr "sites", (.var 5))])]
def f_law : FDef where
  pars := 1
  slots := 16
  dfl := []
  star := false
  keep := false
  body := [
    .asg (.nm 1) (.call i__law_pen [(.var 0)] []),
    .asg (.nm 2) (.call i__law_plain [(.var 1), (.cst (.int 3)), (.cst (.int 4)), (.cst (.bl true))] []),
    .asg (.tup [10, 11]) (.tup [(.comp [14, 15] .seq [(.ix (.var 2) (.cst (.str "hands")))] (.tup [14, 15]) none (.tup [(.bi .list [(.var 14)]), (.bi .list [(.var 15)])])), (.bi .len [(.ix (.var 2) (.cst (.str "hands")))])]),
    .asg (.nm 3) (.tup [(.cst (.str "read")), (.cst (.int 0))]),
    .asg (.nm 4) (.lst [(.cst .non), (.cst (.int 5)), (.cst (.str "hands")), (.tup []), (.dct []), (.lst [(.cst .non)]), (.lst [(.tup [])]), (.lst [(.tup [(.lst []), (.lst [])])]), (.lst [(.tup [(.lst [(.var 3)]), (.lst []), (.lst [])])]), (.lst [(.tup [(.lst [(.var 3)])])]), (.lst [(.tup [(.bin .mul (.lst [(.var 3)]) (.cst (.int 12))), (.lst [(.var 3)])])]), (.bin .mul (.lst [(.tup [(.lst [(.var 3)]), (.lst [])])]) (.cst (.int 7))), (.lst [(.tup [(.var 3), (.lst [])])]), (.lst [(.tup [(.lst [(.tup [(.cst (.str "read")), (.cst (.int 6))])]), (.lst [])])])]),
    .asg (.nm 4) (.bin .add (.var 4) (.lst [(.lst [(.tup [(.lst [(.tup [(.cst (.str "look")), (.cst (.int 0))])]), (.lst [])])]), (.lst [(.tup [(.lst [(.tup [(.cst (.str "read")), (.neg (.cst (.int 1)))])]), (.lst [])])]), (.lst [(.tup [(.lst [(.tup [(.cst (.str "read")), (.cst (.bl true))])]), (.lst [])])]), (.lst [(.tup [(.lst [(.tup [(.cst (.str "read"))])]), (.lst [])])]), (.lst [(.tup [(.lst [(.tup [(.cst (.str "read")), (.cst (.int 0)), (.cst (.int 0))])]), (.lst [])])])])),
    .asg (.nm 4) (.bin .add (.var 4) (.lst [(.lst [(.tup [(.lst [(.cst .non)]), (.lst [])])]), (.lst [(.tup [(.lst [(.var 3)]), (.cst .non)])]), (.lst [(.tup [(.cst (.str "read")), (.lst [])])]), (.lst [(.tup [(.lst [(.tup [(.cst (.str "turn")), (.cst (.str "0"))])]), (.lst [])])])])),
    .asg (.nm 5) (.call i__law_pick [(.var 1), (.var 4)] []),
    .iff (.cmp .ne (.lst [(.heard i__law_heard (.mk c_Program [(.var 5)] [])), (.heard i__law_heard (.mk c_Program [(.bin .add (.var 10) (.lst [(.var 5)])), (.bin .mul (.lst [(.cst (.int 0))]) (.cst (.int 9)))] []))]) (.bin .mul (.lst [(.tup [(.cst (.str "program")), (.cst (.str "hands"))])]) (.cst (.int 2)))) [.ret (.cst (.bl false))] [],
    .asg (.nm 6) (.call i__law_pick [(.var 1), (.lst [(.cst (.int 5)), (.cst (.str "0")), (.tup []), (.bin .mul (.lst [(.cst (.int 0))]) (.bin .add (.var 11) (.cst (.int 1)))), (.bin .mul (.lst [(.cst (.int 6))]) (.var 11)), (.bin .mul (.lst [(.neg (.cst (.int 1)))]) (.var 11)), (.bin .mul (.lst [(.cst (.bl true))]) (.var 11)), (.bin .mul (.lst [(.cst .non)]) (.var 11)), (.bin .mul (.lst [(.cst (.str "0"))]) (.var 11)), (.dct [])])] []),
    .asg (.nm 7) (.mk c_Program [(.var 10)] []),
    .iff (.cmp .ne (.lst [(.heard i__law_heard (.mk c_Program [(.var 10), (.var 6)] [])), (.heard i__law_heard (.call i_with_sites [(.var 7), (.var 6)] []))]) (.bin .mul (.lst [(.tup [(.cst (.str "program")), (.cst (.str "sites"))])]) (.cst (.int 2)))) [.ret (.cst (.bl false))] [],
    .asg (.tup [12, 13]) (.tup [(.call i__law_pick [(.var 1), (.lst [(.cst .non), (.cst (.int 5)), (.var 10), (.cst (.str "program"))])] []), (.call i__law_pick [(.var 1), (.lst [(.cst (.int 0)), (.cst (.int 5)), (.neg (.cst (.int 1))), (.cst .non), (.cst (.bl true)), (.cst (.str "1"))])] [])]),
    .asg (.nm 8) (.lst [(.heard i__law_heard (.call i_written_out [(.var 12), (.var 13)] [])), (.heard i__law_heard (.call i_with_sites [(.var 12), (.var 13)] [])), (.heard i__law_heard (.call i_written_out [(.var 7), (.var 13)] []))]),
    .iff (.cmp .ne (.var 8) (.bin .add (.bin .mul (.lst [(.tup [(.cst (.str "program")), (.cst (.str "program"))])]) (.cst (.int 2))) (.lst [(.tup [(.cst (.str "number")), (.cst (.str "passes"))])]))) [.ret (.cst (.bl false))] [],
    .asg (.nm 9) (.mk c_Program [(.bin .mul (.lst [(.tup [(.bin .mul (.lst [(.call i__law_deed [(.var 1), (.lst [(.cst (.int 0)), (.cst (.int 5))])] [])]) (.cst (.int 6))), (.bin .mul (.lst [(.call i__law_deed [(.var 1), (.lst [(.cst (.int 5))])] [])]) (.cst (.int 6)))])]) (.cst (.int 6))), (.bin .mul (.lst [(.cst (.int 5))]) (.cst (.int 6)))] []),
    .ret (.land (.cmp .eq (.fld (.var 9) n_lengths) (.bin .mul (.tup [(.cst (.int 12))]) (.cst (.int 6)))) (.land (.cmp .eq (.fld (.call i_written_out [(.var 9), (.cst (.int 4))] []) n_lengths) (.bin .mul (.tup [(.cst (.int 30))]) (.cst (.int 6)))) (.cmp .eq (.fld (.mk c_Program [(.lst [(.tup [(.lst []), (.lst [(.var 3)])])])] []) n_heads) (.tup [(.cst (.int 0))]))))]
def f_Program___init__ : FDef where
  pars := 3
  slots := 3
  dfl := [.non]
  star := false
  keep := false
  body := [
    .expr (.meth (.var 0) n_take [(.var 1), (.var 2), (.glo g_MOST_DEEDS)] [])]
def f_Program_take : FDef where
  pars := 5
  slots := 11
  dfl := [(.int 6)]
  star := false
  keep := false
  body := [
    .iff (.lor (.lnot (.call i_is_row [(.var 1), (.cst (.int 1)), (.var 4)] [])) (.lnot (.bi .all [(.comp [9] .seq [(.var 1)] (.nm 9) none (.call i_is_hand [(.var 9), (.var 3)] []))]))) [.raise x_BadProgram [(.cst (.str "hands"))]] [],
    .iff (.land (.cmp .notN (.var 2) (.cst .non)) (.lnot (.call i_is_row [(.var 2), (.bi .len [(.var 1)]), (.bi .len [(.var 1)])] []))) [.raise x_BadProgram [(.cst (.str "sites"))]] [],
    .iff (.land (.cmp .notN (.var 2) (.cst .non)) (.lnot (.bi .all [(.comp [10] .seq [(.var 2)] (.nm 10) none (.call i_is_within [(.var 10), (.cst (.int 0)), (.glo g_MOST_SITE)] []))]))) [.raise x_BadProgram [(.cst (.str "sites"))]] [],
    .setF (.var 0) n_hands (.call i_fixed [(.var 1)] []),
    .setF (.var 0) n_sites (.ite (.cmp .isN (.var 2) (.cst .non)) (.bi .tupleRange1 [(.bi .len [(.var 1)])]) (.bi .tuple [(.var 2)])),
    .setF (.var 0) n_many (.bi .len [(.fld (.var 0) n_hands)]),
    .setF (.var 0) n_heads (.bi .tuple [(.comp [7, 8] .seq [(.fld (.var 0) n_hands)] (.tup [7, 8]) none (.bi .len [(.var 7)]))]),
    .setF (.var 0) n_texts (.bi .tuple [(.comp [7, 8] .seq [(.fld (.var 0) n_hands)] (.tup [7, 8]) none (.tupS [(true, (.var 7)), (true, (.var 8))]))]),
    .setF (.var 0) n_lengths (.bi .tuple [(.comp [5] .seq [(.fld (.var 0) n_texts)] (.nm 5) none (.bi .len [(.var 5)]))]),
    .setF (.var 0) n_places (.bi .tuple [(.comp2 [9, 4, 6] [6] .enum [(.fld (.var 0) n_lengths)] (.tup [9, 4]) none .rng1 [(.var 4)] (.nm 6) none (.tup [(.var 9), (.var 6)]))]),
    .setF (.var 0) n_is_straight (.bi .all [(.comp [7, 8] .seq [(.fld (.var 0) n_hands)] (.tup [7, 8]) none (.cmp .eq (.var 8) (.tup [])))])]
def f_Program___eq__ : FDef where
  pars := 2
  slots := 2
  dfl := []
  star := false
  keep := false
  body := [
    .ret (.land (.isi (.var 1) [.cls c_Program]) (.land (.cmp .eq (.fld (.var 0) n_hands) (.fld (.var 1) n_hands)) (.cmp .eq (.fld (.var 0) n_sites) (.fld (.var 1) n_sites))))]
def f_Program_deed : FDef where
  pars := 2
  slots := 2
  dfl := []
  star := false
  keep := false
  body := [
    .ret (.ix (.ix (.fld (.var 0) n_texts) (.ix (.var 1) (.cst (.int 0)))) (.ix (.var 1) (.cst (.int 1))))]
def f_Program_cell : FDef where
  pars := 2
  slots := 2
  dfl := []
  star := false
  keep := false
  body := [
    .ret (.ix (.ix (.ix (.fld (.var 0) n_texts) (.ix (.var 1) (.cst (.int 0)))) (.ix (.var 1) (.cst (.int 1)))) (.cst (.int 1)))]
def f_Program_is_reader : FDef where
  pars := 2
  slots := 2
  dfl := []
  star := false
  keep := false
  body := [
    .expr (.call i__wall [(.cst (.int 0))] [])]
def f_Program_is_maker : FDef where
  pars := 2
  slots := 2
  dfl := []
  star := false
  keep := false
  body := [
    .expr (.call i__wall [(.cst (.int 1))] [])]
def f_Program_is_in_round : FDef where
  pars := 3
  slots := 3
  dfl := []
  star := false
  keep := false
  body := [
    .expr (.call i__wall [(.cst (.int 2))] [])]
def f_Program_all_sites : FDef where
  pars := 1
  slots := 1
  dfl := []
  star := false
  keep := false
  body := [
    .expr (.call i__wall [(.cst (.int 3))] [])]
def f_LongProgram___init__ : FDef where
  pars := 3
  slots := 3
  dfl := []
  star := false
  keep := false
  body := [
    .expr (.meth (.var 0) n_take [(.var 1), (.var 2), (.bin .mul (.glo g_MOST_DEEDS) (.glo g_MOST_PASSES))] [])]
def prog : Pg where
  fns := [f__wall, f_is_integer, f_is_within, f_is_listed, f_is_row, f_fixed, f_is_deed, f_is_hand, f_need_program, f_written, f_written_out, f_with_sites, f__law_pen, f__law_draw, f__law_pick, f__law_heard, f__law_deed, f__law_plain, f_law, f_Program___init__, f_Program_take, f_Program___eq__, f_Program_deed, f_Program_cell, f_Program_is_reader, f_Program_is_maker, f_Program_is_in_round, f_Program_all_sites, f_LongProgram___init__]
  cls := [⟨some i_Program___init__, some i_Program___eq__, [(n_take, i_Program_take), (n_deed, i_Program_deed), (n_cell, i_Program_cell), (n_is_reader, i_Program_is_reader), (n_is_maker, i_Program_is_maker), (n_is_in_round, i_Program_is_in_round), (n_all_sites, i_Program_all_sites)], [c_Program], [n_is_straight, n_hands, n_sites, n_heads, n_lengths, n_many, n_texts, n_places]⟩,
    ⟨some i_LongProgram___init__, some i_Program___eq__, [(n_take, i_Program_take), (n_deed, i_Program_deed), (n_cell, i_Program_cell), (n_is_reader, i_Program_is_reader), (n_is_maker, i_Program_is_maker), (n_is_in_round, i_Program_is_in_round), (n_all_sites, i_Program_all_sites)], [c_LongProgram, c_Program], [n_is_straight, n_hands, n_sites, n_heads, n_lengths, n_many, n_texts, n_places]⟩]
  exc := [⟨[], [x_WaitError]⟩,
    ⟨[n_part], [x_BadValue, x_WaitError]⟩,
    ⟨[n_part], [x_BadNumber, x_WaitError]⟩,
    ⟨[n_part], [x_BadProgram, x_WaitError]⟩,
    ⟨[n_part], [x_BadRule, x_WaitError]⟩,
    ⟨[n_part], [x_BadLog, x_WaitError]⟩,
    ⟨[n_pair], [x_BadPair, x_WaitError]⟩,
    ⟨[n_step], [x_BadStep, x_WaitError]⟩,
    ⟨[n_word], [x_BadWord, x_WaitError]⟩,
    ⟨[n_line, n_word], [x_BadText, x_WaitError]⟩,
    ⟨[n_part], [x_Misfit, x_WaitError]⟩,
    ⟨[n_word], [x_Nothing, x_WaitError]⟩,
    ⟨[n_what, n_most], [x_TooMany, x_WaitError]⟩]
  cons := [(.str "read"), (.str "write"), (.str "turn"), (.int 6), (.int 12), (.int 5), (.int 5), (.int 4)]
theorem gl_READ : prog.cons[g_READ]? = some (.str "read") := nr rfl
theorem gl_WRITE : prog.cons[g_WRITE]? = some (.str "write") := nr rfl
theorem gl_TURN : prog.cons[g_TURN]? = some (.str "turn") := nr rfl
theorem gl_MOST_HANDS : prog.cons[g_MOST_HANDS]? = some (.int 6) := nr rfl
theorem gl_MOST_DEEDS : prog.cons[g_MOST_DEEDS]? = some (.int 12) := nr rfl
theorem gl_MOST_CELL : prog.cons[g_MOST_CELL]? = some (.int 5) := nr rfl
theorem gl_MOST_SITE : prog.cons[g_MOST_SITE]? = some (.int 5) := nr rfl
theorem gl_MOST_PASSES : prog.cons[g_MOST_PASSES]? = some (.int 4) := nr rfl
section
variable {cl : Cl} {S : Store} {v0 v1 v2 v3 v4 v5 v6 v7 : Vl}
theorem q__law_deed_2 : callR prog cl i__law_deed [v0, v1] [] S = cl i__law_deed none [v0, v1] S := callR_of (fd := f__law_deed) rfl rfl
theorem q__law_draw_2 : callR prog cl i__law_draw [v0, v1] [] S = cl i__law_draw none [v0, v1] S := callR_of (fd := f__law_draw) rfl rfl
theorem q__law_pen_1 : callR prog cl i__law_pen [v0] [] S = cl i__law_pen none [v0] S := callR_of (fd := f__law_pen) rfl rfl
theorem q__law_pick_2 : callR prog cl i__law_pick [v0, v1] [] S = cl i__law_pick none [v0, v1] S := callR_of (fd := f__law_pick) rfl rfl
theorem q__law_plain_4 : callR prog cl i__law_plain [v0, v1, v2, v3] [] S = cl i__law_plain none [v0, v1, v2, v3] S := callR_of (fd := f__law_plain) rfl rfl
theorem q__wall_1 : callR prog cl i__wall [v0] [] S = cl i__wall none [v0] S := callR_of (fd := f__wall) rfl rfl
theorem q_fixed_1 : callR prog cl i_fixed [v0] [] S = cl i_fixed none [v0] S := callR_of (fd := f_fixed) rfl rfl
theorem q_is_deed_1 : callR prog cl i_is_deed [v0] [] S = cl i_is_deed none [v0] S := callR_of (fd := f_is_deed) rfl rfl
theorem q_is_hand_2 : callR prog cl i_is_hand [v0, v1] [] S = cl i_is_hand none [v0, v1] S := callR_of (fd := f_is_hand) rfl rfl
theorem q_is_integer_1 : callR prog cl i_is_integer [v0] [] S = cl i_is_integer none [v0] S := callR_of (fd := f_is_integer) rfl rfl
theorem q_is_listed_1 : callR prog cl i_is_listed [v0] [] S = cl i_is_listed none [v0] S := callR_of (fd := f_is_listed) rfl rfl
theorem q_is_row_3 : callR prog cl i_is_row [v0, v1, v2] [] S = cl i_is_row none [v0, v1, v2] S := callR_of (fd := f_is_row) rfl rfl
theorem q_is_within_3 : callR prog cl i_is_within [v0, v1, v2] [] S = cl i_is_within none [v0, v1, v2] S := callR_of (fd := f_is_within) rfl rfl
theorem q_need_program_1 : callR prog cl i_need_program [v0] [] S = cl i_need_program none [v0] S := callR_of (fd := f_need_program) rfl rfl
theorem q_with_sites_2 : callR prog cl i_with_sites [v0, v1] [] S = cl i_with_sites none [v0, v1] S := callR_of (fd := f_with_sites) rfl rfl
theorem q_written_2 : callR prog cl i_written [v0, v1] [] S = cl i_written none [v0, v1] S := callR_of (fd := f_written) rfl rfl
theorem q_written_out_2 : callR prog cl i_written_out [v0, v1] [] S = cl i_written_out none [v0, v1] S := callR_of (fd := f_written_out) rfl rfl
theorem q_Program_take_4 : callR prog cl i_Program_take [v0, v1, v2, v3] [] S = cl i_Program_take none [v0, v1, v2, v3, (.d (.int 6))] S := callR_of (fd := f_Program_take) rfl rfl
theorem m_LongProgram_2 : mkR prog cl c_LongProgram [v1, v2] [] S = mkM prog cl c_LongProgram [(.ref S.length), v1, v2] S := mkR_of (f := i_LongProgram___init__) (fd := f_LongProgram___init__) rfl rfl rfl
theorem m_Program_1 : mkR prog cl c_Program [v1] [] S = mkM prog cl c_Program [(.ref S.length), v1, (.d .non)] S := mkR_of (f := i_Program___init__) (fd := f_Program___init__) rfl rfl rfl
theorem m_Program_2 : mkR prog cl c_Program [v1, v2] [] S = mkM prog cl c_Program [(.ref S.length), v1, v2] S := mkR_of (f := i_Program___init__) (fd := f_Program___init__) rfl rfl rfl
end
end K02

namespace K02
open Wk
open PySem hiding Env
local macro_rules | `(tactic| simp_arith only [$as,*]) => `(tactic| simp (disch := first | assumption | rfl | omega | exact of_decide_eq_true rfl | decide) only [r_var, r_cst, r_glo, r_live, r_bin, r_neg, r_cmp, r_chn, r_land, r_lor, r_lnot, r_ite, r_tup, r_lst, r_tupS, r_lstS, r_dct, r_ix, r_cut, r_fld, r_isi, r_call, r_mk, r_meth, r_bi, r_bm, r_comp, r_comp2, r_ask, r_lnil, r_lcons, r_snil, r_sT, r_sF, r_knil, r_kcons, r_ksnil, r_kscons, r_onone, r_osome, r_cnone, r_csome,
  k_live, k_bin, k_bin2, k_neg, k_cmp, k_cmp2, k_bl, k_nbl, k_chn, k_chn2, k_chn3, ↓chn_t, ↓chn_f, chn_s, k_and, k_or, ↓iteA_t, ↓iteA_f, iteA_s, ↓iteO_t, ↓iteO_f, iteO_s, ↓andR_t, ↓andR_f, andR_b, ↓orR_t, ↓orR_f, orR_b, k_ite, ↓iteE_t, ↓iteE_f, ↓iteS_t, ↓iteS_f, k_tup, k_tup2, k_lst, k_lst2, k_tupS, k_lstS, k_dct, k_ix, k_ix2, k_cut, k_cut2, k_cut3, k_fld, k_isi, k_call, k_call2, k_mk, k_mk2, k_meth, meth_some, k_meth1, k_bi, k_bm, k_bm2, k_cons, k_cons2, k_sx, sx_l, sx_t, k_app, k_sc, k_sc2, k_kc, k_kc2, k_ks, k_o, k_it, k_it2, k_comp, k_comp2,
  varR_ok, gloR_ok, oIntR_i, vw_d', vw_insE, vw_lstE, frzL_nil, frzL_d, frz_d, tst_b, tst_i, tst_exc, liveR_l, add_i, sub_i, mul_i, mod_i, fdiv_i, add_t, add_l, in_s2, in_s3, eq_i, ne_i, eq_b, ne_b, negR_i, lt_i, le_i, gt_i, ge_i, isN_n, notN_n, isT_b, notT_b, len_l, len_t, list_l, list_t, tuple_l, tuple_t, int_i, int_b, abs_i, it_rng, it_l, it_t, it_enl, it_ent, it_zl, it_zt, ofO_some, bind_exc, st_exc, isiR_k, isiK_ok, cut_l, cut_t, ofOd_ok, ix_k, ix_dct, ix_dcti, ix_l, ix_t, lookK_hit, lookK_miss, atI_0, atI_1, atI_2, fldR_lk, fldR_lkE, setFR_E, lkR_ok, lkF_hit, lkF_miss, putF_nil, putF_hit, putF_miss, nonD_n, nonD_b, nonD_i, nonD_s, nonD_t, nonD_l, nonD_d, nonD_o, truD_n, truD_b, truD_i, truD_s, truD_t, truD_l, truD_d, truD_o,
  x_nil, x_cons, x_seq, x_seqr, x_seqe, x_seqb, x_seqc, x_expr, x_asg, x_par, x_setIx, x_setF, x_if, x_for, x_ret, x_retN, x_raise, x_try, x_brk, x_cnt, x_pass, s_drop, s_asg, asgR_nm, s_par, s_si, s_si2, s_si3, s_si4, s_sf, s_sf2, s_sf3, s_if, s_ret, s_raise, s_raise2, s_for, try_ret, try_nx, end_nx, end_ret, end_exc, end_refE, take_upd, take_upd2, take_end, List.take_length, setAll, asgR_tup, ptE_nm, ptE_2, ptE_3, ptC_nm, ptC_2, ptC_3, Wk.wipe, r_compM, r_compN, ↓compM_map, ↓compN_map, r_comp2M, ↓comp2M_map, comp2M_ok, compM_add, compN_add, addR_map, addR_fil, k_in, ptI_nm, ptI_2, inX_nm, inX_2, all_l, any_l, rngD_map, enumD_mapf, nox_ok,
  List.getElem?_cons_zero, List.getElem?_cons_succ, List.map_cons, List.map_nil, List.replicate_succ, List.replicate_zero, List.cons_append, List.nil_append, List.set_cons_zero, List.set_cons_succ, List.zip_cons_cons, List.zip_nil_left, List.zip_nil_right, List.foldl_cons, List.foldl_nil, Option.map_some, Option.map_none, Option.bind_some, Nat.reduceSub, Nat.reduceAdd, decide_true, decide_false, Bool.not_true, Bool.not_false, Bool.and_true, Bool.true_and, Bool.and_false, Bool.false_and, Bool.or_true, Bool.true_or, Bool.or_false, Bool.false_or, reduceCtorEq, q__law_deed_2, q__law_draw_2, q__law_pen_1, q__law_pick_2, q__law_plain_4, q__wall_1, q_fixed_1, q_is_deed_1, q_is_hand_2, q_is_integer_1, q_is_listed_1, q_is_row_3, q_is_within_3, q_need_program_1, q_with_sites_2, q_written_2, q_written_out_2, q_Program_take_4, m_LongProgram_2, m_Program_1, m_Program_2, gl_READ, gl_WRITE, gl_TURN, gl_MOST_HANDS, gl_MOST_DEEDS, gl_MOST_CELL, gl_MOST_SITE, gl_MOST_PASSES, $as,*])
variable {n : Nat} {S : Store}
/-- a value that tests may look at -/
def okv : D → Bool
  | .scr _ => false
  | .exn _ _ => false
  | .ins c _ => (prog.cls[c]?).isSome
  | _ => true
def isI : D → Bool
  | .int _ => true
  | _ => false
def isS : D → Bool
  | .str _ => true
  | _ => false
def isL : D → Bool
  | .lst _ => true
  | .tup _ => true
  | _ => false
def inI (x : D) (a b : Int) : Bool := match x with
  | .int i => decide (a ≤ i) && decide (i ≤ b)
  | _ => false
def elems : D → List D
  | .lst xs => xs
  | .tup xs => xs
  | _ => []
theorem el_l {xs : List D} : elems (.lst xs) = xs := nr rfl
theorem el_t {xs : List D} : elems (.tup xs) = xs := nr rfl
def isRw (x : D) (a b : Int) : Bool := isL x && (decide (a ≤ (elems x).length) && decide (((elems x).length : Int) ≤ b))
theorem isi_k {x : D} {ts : List TyR} {b : Bool} (h : isiA prog x ts = some b) : isiR prog ts (.d x) S = .ok (.d (.bl b)) S := isiR_d h
theorem isi_int {x : D} (h : okv x = true) : isiA prog x [.ty .int] = some (isI x || (match x with
  | .bl _ => true
  | _ => false)) := by
  cases x with
  | ins c fs =>
    have h : (prog.cls[c]?).isSome = true := h
    obtain ⟨k, hk⟩ := Option.isSome_iff_exists.mp h
    simp [isiA, isi1, hk, isI]
  | exn _ _ => cases h
  | scr _ => cases h
  | _ => rfl
theorem isi_bl {x : D} (h : okv x = true) : isiA prog x [.ty .bl] = some (match x with
  | .bl _ => true
  | _ => false) := by
  cases x with
  | ins c fs =>
    have h : (prog.cls[c]?).isSome = true := h
    obtain ⟨k, hk⟩ := Option.isSome_iff_exists.mp h
    simp [isiA, isi1, hk]
  | exn _ _ => cases h
  | scr _ => cases h
  | _ => rfl
theorem isi_str {x : D} (h : okv x = true) : isiA prog x [.ty .str] = some (isS x) := by
  cases x with
  | ins c fs =>
    have h : (prog.cls[c]?).isSome = true := h
    obtain ⟨k, hk⟩ := Option.isSome_iff_exists.mp h
    simp [isiA, isi1, hk, isS]
  | exn _ _ => cases h
  | scr _ => cases h
  | _ => rfl
theorem isi_lt {x : D} (h : okv x = true) : isiA prog x [.ty .lst, .ty .tup] = some (isL x) := by
  cases x with
  | ins c fs =>
    have h : (prog.cls[c]?).isSome = true := h
    obtain ⟨k, hk⟩ := Option.isSome_iff_exists.mp h
    simp [isiA, isi1, hk, isL]
  | exn _ _ => cases h
  | scr _ => cases h
  | _ => rfl
theorem c_is_integer {x : D} (h : okv x = true) : callN prog (n + 1) i_is_integer none [.d x] S = .ok (.d (.bl (isI x))) S := by
  rw [call_e (fd := f_is_integer) rfl rfl]
  simp_arith only [f_is_integer, isi_int h, isi_bl h]
  cases x <;> rfl
theorem c_is_within {x : D} {a b : Int} (h : okv x = true) : callN prog (n + 2) i_is_within none [.d x, .d (.int a), .d (.int b)] S = .ok (.d (.bl (inI x a b))) S := by
  rw [call_e (fd := f_is_within) rfl rfl]
  simp_arith only [f_is_within, c_is_integer h]
  cases x with
  | int i => simp_arith only [isI, inI]
  | _ => simp_arith only [isI, inI]
theorem c_is_listed {x : D} (h : okv x = true) : callN prog (n + 1) i_is_listed none [.d x] S = .ok (.d (.bl (isL x))) S := by
  rw [call_e (fd := f_is_listed) rfl rfl]
  simp_arith only [f_is_listed, isi_lt h]
theorem c_is_row {x : D} {a b : Int} (h : okv x = true) : callN prog (n + 2) i_is_row none [.d x, .d (.int a), .d (.int b)] S = .ok (.d (.bl (isRw x a b))) S := by
  rw [call_e (fd := f_is_row) rfl rfl]
  simp_arith only [f_is_row, c_is_listed h]
  cases x with
  | lst xs =>
    simp_arith only [isL, isRw, elems]
    rfl
  | tup xs =>
    simp_arith only [isL, isRw, elems]
    rfl
  | _ => simp_arith only [isL, isRw, elems]
end K02
--ev: el_l, el_t, isi_int, isi_bl, isi_str, isi_lt, c_is_integer, c_is_within, c_is_listed, c_is_row

--use: L1
namespace K02
open Wk
open PySem hiding Env
local macro_rules | `(tactic| simp_arith only [$as,*]) => `(tactic| simp (disch := first | assumption | rfl | omega | exact of_decide_eq_true rfl | decide) only [r_var, r_cst, r_glo, r_live, r_bin, r_neg, r_cmp, r_chn, r_land, r_lor, r_lnot, r_ite, r_tup, r_lst, r_tupS, r_lstS, r_dct, r_ix, r_cut, r_fld, r_isi, r_call, r_mk, r_meth, r_bi, r_bm, r_comp, r_comp2, r_ask, r_lnil, r_lcons, r_snil, r_sT, r_sF, r_knil, r_kcons, r_ksnil, r_kscons, r_onone, r_osome, r_cnone, r_csome,
  k_live, k_bin, k_bin2, k_neg, k_cmp, k_cmp2, k_bl, k_nbl, k_chn, k_chn2, k_chn3, ↓chn_t, ↓chn_f, chn_s, k_and, k_or, ↓iteA_t, ↓iteA_f, iteA_s, ↓iteO_t, ↓iteO_f, iteO_s, ↓andR_t, ↓andR_f, andR_b, ↓orR_t, ↓orR_f, orR_b, k_ite, ↓iteE_t, ↓iteE_f, ↓iteS_t, ↓iteS_f, k_tup, k_tup2, k_lst, k_lst2, k_tupS, k_lstS, k_dct, k_ix, k_ix2, k_cut, k_cut2, k_cut3, k_fld, k_isi, k_call, k_call2, k_mk, k_mk2, k_meth, meth_some, k_meth1, k_bi, k_bm, k_bm2, k_cons, k_cons2, k_sx, sx_l, sx_t, k_app, k_sc, k_sc2, k_kc, k_kc2, k_ks, k_o, k_it, k_it2, k_comp, k_comp2,
  varR_ok, gloR_ok, oIntR_i, vw_d', vw_insE, vw_lstE, frzL_nil, frzL_d, frz_d, tst_b, tst_i, tst_exc, liveR_l, add_i, sub_i, mul_i, mod_i, fdiv_i, add_t, add_l, in_s2, in_s3, eq_i, ne_i, eq_b, ne_b, negR_i, lt_i, le_i, gt_i, ge_i, isN_n, notN_n, isT_b, notT_b, len_l, len_t, list_l, list_t, tuple_l, tuple_t, int_i, int_b, abs_i, it_rng, it_l, it_t, it_enl, it_ent, it_zl, it_zt, ofO_some, bind_exc, st_exc, isiR_k, isiK_ok, cut_l, cut_t, ofOd_ok, ix_k, ix_dct, ix_dcti, ix_l, ix_t, lookK_hit, lookK_miss, atI_0, atI_1, atI_2, fldR_lk, fldR_lkE, setFR_E, lkR_ok, lkF_hit, lkF_miss, putF_nil, putF_hit, putF_miss, nonD_n, nonD_b, nonD_i, nonD_s, nonD_t, nonD_l, nonD_d, nonD_o, truD_n, truD_b, truD_i, truD_s, truD_t, truD_l, truD_d, truD_o,
  x_nil, x_cons, x_seq, x_seqr, x_seqe, x_seqb, x_seqc, x_expr, x_asg, x_par, x_setIx, x_setF, x_if, x_for, x_ret, x_retN, x_raise, x_try, x_brk, x_cnt, x_pass, s_drop, s_asg, asgR_nm, s_par, s_si, s_si2, s_si3, s_si4, s_sf, s_sf2, s_sf3, s_if, s_ret, s_raise, s_raise2, s_for, try_ret, try_nx, end_nx, end_ret, end_exc, end_refE, take_upd, take_upd2, take_end, List.take_length, setAll, asgR_tup, ptE_nm, ptE_2, ptE_3, ptC_nm, ptC_2, ptC_3, Wk.wipe, r_compM, r_compN, ↓compM_map, ↓compN_map, r_comp2M, ↓comp2M_map, comp2M_ok, compM_add, compN_add, addR_map, addR_fil, k_in, ptI_nm, ptI_2, inX_nm, inX_2, all_l, any_l, rngD_map, enumD_mapf, nox_ok,
  List.getElem?_cons_zero, List.getElem?_cons_succ, List.map_cons, List.map_nil, List.replicate_succ, List.replicate_zero, List.cons_append, List.nil_append, List.set_cons_zero, List.set_cons_succ, List.zip_cons_cons, List.zip_nil_left, List.zip_nil_right, List.foldl_cons, List.foldl_nil, Option.map_some, Option.map_none, Option.bind_some, Nat.reduceSub, Nat.reduceAdd, decide_true, decide_false, Bool.not_true, Bool.not_false, Bool.and_true, Bool.true_and, Bool.and_false, Bool.false_and, Bool.or_true, Bool.true_or, Bool.or_false, Bool.false_or, reduceCtorEq, q__law_deed_2, q__law_draw_2, q__law_pen_1, q__law_pick_2, q__law_plain_4, q__wall_1, q_fixed_1, q_is_deed_1, q_is_hand_2, q_is_integer_1, q_is_listed_1, q_is_row_3, q_is_within_3, q_need_program_1, q_with_sites_2, q_written_2, q_written_out_2, q_Program_take_4, m_LongProgram_2, m_Program_1, m_Program_2, el_l, el_t, isi_int, isi_bl, isi_str, isi_lt, c_is_integer, c_is_within, c_is_listed, c_is_row, gl_READ, gl_WRITE, gl_TURN, gl_MOST_HANDS, gl_MOST_DEEDS, gl_MOST_CELL, gl_MOST_SITE, gl_MOST_PASSES, $as,*])
variable {n : Nat} {S : Store}
mutual
/-- short, all the way in -/
def okr : D → Bool
  | .lst xs => decide (xs.length ≤ 100000) && okrL xs
  | .tup xs => decide (xs.length ≤ 100000) && okrL xs
  | .scr _ => false
  | .exn _ _ => false
  | .ins c _ => (prog.cls[c]?).isSome
  | _ => true
def okrL : List D → Bool
  | [] => true
  | x :: xs => okr x && okrL xs
end
theorem okrL_all : ∀ {xs : List D}, okrL xs = true → ∀ x ∈ xs, okr x = true
  | y :: ys, h, x, hx => by
    simp only [okrL, Bool.and_eq_true] at h
    cases hx with
    | head => exact h.1
    | tail _ hx => exact okrL_all h.2 x hx
theorem okrL_of : ∀ {xs : List D}, (∀ x ∈ xs, okr x = true) → okrL xs = true
  | [], _ => rfl
  | y :: ys, h => by
    simp only [okrL, Bool.and_eq_true]
    exact ⟨h y List.mem_cons_self, okrL_of fun x hx => h x (List.mem_cons_of_mem _ hx)⟩
theorem okr_lst {xs : List D} (h : okr (.lst xs) = true) : xs.length ≤ 100000 ∧ ∀ x ∈ xs, okr x = true := by
  simp only [okr, Bool.and_eq_true, decide_eq_true_eq] at h
  exact ⟨h.1, okrL_all h.2⟩
theorem okr_tup {xs : List D} (h : okr (.tup xs) = true) : xs.length ≤ 100000 ∧ ∀ x ∈ xs, okr x = true := by
  simp only [okr, Bool.and_eq_true, decide_eq_true_eq] at h
  exact ⟨h.1, okrL_all h.2⟩
theorem okr_lst' {xs : List D} (h1 : xs.length ≤ 100000) (h : ∀ x ∈ xs, okr x = true) : okr (.lst xs) = true := by
  simp only [okr, Bool.and_eq_true, decide_eq_true_eq]
  exact ⟨h1, okrL_of h⟩
theorem okr_tup' {xs : List D} (h1 : xs.length ≤ 100000) (h : ∀ x ∈ xs, okr x = true) : okr (.tup xs) = true := by
  simp only [okr, Bool.and_eq_true, decide_eq_true_eq]
  exact ⟨h1, okrL_of h⟩
theorem okr_v {x : D} (h : okr x = true) : okv x = true := by
  cases x with
  | ins c fs => simpa [okr, okv] using h
  | exn _ _ => simp [okr] at h
  | scr _ => simp [okr] at h
  | _ => rfl
theorem okr_elems {x : D} (h : okr x = true) : (elems x).length ≤ 100000 ∧ ∀ y ∈ elems x, okr y = true := by
  cases x with
  | lst xs => exact okr_lst h
  | tup xs => exact okr_tup h
  | _ => exact ⟨Nat.zero_le _, fun y hy => nomatch hy⟩
mutual
def fixD : D → D
  | .lst xs => .tup (fixL xs)
  | .tup xs => .tup (fixL xs)
  | x => x
def fixL : List D → List D
  | [] => []
  | x :: xs => fixD x :: fixL xs
end
theorem fixL_map : ∀ {xs : List D}, fixL xs = xs.map fixD
  | [] => rfl
  | x :: xs => by
    simp only [fixL, List.map_cons]
    rw [fixL_map]
theorem depL_all : ∀ {xs : List D}, ∀ x ∈ xs, dep x ≤ depL xs
  | y :: ys, x, hx => by
    simp only [depL]
    cases hx with
    | head => omega
    | tail _ hx =>
      have := depL_all x hx
      omega
theorem small_ok {m : Nat} (h : m ≤ 100000) : m ≤ sizeLine := Nat.le_trans h (by decide)
theorem c_fixed : ∀ (k : Nat) {n : Nat} {S : Store} {x : D}, okr x = true → dep x ≤ k → callN prog (n + k + 1) i_fixed none [.d x] S = .ok (.d (fixD x)) S := by
  intro k
  induction k with
  | zero =>
    intro n S x h hd
    have hv := okr_v h
    rw [call_e (fd := f_fixed) rfl rfl]
    cases x with
    | lst xs => simp [dep] at hd
    | tup xs => simp [dep] at hd
    | _ => simp_arith only [f_fixed, isL, fixD]
  | succ k ih =>
    intro n S x h hd
    have hv := okr_v h
    rw [call_e (fd := f_fixed) rfl rfl]
    cases x with
    | lst xs =>
      obtain ⟨h1, h2⟩ := okr_lst h
      simp only [dep] at hd
      have e : ∀ x ∈ xs, ∀ S, callN prog (n + (k + 1)) i_fixed none [.d x] S = .ok (.d (fixD x)) S := fun x hx S => by
        have := depL_all x hx
        exact ih (n := n) (h2 x hx) (by omega)
      have hz := small_ok h1
      simp_arith only [f_fixed, isL, fixD, e, fixL_map]
    | tup xs =>
      obtain ⟨h1, h2⟩ := okr_tup h
      simp only [dep] at hd
      have e : ∀ x ∈ xs, ∀ S, callN prog (n + (k + 1)) i_fixed none [.d x] S = .ok (.d (fixD x)) S := fun x hx S => by
        have := depL_all x hx
        exact ih (n := n) (h2 x hx) (by omega)
      have hz := small_ok h1
      simp_arith only [f_fixed, isL, fixD, e, fixL_map]
    | _ => simp_arith only [f_fixed, isL, fixD]
end K02

--use: L1, L2
namespace K02
open Wk
open PySem hiding Env
local macro_rules | `(tactic| simp_arith only [$as,*]) => `(tactic| simp (disch := first | assumption | rfl | omega | exact of_decide_eq_true rfl | decide) only [r_var, r_cst, r_glo, r_live, r_bin, r_neg, r_cmp, r_chn, r_land, r_lor, r_lnot, r_ite, r_tup, r_lst, r_tupS, r_lstS, r_dct, r_ix, r_cut, r_fld, r_isi, r_call, r_mk, r_meth, r_bi, r_bm, r_comp, r_comp2, r_ask, r_lnil, r_lcons, r_snil, r_sT, r_sF, r_knil, r_kcons, r_ksnil, r_kscons, r_onone, r_osome, r_cnone, r_csome,
  k_live, k_bin, k_bin2, k_neg, k_cmp, k_cmp2, k_bl, k_nbl, k_chn, k_chn2, k_chn3, ↓chn_t, ↓chn_f, chn_s, k_and, k_or, ↓iteA_t, ↓iteA_f, iteA_s, ↓iteO_t, ↓iteO_f, iteO_s, ↓andR_t, ↓andR_f, andR_b, ↓orR_t, ↓orR_f, orR_b, k_ite, ↓iteE_t, ↓iteE_f, ↓iteS_t, ↓iteS_f, k_tup, k_tup2, k_lst, k_lst2, k_tupS, k_lstS, k_dct, k_ix, k_ix2, k_cut, k_cut2, k_cut3, k_fld, k_isi, k_call, k_call2, k_mk, k_mk2, k_meth, meth_some, k_meth1, k_bi, k_bm, k_bm2, k_cons, k_cons2, k_sx, sx_l, sx_t, k_app, k_sc, k_sc2, k_kc, k_kc2, k_ks, k_o, k_it, k_it2, k_comp, k_comp2,
  varR_ok, gloR_ok, oIntR_i, vw_d', vw_insE, vw_lstE, frzL_nil, frzL_d, frz_d, tst_b, tst_i, tst_exc, liveR_l, add_i, sub_i, mul_i, mod_i, fdiv_i, add_t, add_l, in_s2, in_s3, eq_i, ne_i, eq_b, ne_b, negR_i, lt_i, le_i, gt_i, ge_i, isN_n, notN_n, isT_b, notT_b, len_l, len_t, list_l, list_t, tuple_l, tuple_t, int_i, int_b, abs_i, it_rng, it_l, it_t, it_enl, it_ent, it_zl, it_zt, ofO_some, bind_exc, st_exc, isiR_k, isiK_ok, cut_l, cut_t, ofOd_ok, ix_k, ix_dct, ix_dcti, ix_l, ix_t, lookK_hit, lookK_miss, atI_0, atI_1, atI_2, fldR_lk, fldR_lkE, setFR_E, lkR_ok, lkF_hit, lkF_miss, putF_nil, putF_hit, putF_miss, nonD_n, nonD_b, nonD_i, nonD_s, nonD_t, nonD_l, nonD_d, nonD_o, truD_n, truD_b, truD_i, truD_s, truD_t, truD_l, truD_d, truD_o,
  x_nil, x_cons, x_seq, x_seqr, x_seqe, x_seqb, x_seqc, x_expr, x_asg, x_par, x_setIx, x_setF, x_if, x_for, x_ret, x_retN, x_raise, x_try, x_brk, x_cnt, x_pass, s_drop, s_asg, asgR_nm, s_par, s_si, s_si2, s_si3, s_si4, s_sf, s_sf2, s_sf3, s_if, s_ret, s_raise, s_raise2, s_for, try_ret, try_nx, end_nx, end_ret, end_exc, end_refE, take_upd, take_upd2, take_end, List.take_length, setAll, asgR_tup, ptE_nm, ptE_2, ptE_3, ptC_nm, ptC_2, ptC_3, Wk.wipe, r_compM, r_compN, ↓compM_map, ↓compN_map, r_comp2M, ↓comp2M_map, comp2M_ok, compM_add, compN_add, addR_map, addR_fil, k_in, ptI_nm, ptI_2, inX_nm, inX_2, all_l, any_l, rngD_map, enumD_mapf, nox_ok,
  List.getElem?_cons_zero, List.getElem?_cons_succ, List.map_cons, List.map_nil, List.replicate_succ, List.replicate_zero, List.cons_append, List.nil_append, List.set_cons_zero, List.set_cons_succ, List.zip_cons_cons, List.zip_nil_left, List.zip_nil_right, List.foldl_cons, List.foldl_nil, Option.map_some, Option.map_none, Option.bind_some, Nat.reduceSub, Nat.reduceAdd, decide_true, decide_false, Bool.not_true, Bool.not_false, Bool.and_true, Bool.true_and, Bool.and_false, Bool.false_and, Bool.or_true, Bool.true_or, Bool.or_false, Bool.false_or, reduceCtorEq, q__law_deed_2, q__law_draw_2, q__law_pen_1, q__law_pick_2, q__law_plain_4, q__wall_1, q_fixed_1, q_is_deed_1, q_is_hand_2, q_is_integer_1, q_is_listed_1, q_is_row_3, q_is_within_3, q_need_program_1, q_with_sites_2, q_written_2, q_written_out_2, q_Program_take_4, m_LongProgram_2, m_Program_1, m_Program_2, el_l, el_t, isi_int, isi_bl, isi_str, isi_lt, c_is_integer, c_is_within, c_is_listed, c_is_row, gl_READ, gl_WRITE, gl_TURN, gl_MOST_HANDS, gl_MOST_DEEDS, gl_MOST_CELL, gl_MOST_SITE, gl_MOST_PASSES, $as,*])
variable {n : Nat} {S : Store}
def isDeed (x : D) : Bool := match elems x with
  | [.str w, c] => isL x && (isW w && inI c 0 5)
  | _ => false
theorem two {α : Type} {xs : List α} (h : xs.length = 2) : ∃ a b, xs = [a, b] := by
  match xs, h with
  | [a, b], _ => exact ⟨a, b, rfl⟩
theorem c_is_deed {x : D} (h : okr x = true) : callN prog (n + 3) i_is_deed none [.d x] S = .ok (.d (.bl (isDeed x))) S := by
  have hv := okr_v h
  have he := okr_elems h
  rw [call_e (fd := f_is_deed) rfl rfl]
  by_cases hr : isRw x 2 2 = true
  · have hl : (elems x).length = 2 := by
      simp only [isRw, Bool.and_eq_true, decide_eq_true_eq] at hr
      omega
    obtain ⟨a, b, e⟩ := two hl
    rw [e] at he
    have va := okr_v (he.2 a (by simp))
    have vb := okr_v (he.2 b (by simp))
    have go : ∀ y, ixR (.d x) (.d (.int 0)) y = .ok (.d a) y ∧ ixR (.d x) (.d (.int 1)) y = .ok (.d b) y ∧ isL x = true := fun y => by
      cases x with
      | lst xs =>
        have e : xs = [a, b] := e
        subst e
        exact ⟨rfl, rfl, rfl⟩
      | tup xs =>
        have e : xs = [a, b] := e
        subst e
        exact ⟨rfl, rfl, rfl⟩
      | _ => cases e
    have g0 : ∀ y, ixR (.d x) (.d (.int 0)) y = .ok (.d a) y := fun y => (go y).1
    have g1 : ∀ y, ixR (.d x) (.d (.int 1)) y = .ok (.d b) y := fun y => (go y).2.1
    have gl := (go []).2.2
    cases a with
    | str w => simp_arith only [f_is_deed, hr, g0, g1, isDeed, e, isS, gl, isW]
    | _ => simp_arith only [f_is_deed, hr, g0, g1, isDeed, e, isS, gl]
  · have hr : isRw x 2 2 = false := by simpa using hr
    have hd : isDeed x = false := by
      unfold isDeed
      split
      · rename_i w c e
        unfold isRw at hr
        rw [e] at hr
        simp at hr
        simp [hr]
      · rfl
    simp_arith only [f_is_deed, hr, hd]
def isHand (x : D) (m : Int) : Bool := match elems x with
  | [a, b] => isL x && (isRw a 0 m && isRw b 0 m) && ((decide (1 ≤ ((elems a ++ elems b).length : Int)) && decide (((elems a ++ elems b).length : Int) ≤ m)) && (elems a ++ elems b).all isDeed)
  | _ => false
theorem sx_el {x : D} {es : List (Bool × CE)} {P : Pg} {cl : Cl} {th : Th} {ρ : Env} (h : isL x = true) : sxR P cl th (some x) es ρ S = (evS P cl th es ρ S).bind (kApp (elems x)) := by
  cases x <;> first | rfl | cases h
theorem len_el {x : D} {P : Pg} (h : isL x = true) : biR P .len [.d x] S = .ok (.d (.int (elems x).length)) S := by
  cases x <;> first | rfl | cases h
theorem it_el {x : D} (h : isL x = true) : items .seq [x] = some (elems x) := by
  cases x <;> first | rfl | cases h
theorem isL_rw {x : D} {a b : Int} (h : isRw x a b = true) : isL x = true := by
  simp only [isRw, Bool.and_eq_true] at h
  exact h.1
theorem c_is_hand {x : D} {m : Int} (h : okr x = true) : callN prog (n + 4) i_is_hand none [.d x, .d (.int m)] S = .ok (.d (.bl (isHand x m))) S := by
  have hv := okr_v h
  have he := okr_elems h
  rw [call_e (fd := f_is_hand) rfl rfl]
  by_cases hr : isRw x 2 2 = true
  · have hl : (elems x).length = 2 := by
      simp only [isRw, Bool.and_eq_true, decide_eq_true_eq] at hr
      omega
    obtain ⟨a, b, e⟩ := two hl
    have gl := isL_rw hr
    have g0 : ∀ y, ixR (.d x) (.d (.int 0)) y = .ok (.d a) y := fun y => by
      cases x with
      | lst xs =>
        have e : xs = [a, b] := e
        subst e
        rfl
      | tup xs =>
        have e : xs = [a, b] := e
        subst e
        rfl
      | _ => cases e
    have g1 : ∀ y, ixR (.d x) (.d (.int 1)) y = .ok (.d b) y := fun y => by
      cases x with
      | lst xs =>
        have e : xs = [a, b] := e
        subst e
        rfl
      | tup xs =>
        have e : xs = [a, b] := e
        subst e
        rfl
      | _ => cases e
    have hz : (elems x).length ≤ sizeLine := small_ok he.1
    have c1 : ∀ y ∈ elems x, ∀ S, callN prog (n + 3) i_is_row none [.d y, .d (.int 0), .d (.int m)] S = .ok (.d (.bl (isRw y 0 m))) S := fun y hy S => c_is_row (n := n + 1) (okr_v (he.2 y hy))
    have ab : ((elems x).all fun y => isRw y 0 m) = (isRw a 0 m && isRw b 0 m) := by
      rw [e]
      simp
    have hh : isHand x m = (isL x && (isRw a 0 m && isRw b 0 m) && ((decide (1 ≤ ((elems a ++ elems b).length : Int)) && decide (((elems a ++ elems b).length : Int) ≤ m)) && (elems a ++ elems b).all isDeed)) := by
      unfold isHand
      rw [e]
    by_cases hb : (isRw a 0 m && isRw b 0 m) = true
    · have ha1 := isL_rw (Bool.and_eq_true_iff.mp hb).1
      have hb1 := isL_rw (Bool.and_eq_true_iff.mp hb).2
      have oa := okr_elems (he.2 a (by rw [e]; simp))
      have ob := okr_elems (he.2 b (by rw [e]; simp))
      have hz2 : (elems a ++ (elems b ++ [])).length ≤ sizeLine := Nat.le_trans (show _ ≤ 200000 by simp; omega) (by decide)
      have hz3 : (elems a ++ elems b).length ≤ sizeLine := by simpa using hz2
      have c2 : ∀ y ∈ elems a ++ elems b, ∀ S, callN prog (n + 3) i_is_deed none [.d y] S = .ok (.d (.bl (isDeed y))) S := fun y hy S => c_is_deed (n := n) (by
        rcases List.mem_append.mp hy with q | q
        · exact oa.2 y q
        · exact ob.2 y q)
      simp_arith only [f_is_hand, hr, g0, g1, hh, gl, it_el, c1, ab, hb, sx_el, List.append_nil, c2]
    · have hb : (isRw a 0 m && isRw b 0 m) = false := by simpa using hb
      simp_arith only [f_is_hand, hr, g0, g1, hh, gl, it_el, c1, ab, hb]
  · have hr : isRw x 2 2 = false := by simpa using hr
    have hd : isHand x m = false := by
      unfold isHand
      split
      · rename_i w c e
        unfold isRw at hr
        rw [e] at hr
        simp at hr
        simp [hr]
      · rfl
    simp_arith only [f_is_hand, hr, hd]
end K02
--ev: c_is_deed, c_is_hand

--use: L1, L2, L3
namespace K02
open Wk
open PySem hiding Env
local macro_rules | `(tactic| simp_arith only [$as,*]) => `(tactic| simp (disch := first | assumption | rfl | omega | exact of_decide_eq_true rfl | decide) only [r_var, r_cst, r_glo, r_live, r_bin, r_neg, r_cmp, r_chn, r_land, r_lor, r_lnot, r_ite, r_tup, r_lst, r_tupS, r_lstS, r_dct, r_ix, r_cut, r_fld, r_isi, r_call, r_mk, r_meth, r_bi, r_bm, r_comp, r_comp2, r_ask, r_lnil, r_lcons, r_snil, r_sT, r_sF, r_knil, r_kcons, r_ksnil, r_kscons, r_onone, r_osome, r_cnone, r_csome,
  k_live, k_bin, k_bin2, k_neg, k_cmp, k_cmp2, k_bl, k_nbl, k_chn, k_chn2, k_chn3, ↓chn_t, ↓chn_f, chn_s, k_and, k_or, ↓iteA_t, ↓iteA_f, iteA_s, ↓iteO_t, ↓iteO_f, iteO_s, ↓andR_t, ↓andR_f, andR_b, ↓orR_t, ↓orR_f, orR_b, k_ite, ↓iteE_t, ↓iteE_f, ↓iteS_t, ↓iteS_f, k_tup, k_tup2, k_lst, k_lst2, k_tupS, k_lstS, k_dct, k_ix, k_ix2, k_cut, k_cut2, k_cut3, k_fld, k_isi, k_call, k_call2, k_mk, k_mk2, k_meth, meth_some, k_meth1, k_bi, k_bm, k_bm2, k_cons, k_cons2, k_sx, sx_l, sx_t, k_app, k_sc, k_sc2, k_kc, k_kc2, k_ks, k_o, k_it, k_it2, k_comp, k_comp2,
  varR_ok, gloR_ok, oIntR_i, vw_d', vw_insE, vw_lstE, frzL_nil, frzL_d, frz_d, tst_b, tst_i, tst_exc, liveR_l, add_i, sub_i, mul_i, mod_i, fdiv_i, add_t, add_l, in_s2, in_s3, eq_i, ne_i, eq_b, ne_b, negR_i, lt_i, le_i, gt_i, ge_i, isN_n, notN_n, isT_b, notT_b, len_l, len_t, list_l, list_t, tuple_l, tuple_t, int_i, int_b, abs_i, it_rng, it_l, it_t, it_enl, it_ent, it_zl, it_zt, ofO_some, bind_exc, st_exc, isiR_k, isiK_ok, cut_l, cut_t, ofOd_ok, ix_k, ix_dct, ix_dcti, ix_l, ix_t, lookK_hit, lookK_miss, atI_0, atI_1, atI_2, fldR_lk, fldR_lkE, setFR_E, lkR_ok, lkF_hit, lkF_miss, putF_nil, putF_hit, putF_miss, nonD_n, nonD_b, nonD_i, nonD_s, nonD_t, nonD_l, nonD_d, nonD_o, truD_n, truD_b, truD_i, truD_s, truD_t, truD_l, truD_d, truD_o,
  x_nil, x_cons, x_seq, x_seqr, x_seqe, x_seqb, x_seqc, x_expr, x_asg, x_par, x_setIx, x_setF, x_if, x_for, x_ret, x_retN, x_raise, x_try, x_brk, x_cnt, x_pass, s_drop, s_asg, asgR_nm, s_par, s_si, s_si2, s_si3, s_si4, s_sf, s_sf2, s_sf3, s_if, s_ret, s_raise, s_raise2, s_for, try_ret, try_nx, end_nx, end_ret, end_exc, end_refE, take_upd, take_upd2, take_end, List.take_length, setAll, asgR_tup, ptE_nm, ptE_2, ptE_3, ptC_nm, ptC_2, ptC_3, Wk.wipe, r_compM, r_compN, ↓compM_map, ↓compN_map, r_comp2M, ↓comp2M_map, comp2M_ok, compM_add, compN_add, addR_map, addR_fil, k_in, ptI_nm, ptI_2, inX_nm, inX_2, all_l, any_l, rngD_map, enumD_mapf, nox_ok,
  List.getElem?_cons_zero, List.getElem?_cons_succ, List.map_cons, List.map_nil, List.replicate_succ, List.replicate_zero, List.cons_append, List.nil_append, List.set_cons_zero, List.set_cons_succ, List.zip_cons_cons, List.zip_nil_left, List.zip_nil_right, List.foldl_cons, List.foldl_nil, Option.map_some, Option.map_none, Option.bind_some, Nat.reduceSub, Nat.reduceAdd, decide_true, decide_false, Bool.not_true, Bool.not_false, Bool.and_true, Bool.true_and, Bool.and_false, Bool.false_and, Bool.or_true, Bool.true_or, Bool.or_false, Bool.false_or, reduceCtorEq, q__law_deed_2, q__law_draw_2, q__law_pen_1, q__law_pick_2, q__law_plain_4, q__wall_1, q_fixed_1, q_is_deed_1, q_is_hand_2, q_is_integer_1, q_is_listed_1, q_is_row_3, q_is_within_3, q_need_program_1, q_with_sites_2, q_written_2, q_written_out_2, q_Program_take_4, m_LongProgram_2, m_Program_1, m_Program_2, el_l, el_t, isi_int, isi_bl, isi_str, isi_lt, c_is_integer, c_is_within, c_is_listed, c_is_row, c_is_deed, c_is_hand, gl_READ, gl_WRITE, gl_TURN, gl_MOST_HANDS, gl_MOST_DEEDS, gl_MOST_CELL, gl_MOST_SITE, gl_MOST_PASSES, $as,*])
variable {n : Nat} {S : Store}
/-- what is passed for sites -/
def sitesOk (x : D) (m : Nat) : Bool := isNon x || (isRw x m m && (elems x).all fun y => inI y 0 5)
def sitesV (x : D) (m : Nat) : List D := match x with
  | .non => (List.range m).map fun (i : Nat) => .int i
  | x => elems x
theorem tuple_el {x : D} {P : Pg} (h : isL x = true) : biR P .tuple [.d x] S = .ok (.d (.tup (elems x))) S := by
  cases x <;> first | rfl | cases h
theorem tupr {j : Int} {P : Pg} (h : -16777216 ≤ j ∧ j ≤ 16777216) : biR P .tupleRange1 [.d (.int j)] S = .ok (.d (.tup ((List.range j.toNat).map fun (i : Nat) => D.int (0 + (i : Nat))))) S := biR_d (xs := [.int j]) rfl (if_pos h)
theorem eq_tnil {xs : List D} {P : Pg} {cl : Cl} (h1 : layL xs = true) (h2 : depL xs ≤ 63) : cmpM P cl .eq (.d (.tup xs)) (.d (.tup [])) S = .ok xs.isEmpty S := by
  refine eq_D (fun _ _ => nofun) ?_
  rw [eqD_lay (by simpa [lay] using h1) rfl (by simp [dep]; omega) (by simp [dep, depL])]
  cases xs with
  | nil => rfl
  | cons d ds => simp [toPy, toPyL, PyData.eqv, PyData.eqvAll]
theorem text_nil {t : List Deed} {P : Pg} {cl : Cl} (h : ∀ d ∈ t, goodD d) : cmpM P cl .eq (.d (textD t)) (.d (.tup [])) S = .ok t.isEmpty S := by
  have e := eqd_text h
  have l := e.lay
  have p := e.dep
  simp only [textD, lay, dep] at l p
  have := eq_tnil (S := S) (P := P) (cl := cl) l (by omega)
  rw [List.isEmpty_map] at this
  exact this
theorem flat_len {H : List Hand} (h1 : H.length ≤ 100) (h2 : ∀ h ∈ H, hLen h ≤ 1000) : (placesD H).length ≤ sizeLine := by
  have := placesD_len h2
  exact Nat.le_trans this (Nat.le_trans (Nat.mul_le_mul_right 1000 h1) (by decide))
theorem c_take {c : Nat} (hc : ∀ f ∈ [n_hands, n_sites, n_many, n_heads, n_texts, n_lengths, n_places, n_is_straight], fldOk prog c f = true) {hs ss : D} {most many : Int} {H : List Hand} {V : List D} (oh : okr hs = true) (os : okr ss = true) (dh : dep hs ≤ 6) (h1 : isRw hs 1 many = true) (h2 : (elems hs).all (fun h => isHand h most) = true)
    (hf : fixD hs = .tup (H.map handD)) (hg : ∀ h ∈ H, (∀ d ∈ h.1, goodD d) ∧ ∀ d ∈ h.2, goodD d) (hl : H.length ≤ 100) (hl2 : ∀ h ∈ H, hLen h ≤ 1000) (h3 : sitesOk ss (elems hs).length = true) (hV : sitesV ss (elems hs).length = V) (hn : (elems hs).length = H.length) :
    callN prog (n + 8) i_Program_take none [.ref S.length, .d hs, .d ss, .d (.int most), .d (.int many)] (S ++ [.ins c []]) = .ok (.d .non) (S ++ [.ins c [(n_hands, .tup (H.map handD)), (n_sites, .tup V), (n_many, .int H.length), (n_heads, .tup (H.map fun h => .int h.1.length)), (n_texts, .tup (H.map fun h => textD (h.1 ++ h.2))), (n_lengths, .tup (H.map fun h => .int (hLen h : Nat))), (n_places, .tup (placesD H)), (n_is_straight, .bl (strt H))]]) := by
  have ok : fldOk prog c n_hands = true ∧ fldOk prog c n_sites = true ∧ fldOk prog c n_many = true ∧ fldOk prog c n_heads = true ∧ fldOk prog c n_texts = true ∧ fldOk prog c n_lengths = true ∧ fldOk prog c n_places = true ∧ fldOk prog c n_is_straight = true := ⟨hc _ (by simp), hc _ (by simp), hc _ (by simp), hc _ (by simp), hc _ (by simp), hc _ (by simp), hc _ (by simp), hc _ (by simp)⟩
  obtain ⟨o1, o2, o3, o4, o5, o6, o7, o8⟩ := ok
  have hv := okr_v oh
  have hv2 := okr_v os
  have he := okr_elems oh
  have hL := isL_rw h1
  have hz := small_ok he.1
  have c1 : ∀ y ∈ elems hs, ∀ S, callN prog (n + 7) i_is_hand none [.d y, .d (.int most)] S = .ok (.d (.bl (isHand y most))) S := fun y hy S => c_is_hand (n := n + 3) (he.2 y hy)
  have cf : ∀ S, callN prog (n + 7) i_fixed none [.d hs] S = .ok (.d (.tup (H.map handD))) S := fun S => by rw [← hf]; exact c_fixed 6 oh dh
  have hz2 : H.length ≤ sizeLine := Nat.le_trans hl (by decide)
  have e2 : ∀ h ∈ H, ∀ S, (Res.ok (List.map deedD h.1 ++ List.map deedD h.2) S).bind kTupS = .ok (.d (.tup (List.map deedD h.1 ++ List.map deedD h.2))) S := fun h hh S => by
    have := hl2 h hh
    have : (List.map deedD h.1 ++ List.map deedD h.2).length ≤ 1000 := by
      simp [hLen] at this ⊢
      omega
    exact k_tupS (Nat.le_trans this (by decide))
  have e4 : ∀ p ∈ H.zipIdx, items .rng1 [.int ((p.1.1.length + p.1.2.length : Nat) : Int)] = some (rngD 0 (p.1.1.length + p.1.2.length)) := fun p hp => by
    have := hl2 p.1 (List.fst_mem_of_mem_zipIdx hp)
    simp [hLen] at this
    exact it_rng (j := ((p.1.1.length + p.1.2.length : Nat) : Int)) (by omega)
  have e5 : (List.flatMap (fun p : Hand × Nat => (List.range (p.1.1.length + p.1.2.length)).map fun (a : Nat) => D.tup [.int p.2, .int (0 + (a : Int))]) H.zipIdx).length ≤ sizeLine := by
    have := flat_len hl hl2
    simpa [placesD, hLen] using this
  rw [call_e (fd := f_Program_take) rfl rfl]
  have r1 : -16777216 ≤ (H.length : Int) ∧ (H.length : Int) ≤ 16777216 := by omega
  have st : ∀ h ∈ H, ∀ S, cmpM prog (callN prog (n + 7)) .eq (.d (.tup (List.map deedD h.2))) (.d (.tup [])) S = .ok h.2.isEmpty S := fun h hh S => text_nil (hg h hh).2
  have e3 : ∀ h ∈ H, (D.tup (List.map deedD h.1 ++ List.map deedD h.2)) = textD (h.1 ++ h.2) := fun h _ => by rw [textD, List.map_append]
  rw [hn] at h3 hV
  have b1 : ((0 : Int) ≤ 5) := by decide
  by_cases hs0 : isNon ss = true
  · have : ss = .non := by
      cases ss <;> first | rfl | cases hs0
    subst this
    simp_arith only [f_Program_take, h1, hL, it_el, len_el, c1, h2, cf, hn, tupr, handD, textD, e2, List.append_nil, List.length_append, List.length_map, e4, e5, st]
    subst hV
    simp [sitesV, placesD, strt, hLen]
  · have hs0 : isNon ss = false := by simpa using hs0
    have h3 : isRw ss H.length H.length = true ∧ (elems ss).all (fun y => inI y 0 5) = true := by
      rw [sitesOk, hs0, Bool.false_or, Bool.and_eq_true] at h3
      exact h3
    have hL2 := isL_rw h3.1
    have es := okr_elems os
    have hzs := small_ok es.1
    have c2 : ∀ y ∈ elems ss, ∀ S, callN prog (n + 7) i_is_within none [.d y, .d (.int 0), .d (.int 5)] S = .ok (.d (.bl (inI y 0 5))) S := fun y hy S => c_is_within (n := n + 5) (okr_v (es.2 y hy))
    simp_arith only [f_Program_take, h1, hL, it_el, len_el, c1, h2, cf, hn, tupr, handD, textD, e2, List.append_nil, List.length_append, List.length_map, e4, e5, hs0, h3.1, h3.2, hL2, c2, tuple_el, st]
    have : sitesV ss H.length = elems ss := by
      cases ss <;> first | rfl | cases hs0
    rw [this] at hV
    subst hV
    simp [placesD, strt, hLen]
/-- what Program takes -/
structure Takes (hs ss : D) (most many : Int) (H : List Hand) (V : List D) : Prop where
  oh : okr hs = true
  os : okr ss = true
  dh : dep hs ≤ 6
  h1 : isRw hs 1 many = true
  h2 : (elems hs).all (fun h => isHand h most) = true
  hf : fixD hs = .tup (H.map handD)
  hg : ∀ h ∈ H, (∀ d ∈ h.1, goodD d) ∧ ∀ d ∈ h.2, goodD d
  hl : H.length ≤ 100
  hl2 : ∀ h ∈ H, hLen h ≤ 1000
  h3 : sitesOk ss (elems hs).length = true
  hV : sitesV ss (elems hs).length = V
  hn : (elems hs).length = H.length
def prgV (H : List Hand) (V : List D) : List (Nat × D) := [(n_hands, .tup (H.map handD)), (n_sites, .tup V), (n_many, .int H.length), (n_heads, .tup (H.map fun h => .int h.1.length)), (n_texts, .tup (H.map fun h => textD (h.1 ++ h.2))), (n_lengths, .tup (H.map fun h => .int (hLen h : Nat))), (n_places, .tup (placesD H)), (n_is_straight, .bl (strt H))]
theorem Takes.take {hs ss : D} {most many : Int} {H : List Hand} {V : List D} (t : Takes hs ss most many H V) {c : Nat} (hc : ∀ f ∈ [n_hands, n_sites, n_many, n_heads, n_texts, n_lengths, n_places, n_is_straight], fldOk prog c f = true) : callN prog (n + 8) i_Program_take none [.ref S.length, .d hs, .d ss, .d (.int most), .d (.int many)] (S ++ [.ins c []]) = .ok (.d .non) (S ++ [.ins c (prgV H V)]) :=
  c_take hc t.oh t.os t.dh t.h1 t.h2 t.hf t.hg t.hl t.hl2 t.h3 t.hV t.hn
theorem okP {f : Nat} (h : f ∈ [n_hands, n_sites, n_many, n_heads, n_texts, n_lengths, n_places, n_is_straight]) : fldOk prog c_Program f = true := by
  simp only [List.mem_cons, List.not_mem_nil, or_false] at h
  rcases h with rfl | rfl | rfl | rfl | rfl | rfl | rfl | rfl <;> rfl
theorem meth_take : methOf prog n_take (some (.ins c_Program [])) = some i_Program_take := nr rfl
/-- Program(hands, sites) -/
theorem mk_Program {hs ss : D} {H : List Hand} {V : List D} (t : Takes hs ss 12 6 H V) : mkM prog (callN prog (n + 10)) c_Program [.ref S.length, .d hs, .d ss] S = .ok (.d (.ins c_Program (prgV H V))) S := by
  refine mkM_of (f := i_Program___init__) rfl ?_
  rw [call_e (fd := f_Program___init__) rfl rfl]
  have e : ∀ x, callN prog (n + 9) i_Program_take none [.ref S.length, .d hs, .d ss, .d (.int 12), .d (.int 6)] (S ++ [.ins c_Program []]) = x → x = .ok (.d .non) (S ++ [.ins c_Program (prgV H V)]) := fun x h => by
    rw [← h]
    exact t.take (n := n + 1) fun f h => okP h
  have e := e _ rfl
  simp_arith only [f_Program___init__, meth_take, e]
end K02

--use: L1, L2, L3
namespace K02
open Wk
open PySem hiding Env
local macro_rules | `(tactic| simp_arith only [$as,*]) => `(tactic| simp (disch := first | assumption | rfl | omega | exact of_decide_eq_true rfl | decide) only [r_var, r_cst, r_glo, r_live, r_bin, r_neg, r_cmp, r_chn, r_land, r_lor, r_lnot, r_ite, r_tup, r_lst, r_tupS, r_lstS, r_dct, r_ix, r_cut, r_fld, r_isi, r_call, r_mk, r_meth, r_bi, r_bm, r_comp, r_comp2, r_ask, r_lnil, r_lcons, r_snil, r_sT, r_sF, r_knil, r_kcons, r_ksnil, r_kscons, r_onone, r_osome, r_cnone, r_csome,
  k_live, k_bin, k_bin2, k_neg, k_cmp, k_cmp2, k_bl, k_nbl, k_chn, k_chn2, k_chn3, ↓chn_t, ↓chn_f, chn_s, k_and, k_or, ↓iteA_t, ↓iteA_f, iteA_s, ↓iteO_t, ↓iteO_f, iteO_s, ↓andR_t, ↓andR_f, andR_b, ↓orR_t, ↓orR_f, orR_b, k_ite, ↓iteE_t, ↓iteE_f, ↓iteS_t, ↓iteS_f, k_tup, k_tup2, k_lst, k_lst2, k_tupS, k_lstS, k_dct, k_ix, k_ix2, k_cut, k_cut2, k_cut3, k_fld, k_isi, k_call, k_call2, k_mk, k_mk2, k_meth, meth_some, k_meth1, k_bi, k_bm, k_bm2, k_cons, k_cons2, k_sx, sx_l, sx_t, k_app, k_sc, k_sc2, k_kc, k_kc2, k_ks, k_o, k_it, k_it2, k_comp, k_comp2,
  varR_ok, gloR_ok, oIntR_i, vw_d', vw_insE, vw_lstE, frzL_nil, frzL_d, frz_d, tst_b, tst_i, tst_exc, liveR_l, add_i, sub_i, mul_i, mod_i, fdiv_i, add_t, add_l, in_s2, in_s3, eq_i, ne_i, eq_b, ne_b, negR_i, lt_i, le_i, gt_i, ge_i, isN_n, notN_n, isT_b, notT_b, len_l, len_t, list_l, list_t, tuple_l, tuple_t, int_i, int_b, abs_i, it_rng, it_l, it_t, it_enl, it_ent, it_zl, it_zt, ofO_some, bind_exc, st_exc, isiR_k, isiK_ok, cut_l, cut_t, ofOd_ok, ix_k, ix_dct, ix_dcti, ix_l, ix_t, lookK_hit, lookK_miss, atI_0, atI_1, atI_2, fldR_lk, fldR_lkE, setFR_E, lkR_ok, lkF_hit, lkF_miss, putF_nil, putF_hit, putF_miss, nonD_n, nonD_b, nonD_i, nonD_s, nonD_t, nonD_l, nonD_d, nonD_o, truD_n, truD_b, truD_i, truD_s, truD_t, truD_l, truD_d, truD_o,
  x_nil, x_cons, x_seq, x_seqr, x_seqe, x_seqb, x_seqc, x_expr, x_asg, x_par, x_setIx, x_setF, x_if, x_for, x_ret, x_retN, x_raise, x_try, x_brk, x_cnt, x_pass, s_drop, s_asg, asgR_nm, s_par, s_si, s_si2, s_si3, s_si4, s_sf, s_sf2, s_sf3, s_if, s_ret, s_raise, s_raise2, s_for, try_ret, try_nx, end_nx, end_ret, end_exc, end_refE, take_upd, take_upd2, take_end, List.take_length, setAll, asgR_tup, ptE_nm, ptE_2, ptE_3, ptC_nm, ptC_2, ptC_3, Wk.wipe, r_compM, r_compN, ↓compM_map, ↓compN_map, r_comp2M, ↓comp2M_map, comp2M_ok, compM_add, compN_add, addR_map, addR_fil, k_in, ptI_nm, ptI_2, inX_nm, inX_2, all_l, any_l, rngD_map, enumD_mapf, nox_ok,
  List.getElem?_cons_zero, List.getElem?_cons_succ, List.map_cons, List.map_nil, List.replicate_succ, List.replicate_zero, List.cons_append, List.nil_append, List.set_cons_zero, List.set_cons_succ, List.zip_cons_cons, List.zip_nil_left, List.zip_nil_right, List.foldl_cons, List.foldl_nil, Option.map_some, Option.map_none, Option.bind_some, Nat.reduceSub, Nat.reduceAdd, decide_true, decide_false, Bool.not_true, Bool.not_false, Bool.and_true, Bool.true_and, Bool.and_false, Bool.false_and, Bool.or_true, Bool.true_or, Bool.or_false, Bool.false_or, reduceCtorEq, q__law_deed_2, q__law_draw_2, q__law_pen_1, q__law_pick_2, q__law_plain_4, q__wall_1, q_fixed_1, q_is_deed_1, q_is_hand_2, q_is_integer_1, q_is_listed_1, q_is_row_3, q_is_within_3, q_need_program_1, q_with_sites_2, q_written_2, q_written_out_2, q_Program_take_4, m_LongProgram_2, m_Program_1, m_Program_2, el_l, el_t, isi_int, isi_bl, isi_str, isi_lt, c_is_integer, c_is_within, c_is_listed, c_is_row, c_is_deed, c_is_hand, gl_READ, gl_WRITE, gl_TURN, gl_MOST_HANDS, gl_MOST_DEEDS, gl_MOST_CELL, gl_MOST_SITE, gl_MOST_PASSES, $as,*])
variable {n : Nat} {S : Store}
/-- a value that is taken for a hand -/
structure HLk (m : Nat) (x : D) (h : Hand) : Prop where
  ok : okr x = true
  dp : dep x ≤ 3
  is : isHand x m = true
  fx : fixD x = handD h
theorem okr_map {α : Type} {e : α → D} {xs : List α} (h : ∀ x ∈ xs, okr (e x) = true) (hz : xs.length ≤ 100000) : okr (.tup (xs.map e)) = true ∧ okr (.lst (xs.map e)) = true := by
  have : ∀ y ∈ xs.map e, okr y = true := fun y hy => by
    obtain ⟨x, hx, rfl⟩ := List.mem_map.mp hy
    exact h x hx
  exact ⟨okr_tup' (by simpa using hz) this, okr_lst' (by simpa using hz) this⟩
theorem fixD_tup {α : Type} {e g : α → D} {xs : List α} (h : ∀ x ∈ xs, fixD (e x) = g x) : fixD (.tup (xs.map e)) = .tup (xs.map g) ∧ fixD (.lst (xs.map e)) = .tup (xs.map g) := by
  have : fixL (xs.map e) = xs.map g := by
    rw [fixL_map, List.map_map]
    exact List.map_congr_left h
  simp only [fixD, this]
  exact ⟨trivial, trivial⟩
theorem okr_deed {d : Deed} : okr (deedD d) = true := by simp [deedD, okr, okrL]
theorem fix_deed {d : Deed} : fixD (deedD d) = deedD d := by simp [deedD, fixD, fixL]
theorem dep_deed {d : Deed} : dep (deedD d) = 1 := by simp [deedD, dep, depL]
theorem is_deed {d : Deed} (h : goodD d) : isDeed (deedD d) = true := by
  obtain ⟨h1, h2, h3⟩ := h
  simp [deedD, isDeed, elems, isL, inI, h1, h2, h3]
theorem dep_map {α : Type} {e : α → D} {k : Nat} {xs : List α} (h : ∀ x ∈ xs, dep (e x) ≤ k) : dep (.tup (xs.map e)) ≤ k + 1 ∧ dep (.lst (xs.map e)) ≤ k + 1 := by
  have := depL_le h
  simp only [dep]
  omega
def handL (h : Hand) : D := .lst [.lst (h.1.map deedD), .lst (h.2.map deedD)]
def handM (h : Hand) : D := .tup [.lst (h.1.map deedD), .lst (h.2.map deedD)]
theorem hlk {m : Nat} {h : Hand} (hm : m ≤ 1000) (g : goodH m h) {a b : D} (ha : a = textD h.1 ∨ a = .lst (h.1.map deedD)) (hb : b = textD h.2 ∨ b = .lst (h.2.map deedD)) : HLk m (.tup [a, b]) h ∧ HLk m (.lst [a, b]) h := by
  obtain ⟨g1, g2, g3, g4⟩ := g
  have l1 : h.1.length ≤ 1000 := by unfold hLen at g4; omega
  have l2 : h.2.length ≤ 1000 := by unfold hLen at g4; omega
  have el : ∀ (t : List Deed) (a : D), t.length ≤ 1000 → (a = textD t ∨ a = .lst (t.map deedD)) → okr a = true ∧ dep a ≤ 2 ∧ elems a = t.map deedD ∧ isL a = true ∧ fixD a = textD t := fun t a hl ha => by
    have o := okr_map (e := deedD) (xs := t) (fun _ _ => okr_deed) (by omega)
    have d := dep_map (e := deedD) (k := 1) (xs := t) (fun _ _ => Nat.le_of_eq dep_deed)
    have f := fixD_tup (e := deedD) (g := deedD) (xs := t) (fun _ _ => fix_deed)
    rcases ha with rfl | rfl
    · exact ⟨o.1, d.1, rfl, rfl, f.1⟩
    · exact ⟨o.2, d.2, rfl, rfl, f.2⟩
  obtain ⟨a1, a2, a3, a4, a5⟩ := el _ a l1 ha
  obtain ⟨b1, b2, b3, b4, b5⟩ := el _ b l2 hb
  have all : (elems a ++ elems b).all isDeed = true := by
    rw [a3, b3, List.all_eq_true]
    intro x hx
    rcases List.mem_append.mp hx with q | q
    · obtain ⟨d, hd, rfl⟩ := List.mem_map.mp q
      exact is_deed (g1 d hd)
    · obtain ⟨d, hd, rfl⟩ := List.mem_map.mp q
      exact is_deed (g2 d hd)
  have len : (elems a ++ elems b).length = hLen h := by
    rw [a3, b3]
    simp [hLen]
  have ra : isRw a 0 m = true := by
    simp only [isRw, a4, a3, List.length_map, Bool.true_and, Bool.and_eq_true, decide_eq_true_eq]
    unfold hLen at g4
    omega
  have rb : isRw b 0 m = true := by
    simp only [isRw, b4, b3, List.length_map, Bool.true_and, Bool.and_eq_true, decide_eq_true_eq]
    unfold hLen at g4
    omega
  have k1 : decide (1 ≤ ((elems a ++ elems b).length : Int)) = true := decide_eq_true (by rw [len]; omega)
  have k2 : decide (((elems a ++ elems b).length : Int) ≤ m) = true := decide_eq_true (by rw [len]; omega)
  have t1 : isHand (.tup [a, b]) m = true := by
    show (true && (isRw a 0 m && isRw b 0 m) && ((decide (1 ≤ ((elems a ++ elems b).length : Int)) && decide (((elems a ++ elems b).length : Int) ≤ m)) && (elems a ++ elems b).all isDeed)) = true
    rw [ra, rb, k1, k2, all]
    rfl
  have t2 : isHand (.lst [a, b]) m = true := by
    show (true && (isRw a 0 m && isRw b 0 m) && ((decide (1 ≤ ((elems a ++ elems b).length : Int)) && decide (((elems a ++ elems b).length : Int) ≤ m)) && (elems a ++ elems b).all isDeed)) = true
    rw [ra, rb, k1, k2, all]
    rfl
  exact ⟨⟨by simp [okr, okrL, a1, b1], by simp [dep, depL]; omega, t1, by simp [fixD, fixL, a5, b5, handD]⟩, ⟨by simp [okr, okrL, a1, b1], by simp [dep, depL]; omega, t2, by simp [fixD, fixL, a5, b5, handD]⟩⟩
theorem hlk_D {m : Nat} {h : Hand} (hm : m ≤ 1000) (g : goodH m h) : HLk m (handD h) h := (hlk hm g (.inl rfl) (.inl rfl)).1
theorem hlk_L {m : Nat} {h : Hand} (hm : m ≤ 1000) (g : goodH m h) : HLk m (handL h) h := (hlk hm g (.inr rfl) (.inr rfl)).2
theorem hlk_M {m : Nat} {h : Hand} (hm : m ≤ 1000) (g : goodH m h) : HLk m (handM h) h := (hlk hm g (.inr rfl) (.inr rfl)).1
theorem takes_of {e : Hand → D} {H : List Hand} {m many : Nat} {hs ss : D} {V : List D} (hm : m ≤ 1000) (hmy : many ≤ 100) (g : ∀ h ∈ H, goodH m h) (he : ∀ h ∈ H, HLk m (e h) h) (h1 : 1 ≤ H.length) (h2 : H.length ≤ many) (hh : hs = .lst (H.map e) ∨ hs = .tup (H.map e)) (os : okr ss = true) (h3 : sitesOk ss H.length = true) (hV : sitesV ss H.length = V) : Takes hs ss m many H V := by
  have o := okr_map (e := e) (xs := H) (fun h hh => (he h hh).ok) (by omega)
  have d := dep_map (e := e) (k := 3) (xs := H) (fun h hh => (he h hh).dp)
  have f := fixD_tup (e := e) (g := handD) (xs := H) (fun h hh => (he h hh).fx)
  have el : elems hs = H.map e := by rcases hh with rfl | rfl <;> rfl
  have l : isL hs = true := by rcases hh with rfl | rfl <;> rfl
  have len : (elems hs).length = H.length := by rw [el, List.length_map]
  refine ⟨hh.elim (fun q => q ▸ o.2) (fun q => q ▸ o.1), os, by rcases hh with rfl | rfl <;> omega, ?_, ?_, hh.elim (fun q => q ▸ f.2) (fun q => q ▸ f.1), fun h hh => ⟨(g h hh).1, (g h hh).2.1⟩, by omega, fun h hh => ?_, by rw [len]; exact h3, by rw [len]; exact hV, len⟩
  · simp only [isRw, l, len, Bool.true_and, Bool.and_eq_true, decide_eq_true_eq]
    omega
  · rw [el, List.all_eq_true]
    intro x hx
    obtain ⟨h, hh, rfl⟩ := List.mem_map.mp hx
    exact (he h hh).is
  · have := (g h hh).2.2.2
    omega
/-- sites that are let -/
theorem sites_row {T : List Int} {ss : D} {m : Nat} (hl : T.length = m) (hz : m ≤ 100) (h : ∀ t ∈ T, 0 ≤ t ∧ t ≤ 5) (hs : ss = .lst (T.map .int) ∨ ss = .tup (T.map .int)) : okr ss = true ∧ sitesOk ss m = true ∧ sitesV ss m = T.map .int := by
  have o := okr_map (e := D.int) (xs := T) (fun _ _ => rfl) (by omega)
  have el : elems ss = T.map .int := by rcases hs with rfl | rfl <;> rfl
  have l : isL ss = true := by rcases hs with rfl | rfl <;> rfl
  refine ⟨hs.elim (fun q => q ▸ o.2) (fun q => q ▸ o.1), ?_, by rcases hs with rfl | rfl <;> rfl⟩
  unfold sitesOk
  rw [Bool.or_eq_true, Bool.and_eq_true]
  refine .inr ⟨?_, ?_⟩
  · simp only [isRw, l, el, List.length_map, Bool.true_and, Bool.and_eq_true, decide_eq_true_eq]
    omega
  · rw [el, List.all_eq_true]
    intro x hx
    obtain ⟨t, ht, rfl⟩ := List.mem_map.mp hx
    have := h t ht
    simp [inI, this]
def prgD (H : List Hand) (T : List Int) : D := .ins c_Program (prgV H (T.map .int))
def natI (m : Nat) : List Int := (List.range m).map fun (i : Nat) => (i : Int)
theorem sites_non {m : Nat} : okr .non = true ∧ sitesOk .non m = true ∧ sitesV .non m = (natI m).map .int := ⟨rfl, rfl, by
  unfold natI
  rw [List.map_map]
  rfl⟩
/-- fields -/
theorem o_hands {H : List Hand} {V : List D} : lkF n_hands (prgV H V) = some (.tup (H.map handD)) := nr rfl
theorem o_sites {H : List Hand} {V : List D} : lkF n_sites (prgV H V) = some (.tup V) := nr rfl
theorem o_many {H : List Hand} {V : List D} : lkF n_many (prgV H V) = some (.int H.length) := nr rfl
theorem o_heads {H : List Hand} {V : List D} : lkF n_heads (prgV H V) = some (.tup (H.map fun h => .int h.1.length)) := nr rfl
theorem o_texts {H : List Hand} {V : List D} : lkF n_texts (prgV H V) = some (.tup (H.map fun h => textD (h.1 ++ h.2))) := nr rfl
theorem o_lengths {H : List Hand} {V : List D} : lkF n_lengths (prgV H V) = some (.tup (H.map fun h => .int (hLen h : Nat))) := nr rfl
theorem o_places {H : List Hand} {V : List D} : lkF n_places (prgV H V) = some (.tup (placesD H)) := nr rfl
theorem o_straight {H : List Hand} {V : List D} : lkF n_is_straight (prgV H V) = some (.bl (strt H)) := nr rfl
theorem okv_prg {H : List Hand} {V : List D} : okv (.ins c_Program (prgV H V)) = true := rfl
theorem isi_prg {c : Nat} {fs : List (Nat × D)} (h : c = c_Program) : isiA prog (.ins c fs) [.cls c_Program] = some true := by
  subst h
  rfl
theorem isi_np {x : D} (h : (match x with
  | .ins _ _ => false
  | .exn _ _ => false
  | .scr _ => false
  | _ => true) = true) : isiA prog x [.cls c_Program] = some false := by
  cases x <;> first | rfl | cases h
theorem place_ix {α β : Type} {H : List α} {f : α → β} {i : Nat} {h : α} (hi : H[i]? = some h) : L2.atI (H.map f) (i : Int) = some (f h) := by
  rw [atI_nat, List.getElem?_map, hi]
  rfl
end K02
--ev: o_hands, o_sites, o_many, o_heads, o_texts, o_lengths, o_places, o_straight

--use: L1, L2, L3, L5
namespace K02
open Wk
open PySem hiding Env
local macro_rules | `(tactic| simp_arith only [$as,*]) => `(tactic| simp (disch := first | assumption | rfl | omega | exact of_decide_eq_true rfl | decide) only [r_var, r_cst, r_glo, r_live, r_bin, r_neg, r_cmp, r_chn, r_land, r_lor, r_lnot, r_ite, r_tup, r_lst, r_tupS, r_lstS, r_dct, r_ix, r_cut, r_fld, r_isi, r_call, r_mk, r_meth, r_bi, r_bm, r_comp, r_comp2, r_ask, r_lnil, r_lcons, r_snil, r_sT, r_sF, r_knil, r_kcons, r_ksnil, r_kscons, r_onone, r_osome, r_cnone, r_csome,
  k_live, k_bin, k_bin2, k_neg, k_cmp, k_cmp2, k_bl, k_nbl, k_chn, k_chn2, k_chn3, ↓chn_t, ↓chn_f, chn_s, k_and, k_or, ↓iteA_t, ↓iteA_f, iteA_s, ↓iteO_t, ↓iteO_f, iteO_s, ↓andR_t, ↓andR_f, andR_b, ↓orR_t, ↓orR_f, orR_b, k_ite, ↓iteE_t, ↓iteE_f, ↓iteS_t, ↓iteS_f, k_tup, k_tup2, k_lst, k_lst2, k_tupS, k_lstS, k_dct, k_ix, k_ix2, k_cut, k_cut2, k_cut3, k_fld, k_isi, k_call, k_call2, k_mk, k_mk2, k_meth, meth_some, k_meth1, k_bi, k_bm, k_bm2, k_cons, k_cons2, k_sx, sx_l, sx_t, k_app, k_sc, k_sc2, k_kc, k_kc2, k_ks, k_o, k_it, k_it2, k_comp, k_comp2,
  varR_ok, gloR_ok, oIntR_i, vw_d', vw_insE, vw_lstE, frzL_nil, frzL_d, frz_d, tst_b, tst_i, tst_exc, liveR_l, add_i, sub_i, mul_i, mod_i, fdiv_i, add_t, add_l, in_s2, in_s3, eq_i, ne_i, eq_b, ne_b, negR_i, lt_i, le_i, gt_i, ge_i, isN_n, notN_n, isT_b, notT_b, len_l, len_t, list_l, list_t, tuple_l, tuple_t, int_i, int_b, abs_i, it_rng, it_l, it_t, it_enl, it_ent, it_zl, it_zt, ofO_some, bind_exc, st_exc, isiR_k, isiK_ok, cut_l, cut_t, ofOd_ok, ix_k, ix_dct, ix_dcti, ix_l, ix_t, lookK_hit, lookK_miss, atI_0, atI_1, atI_2, fldR_lk, fldR_lkE, setFR_E, lkR_ok, lkF_hit, lkF_miss, putF_nil, putF_hit, putF_miss, nonD_n, nonD_b, nonD_i, nonD_s, nonD_t, nonD_l, nonD_d, nonD_o, truD_n, truD_b, truD_i, truD_s, truD_t, truD_l, truD_d, truD_o,
  x_nil, x_cons, x_seq, x_seqr, x_seqe, x_seqb, x_seqc, x_expr, x_asg, x_par, x_setIx, x_setF, x_if, x_for, x_ret, x_retN, x_raise, x_try, x_brk, x_cnt, x_pass, s_drop, s_asg, asgR_nm, s_par, s_si, s_si2, s_si3, s_si4, s_sf, s_sf2, s_sf3, s_if, s_ret, s_raise, s_raise2, s_for, try_ret, try_nx, end_nx, end_ret, end_exc, end_refE, take_upd, take_upd2, take_end, List.take_length, setAll, asgR_tup, ptE_nm, ptE_2, ptE_3, ptC_nm, ptC_2, ptC_3, Wk.wipe, r_compM, r_compN, ↓compM_map, ↓compN_map, r_comp2M, ↓comp2M_map, comp2M_ok, compM_add, compN_add, addR_map, addR_fil, k_in, ptI_nm, ptI_2, inX_nm, inX_2, all_l, any_l, rngD_map, enumD_mapf, nox_ok,
  List.getElem?_cons_zero, List.getElem?_cons_succ, List.map_cons, List.map_nil, List.replicate_succ, List.replicate_zero, List.cons_append, List.nil_append, List.set_cons_zero, List.set_cons_succ, List.zip_cons_cons, List.zip_nil_left, List.zip_nil_right, List.foldl_cons, List.foldl_nil, Option.map_some, Option.map_none, Option.bind_some, Nat.reduceSub, Nat.reduceAdd, decide_true, decide_false, Bool.not_true, Bool.not_false, Bool.and_true, Bool.true_and, Bool.and_false, Bool.false_and, Bool.or_true, Bool.true_or, Bool.or_false, Bool.false_or, reduceCtorEq, q__law_deed_2, q__law_draw_2, q__law_pen_1, q__law_pick_2, q__law_plain_4, q__wall_1, q_fixed_1, q_is_deed_1, q_is_hand_2, q_is_integer_1, q_is_listed_1, q_is_row_3, q_is_within_3, q_need_program_1, q_with_sites_2, q_written_2, q_written_out_2, q_Program_take_4, m_LongProgram_2, m_Program_1, m_Program_2, el_l, el_t, isi_int, isi_bl, isi_str, isi_lt, c_is_integer, c_is_within, c_is_listed, c_is_row, c_is_deed, c_is_hand, o_hands, o_sites, o_many, o_heads, o_texts, o_lengths, o_places, o_straight, gl_READ, gl_WRITE, gl_TURN, gl_MOST_HANDS, gl_MOST_DEEDS, gl_MOST_CELL, gl_MOST_SITE, gl_MOST_PASSES, $as,*])
variable {n : Nat} {S : Store}
section
variable {H : List Hand} {V : List D} {i a : Nat} {h : Hand} {d : Deed}
theorem c_deed (hi : H[i]? = some h) (ha : (h.1 ++ h.2)[a]? = some d) : callN prog (n + 1) i_Program_deed none [.d (.ins c_Program (prgV H V)), .d (placeD (i, a))] S = .ok (.d (deedD d)) S := by
  rw [call_e (fd := f_Program_deed) rfl rfl]
  simp_arith only [f_Program_deed, placeD, place_ix hi, textD, place_ix ha]
theorem c_cell (hi : H[i]? = some h) (ha : (h.1 ++ h.2)[a]? = some d) : callN prog (n + 1) i_Program_cell none [.d (.ins c_Program (prgV H V)), .d (placeD (i, a))] S = .ok (.d (.int d.2)) S := by
  rw [call_e (fd := f_Program_cell) rfl rfl]
  simp_arith only [f_Program_cell, placeD, place_ix hi, textD, place_ix ha, deedD]
end
theorem cmp_own {cl : Cl} {c f : Nat} {fs : List (Nat × D)} {y : D} {k : Bool} (h1 : (prog.cls[c]?).bind (·.eqf) = some f) (h2 : below prog (.ins c fs) y = false) (h3 : cl f none [.d (.ins c fs), .d y] S = .ok (.d (.bl k)) S) : cmpM prog cl .eq (.d (.ins c fs)) (.d y) S = .ok k S ∧ cmpM prog cl .ne (.d (.ins c fs)) (.d y) S = .ok (!k) S := by
  constructor
  · unfold cmpM
    rw [vw_d', vw_d']
    dsimp only [ownEq]
    rw [h1]
    dsimp only
    rw [h2, h3]
    rfl
  · unfold cmpM
    rw [vw_d', vw_d']
    dsimp only [ownEq]
    rw [h1]
    dsimp only
    rw [h2, h3]
    rfl
theorem eq_np {H : List Hand} {V : List D} {x : D} (h : (match x with
  | .ins _ _ => false
  | .exn _ _ => false
  | .scr _ => false
  | _ => true) = true) : cmpM prog (callN prog (n + 1)) .eq (.d (.ins c_Program (prgV H V))) (.d x) S = .ok false S ∧ cmpM prog (callN prog (n + 1)) .ne (.d (.ins c_Program (prgV H V))) (.d x) S = .ok true S := by
  refine cmp_own (k := false) (f := i_Program___eq__) rfl (by cases x <;> first | rfl | cases h) ?_
  rw [call_e (fd := f_Program___eq__) rfl rfl]
  simp_arith only [f_Program___eq__, isi_np h]
theorem eq_hands {H H' : List Hand} {m m' : Nat} {cl : Cl} (g : ∀ h ∈ H, goodH m h) (g' : ∀ h ∈ H', goodH m' h) : cmpM prog cl .eq (.d (.tup (H.map handD))) (.d (.tup (H'.map handD))) S = .ok (decide (H = H')) S := by
  refine eq_D (fun _ _ => nofun) ((eqd_hands g).eq (eqd_hands g') (by decide) (by decide) ?_)
  simp only [D.tup.injEq]
  exact ⟨map_inj fun _ _ => handD_inj, fun h => by rw [h]⟩
theorem eq_ints {T T' : List Int} {cl : Cl} : cmpM prog cl .eq (.d (.tup (T.map .int))) (.d (.tup (T'.map .int))) S = .ok (decide (T = T')) S := by
  refine eq_D (fun _ _ => nofun) ((eqd_tup (k := 0) fun _ _ => eqd_int).eq (eqd_tup (k := 0) fun _ _ => eqd_int) (by decide) (by decide) ?_)
  simp only [D.tup.injEq]
  exact ⟨map_inj fun _ _ h => by injection h, fun h => by rw [h]⟩
theorem eq_prg {H H' : List Hand} {T T' : List Int} {m m' : Nat} (g : ∀ h ∈ H, goodH m h) (g' : ∀ h ∈ H', goodH m' h) : cmpM prog (callN prog (n + 1)) .eq (.d (prgD H T)) (.d (prgD H' T')) S = .ok (decide (H = H') && decide (T = T')) S ∧ cmpM prog (callN prog (n + 1)) .ne (.d (prgD H T)) (.d (prgD H' T')) S = .ok (!(decide (H = H') && decide (T = T'))) S := by
  refine cmp_own (f := i_Program___eq__) rfl rfl ?_
  rw [call_e (fd := f_Program___eq__) rfl rfl]
  have e1 : ∀ {cl : Cl} {S}, cmpM prog cl .eq (.d (.tup (H.map handD))) (.d (.tup (H'.map handD))) S = .ok (decide (H = H')) S := eq_hands g g'
  simp_arith only [f_Program___eq__, prgD, isi_prg, e1, eq_ints]
end K02

--use: L1, L2, L3, L5
namespace K02
open Wk
open PySem hiding Env
local macro_rules | `(tactic| simp_arith only [$as,*]) => `(tactic| simp (disch := first | assumption | rfl | omega | exact of_decide_eq_true rfl | decide) only [r_var, r_cst, r_glo, r_live, r_bin, r_neg, r_cmp, r_chn, r_land, r_lor, r_lnot, r_ite, r_tup, r_lst, r_tupS, r_lstS, r_dct, r_ix, r_cut, r_fld, r_isi, r_call, r_mk, r_meth, r_bi, r_bm, r_comp, r_comp2, r_ask, r_lnil, r_lcons, r_snil, r_sT, r_sF, r_knil, r_kcons, r_ksnil, r_kscons, r_onone, r_osome, r_cnone, r_csome,
  k_live, k_bin, k_bin2, k_neg, k_cmp, k_cmp2, k_bl, k_nbl, k_chn, k_chn2, k_chn3, ↓chn_t, ↓chn_f, chn_s, k_and, k_or, ↓iteA_t, ↓iteA_f, iteA_s, ↓iteO_t, ↓iteO_f, iteO_s, ↓andR_t, ↓andR_f, andR_b, ↓orR_t, ↓orR_f, orR_b, k_ite, ↓iteE_t, ↓iteE_f, ↓iteS_t, ↓iteS_f, k_tup, k_tup2, k_lst, k_lst2, k_tupS, k_lstS, k_dct, k_ix, k_ix2, k_cut, k_cut2, k_cut3, k_fld, k_isi, k_call, k_call2, k_mk, k_mk2, k_meth, meth_some, k_meth1, k_bi, k_bm, k_bm2, k_cons, k_cons2, k_sx, sx_l, sx_t, k_app, k_sc, k_sc2, k_kc, k_kc2, k_ks, k_o, k_it, k_it2, k_comp, k_comp2,
  varR_ok, gloR_ok, oIntR_i, vw_d', vw_insE, vw_lstE, frzL_nil, frzL_d, frz_d, tst_b, tst_i, tst_exc, liveR_l, add_i, sub_i, mul_i, mod_i, fdiv_i, add_t, add_l, in_s2, in_s3, eq_i, ne_i, eq_b, ne_b, negR_i, lt_i, le_i, gt_i, ge_i, isN_n, notN_n, isT_b, notT_b, len_l, len_t, list_l, list_t, tuple_l, tuple_t, int_i, int_b, abs_i, it_rng, it_l, it_t, it_enl, it_ent, it_zl, it_zt, ofO_some, bind_exc, st_exc, isiR_k, isiK_ok, cut_l, cut_t, ofOd_ok, ix_k, ix_dct, ix_dcti, ix_l, ix_t, lookK_hit, lookK_miss, atI_0, atI_1, atI_2, fldR_lk, fldR_lkE, setFR_E, lkR_ok, lkF_hit, lkF_miss, putF_nil, putF_hit, putF_miss, nonD_n, nonD_b, nonD_i, nonD_s, nonD_t, nonD_l, nonD_d, nonD_o, truD_n, truD_b, truD_i, truD_s, truD_t, truD_l, truD_d, truD_o,
  x_nil, x_cons, x_seq, x_seqr, x_seqe, x_seqb, x_seqc, x_expr, x_asg, x_par, x_setIx, x_setF, x_if, x_for, x_ret, x_retN, x_raise, x_try, x_brk, x_cnt, x_pass, s_drop, s_asg, asgR_nm, s_par, s_si, s_si2, s_si3, s_si4, s_sf, s_sf2, s_sf3, s_if, s_ret, s_raise, s_raise2, s_for, try_ret, try_nx, end_nx, end_ret, end_exc, end_refE, take_upd, take_upd2, take_end, List.take_length, setAll, asgR_tup, ptE_nm, ptE_2, ptE_3, ptC_nm, ptC_2, ptC_3, Wk.wipe, r_compM, r_compN, ↓compM_map, ↓compN_map, r_comp2M, ↓comp2M_map, comp2M_ok, compM_add, compN_add, addR_map, addR_fil, k_in, ptI_nm, ptI_2, inX_nm, inX_2, all_l, any_l, rngD_map, enumD_mapf, nox_ok,
  List.getElem?_cons_zero, List.getElem?_cons_succ, List.map_cons, List.map_nil, List.replicate_succ, List.replicate_zero, List.cons_append, List.nil_append, List.set_cons_zero, List.set_cons_succ, List.zip_cons_cons, List.zip_nil_left, List.zip_nil_right, List.foldl_cons, List.foldl_nil, Option.map_some, Option.map_none, Option.bind_some, Nat.reduceSub, Nat.reduceAdd, decide_true, decide_false, Bool.not_true, Bool.not_false, Bool.and_true, Bool.true_and, Bool.and_false, Bool.false_and, Bool.or_true, Bool.true_or, Bool.or_false, Bool.false_or, reduceCtorEq, q__law_deed_2, q__law_draw_2, q__law_pen_1, q__law_pick_2, q__law_plain_4, q__wall_1, q_fixed_1, q_is_deed_1, q_is_hand_2, q_is_integer_1, q_is_listed_1, q_is_row_3, q_is_within_3, q_need_program_1, q_with_sites_2, q_written_2, q_written_out_2, q_Program_take_4, m_LongProgram_2, m_Program_1, m_Program_2, el_l, el_t, isi_int, isi_bl, isi_str, isi_lt, c_is_integer, c_is_within, c_is_listed, c_is_row, c_is_deed, c_is_hand, o_hands, o_sites, o_many, o_heads, o_texts, o_lengths, o_places, o_straight, gl_READ, gl_WRITE, gl_TURN, gl_MOST_HANDS, gl_MOST_DEEDS, gl_MOST_CELL, gl_MOST_SITE, gl_MOST_PASSES, $as,*])
variable {n : Nat} {S : Store} {ns : List Int} {p : Nat} {bd : Int}
theorem is_draw : prog.fns[i__law_draw]? = some (drawF 71079 9053 33129 6145) := rfl
theorem c_draw {many : Int} (hp : Pen ns p S bd) (hb : bd ≤ 99999) (h1 : 1 ≤ many) (hm : many < 1073741824) : ∃ (d : Int) (S' : Store), callN prog (n + 1) i__law_draw none [.ref p, .d (.int many)] S = .ok (.d (.int d)) S' ∧ PenTo ns p S S' (bd + 1) ∧ 0 ≤ d ∧ d < many :=
  draw_ok is_draw hp hb h1 hm (by decide) (by decide) (by decide) (by decide)
theorem cut_all {xs : List D} {m : Nat} (h : xs.length ≤ m) : cutD xs none (some (m : Int)) = xs := by
  unfold cutD
  rw [HT.sIx_nat]
  have : HT.sIx xs.length 0 none = 0 := rfl
  rw [this, List.drop_zero, Nat.sub_zero, Nat.min_eq_right h, List.take_length]
theorem c_pen (h : ns.length ≤ 63) : callN prog (n + 1) i__law_pen none [.d (.scr ns)] [] = .ok (.ref 0) [.lst [.lst (ns.map .int), .int 0, .int 0]] := by
  rw [call_e (fd := f__law_pen) rfl rfl]
  have e : cutD (ns.map D.int) none (some 63) = ns.map D.int := cut_all (m := 63) (by simpa using h)
  simp_arith only [f__law_pen, cut_s, e]
  rfl
theorem pen_0 : Pen ns 0 [.lst [.lst (ns.map .int), .int 0, .int 0]] 0 := ⟨0, 0, rfl, by decide, by decide, by decide⟩
/-- one of some things -/
theorem c_pick {xs : List D} (hp : Pen ns p S bd) (hb : bd ≤ 99999) (h1 : 1 ≤ xs.length) (hm : xs.length < 1000000) : ∃ x S', callN prog (n + 2) i__law_pick none [.ref p, .d (.lst xs)] S = .ok (.d x) S' ∧ PenTo ns p S S' (bd + 1) ∧ x ∈ xs := by
  obtain ⟨d, S', e, pt, d0, d1⟩ := c_draw (n := n) (many := (xs.length : Int)) hp hb (by omega) (by omega)
  obtain ⟨k, rfl⟩ : ∃ k : Nat, d = k := ⟨d.toNat, by omega⟩
  have hk : k < xs.length := by omega
  refine ⟨xs[k], S', ?_, pt, List.getElem_mem hk⟩
  rw [call_e (fd := f__law_pick) rfl rfl]
  have e2 : L2.atI xs (k : Int) = some xs[k] := by rw [atI_nat, List.getElem?_eq_getElem hk]
  simp_arith only [f__law_pick, e, e2]
  rw [show S.length = S'.length from pt.len.symm, List.take_length]
theorem c_ldeed {cs : List Int} (hp : Pen ns p S bd) (hb : bd ≤ 99998) (h1 : 1 ≤ cs.length) (hm : cs.length < 1000000) (hc : ∀ c ∈ cs, 0 ≤ c ∧ c ≤ 5) : ∃ d S', callN prog (n + 3) i__law_deed none [.ref p, .d (.lst (cs.map .int))] S = .ok (.d (deedD d)) S' ∧ PenTo ns p S S' (bd + 2) ∧ goodD d ∧ d.2 ∈ cs := by
  obtain ⟨w, S1, e1, p1, hw⟩ := c_pick (n := n) (xs := [.str "read", .str "read", .str "read", .str "write", .str "write", .str "write", .str "turn"]) hp (by omega) (by decide) (by decide)
  obtain ⟨c, S2, e2, p2, hc2⟩ := c_pick (n := n) (xs := cs.map .int) (p1.pen hp.lt) (by omega) (by simpa using h1) (by simpa using hm)
  obtain ⟨c, hcm, rfl⟩ := List.mem_map.mp hc2
  obtain ⟨v, rfl, hv⟩ : ∃ v : Str, w = .str v ∧ isW v = true := by
    simp only [List.mem_cons, List.not_mem_nil, or_false] at hw
    rcases hw with rfl | rfl | rfl | rfl | rfl | rfl | rfl <;> exact ⟨_, rfl, by decide +kernel⟩
  refine ⟨(v, c), S2, ?_, (p1.trans p2).up (by omega), ⟨hv, hc c hcm⟩, hcm⟩
  rw [call_e (fd := f__law_deed) rfl rfl]
  simp_arith only [f__law_deed, e1, e2, deedD]
  rw [show S.length = S2.length by rw [p2.len, p1.len], List.take_length]
def plainBody : List CS := match f__law_plain.body with
  | [_, _, .for_ _ _ _ b, _, _] => b
  | _ => []
theorem lst1 {α : Type} {e : α → D} {x : α} {xs : List α} : xs.map e ++ [e x] = (xs ++ [x]).map e := by simp
theorem plain_turn {x4 x9 x10 x11 : Option Vl} {hands m many : Int} {hr : Bool} {cs : List Int} {Hs : List Hand} (hp : Pen ns p S bd) (hb : bd ≤ 90000) (h1 : 1 ≤ m) (h2 : m ≤ 12) (cs1 : 1 ≤ cs.length) (cs2 : cs.length < 1000000) (cs3 : ∀ c ∈ cs, 0 ≤ c ∧ c ≤ 5) (hz : Hs.length < 1000) :
    ∃ y9 y10 y11 S' h, exL prog (callN prog (n + 3)) none plainBody [some (.ref p), some (.d (.int hands)), some (.d (.int m)), some (.d (.bl hr)), x4, none, some (.d (.int many)), some (.d (.lst (cs.map .int))), some (.ref S.length), x9, x10, x11] (S ++ [.lst (Hs.map handD)]) = .nx [some (.ref p), some (.d (.int hands)), some (.d (.int m)), some (.d (.bl hr)), x4, none, some (.d (.int many)), some (.d (.lst (cs.map .int))), some (.ref S.length), y9, y10, y11] (S' ++ [.lst ((Hs ++ [h]).map handD)]) ∧ PenTo ns p S S' (bd + 40) ∧ goodH m.toNat h ∧ (hr = false → h.2 = []) := by
  have hl := hp.lt
  have cv : ∀ S : Store, p < S.length → p < (S ++ [Cell.lst (Hs.map handD)]).length := fun S h => by simp; omega
  obtain ⟨d1, S1', e1, w1, d10, d11⟩ := c_draw (n := n + 2) (many := m) (hp.app (c := .lst (Hs.map handD))) (by omega) h1 (by omega)
  obtain ⟨S1, rfl, p1⟩ := w1.app hl
  have hl1 : p < S1.length := by rw [p1.len]; exact hl
  obtain ⟨k, rfl⟩ : ∃ k : Nat, d1 = k := ⟨d1.toNat, by omega⟩
  have dn : (1 + (k : Int)).toNat = k + 1 := by omega
  obtain ⟨ys, S2', e2, w2, l2, q2⟩ := compF_pen (f := fun (x : Nat) S => callN prog (n + 3) i__law_deed none [.ref p, .d (.lst (cs.map .int))] S) (Q := fun _ y => ∃ d, y = deedD d ∧ goodD d) (k := 2) (by decide) (xs := List.range (k + 1)) (acc := []) (fun x hx S bd hp hb => by
    obtain ⟨d, S', e, pt, g, _⟩ := c_ldeed (n := n) hp (by omega) cs1 cs2 cs3
    exact ⟨deedD d, S', e, pt, d, rfl, g⟩) ((p1.pen hl).app (c := .lst (Hs.map handD))) (by simp only [List.length_range]; omega) (by simp only [List.length_nil, List.length_range]; exact Nat.le_trans (show _ ≤ 1000 by omega) (by decide))
  obtain ⟨S2, rfl, p2⟩ := w2.app hl1
  obtain ⟨ds, rfl, g2, l3⟩ := map_of (e := deedD) (G := goodD) (ys := ys) fun y hy => by
    obtain ⟨i, hi, rfl⟩ := List.mem_iff_getElem.mp hy
    exact q2 i i _ (by rw [List.getElem?_range (by rw [l2, List.length_range] at hi; exact hi)]) (List.getElem?_eq_getElem hi)
  have l4 : ds.length = k + 1 := by rw [l3, l2, List.length_range]
  have hl2 : p < S2.length := by rw [p2.len]; exact hl1
  have p12 := p1.trans p2
  have le2 : S2.length = S.length := by rw [p2.len, p1.len]
  have le1 : S1.length = S.length := p1.len
  -- the cut
  have cut : ∃ (c : Nat) (S3 : Store), evE prog (callN prog (n + 3)) none (.ite (.land (.var 3) (.cmp .eq (.call i__law_draw [(.var 0), (.cst (.int 2))] []) (.cst (.int 0)))) (.call i__law_draw [(.var 0), (.bin .add (.bi .len [(.var 9)]) (.cst (.int 1)))] []) (.bi .len [(.var 9)])) [some (.ref p), some (.d (.int hands)), some (.d (.int m)), some (.d (.bl hr)), x4, none, some (.d (.int many)), some (.d (.lst (cs.map .int))), some (.ref S.length), some (.d (.lst (ds.map deedD))), x10, x11] (S2 ++ [.lst (Hs.map handD)]) = .ok (.d (.int c)) (S3 ++ [.lst (Hs.map handD)]) ∧ PenTo ns p S S3 (bd + 40) ∧ c ≤ ds.length ∧ (hr = false → c = ds.length) := by
    cases hr with
    | false =>
      refine ⟨ds.length, S2, ?_, p12.up (by simp only [List.length_range]; omega), Nat.le_refl _, fun _ => rfl⟩
      simp_arith only [List.length_map]
    | true =>
      obtain ⟨d3, S3', e3, w3, d30, d31⟩ := c_draw (n := n + 2) (many := 2) ((p12.pen hl).app (c := .lst (Hs.map handD))) (by simp only [List.length_range]; omega) (by decide) (by decide)
      obtain ⟨S3, rfl, p3⟩ := w3.app hl2
      by_cases z : d3 = 0
      · subst z
        obtain ⟨d4, S4', e4, w4, d40, d41⟩ := c_draw (n := n + 2) (many := ((ds.length : Nat) : Int) + 1) ((p3.pen hl2).app (c := .lst (Hs.map handD))) (by simp only [List.length_range]; omega) (by omega) (by omega)
        obtain ⟨S4, rfl, p4⟩ := w4.app (by rw [p3.len]; exact hl2)
        obtain ⟨c, rfl⟩ : ∃ c : Nat, d4 = c := ⟨d4.toNat, by omega⟩
        refine ⟨c, S4, ?_, ((p12.trans p3).trans p4).up (by simp only [List.length_range]; omega), by omega, nofun⟩
        have z0 : ((0 : Int) == 0) = true := rfl
        simp_arith only [e3, z0, List.length_map, e4]
      · refine ⟨ds.length, S3, ?_, (p12.trans p3).up (by simp only [List.length_range]; omega), Nat.le_refl _, nofun⟩
        have z0 : (d3 == (0 : Int)) = false := by simpa using z
        simp_arith only [e3, z0, List.length_map]
  obtain ⟨c, S3, ec, p3, hc, hc2⟩ := cut
  have le3 : S3.length = S.length := p3.len
  refine ⟨some (.d (.lst (ds.map deedD))), some (.d (.int c)), x11, S3, (ds.take c, ds.drop c), ?_, p3, ⟨fun d hd => g2 d (List.mem_of_mem_take hd), fun d hd => g2 d (List.mem_of_mem_drop hd), ?_, ?_⟩, fun h => ?_⟩
  · have r1 : -16777216 ≤ 1 + (k : Int) ∧ 1 + (k : Int) ≤ 16777216 := by omega
    have e1' := e1
    have t1 : cutD (ds.map deedD) none (some (c : Int)) = (ds.take c).map deedD := by rw [cut_take (by simpa using hc), List.map_take]
    have t2 : cutD (ds.map deedD) (some (c : Int)) none = (ds.drop c).map deedD := by rw [cut_drop (by simpa using hc), List.map_drop]
    have la : lstAt (S3 ++ [.lst (Hs.map handD)]) (.ref S.length) = true := by rw [← le3]; exact lstAt_E
    have ap : ∀ z, bmop .append (.ref S.length) [.d z] (S3 ++ [.lst (Hs.map handD)]) = .ok (.d .non) (S3 ++ [.lst (Hs.map handD ++ [z])]) := fun z => by
      rw [← le3]
      exact app_lstE (by rw [List.length_map]; exact Nat.lt_of_lt_of_le hz (by decide))
    simp only [plainBody, f__law_plain]
    rw [x_cons]
    simp_arith only [e1, dn, e2, ↓ec, la, cut_l, t1, t2, ap]
    rw [← lst1]
    rfl
  · unfold hLen
    simp
    omega
  · unfold hLen
    simp
    omega
  · have := hc2 h
    subst this
    simp
theorem lrng {j : Int} {P : Pg} (h : -16777216 ≤ j ∧ j ≤ 16777216) : biR P .listRange1 [.d (.int j)] S = .ok (.d (.lst ((List.range j.toNat).map fun (i : Nat) => D.int (0 + (i : Nat))))) S := biR_d (xs := [.int j]) rfl (if_pos h)
theorem min_i {i j : Int} {P : Pg} : biR P .min [.d (.int i), .d (.int j)] S = .ok (.d (.int (if j < i then j else i))) S := nr rfl
/-- the hands, one by one -/
theorem plain_loop {hands m : Int} {k : Nat} {hr : Bool} {cs : List Int} (hp : Pen ns p S bd) (hb : bd ≤ 60000) (h1 : 1 ≤ m) (h2 : m ≤ 12) (cs1 : 1 ≤ cs.length) (cs2 : cs.length < 1000000) (cs3 : ∀ c ∈ cs, 0 ≤ c ∧ c ≤ 5) (hk : k ≤ 100) :
    ∃ (x4 x9 x10 x11 : Option Vl) (S' : Store) (Hs : List Hand), forX prog (callN prog (n + 3)) none (.nm 4) plainBody ((List.range k).map fun (i : Nat) => D.int (0 + (i : Nat))) [some (.ref p), some (.d (.int hands)), some (.d (.int m)), some (.d (.bl hr)), none, none, some (.d (.int k)), some (.d (.lst (cs.map .int))), some (.ref S.length), none, none, none] (S ++ [.lst []]) = .nx [some (.ref p), some (.d (.int hands)), some (.d (.int m)), some (.d (.bl hr)), x4, none, some (.d (.int k)), some (.d (.lst (cs.map .int))), some (.ref S.length), x9, x10, x11] (S' ++ [.lst (Hs.map handD)]) ∧ PenTo ns p S S' (bd + 40 * k) ∧ Hs.length = k ∧ (∀ h ∈ Hs, goodH m.toNat h) ∧ (hr = false → ∀ h ∈ Hs, h.2 = []) := by
  have hl := hp.lt
  obtain ⟨ρ', S', e, hI⟩ := forX_inv (P := prog) (cl := callN prog (n + 3)) (th := none) (p := .nm 4) (body := plainBody) (I := fun i ρ T => i ≤ k → ∃ (x4 x9 x10 x11 : Option Vl) (S0 : Store) (Hs : List Hand), ρ = [some (.ref p), some (.d (.int hands)), some (.d (.int m)), some (.d (.bl hr)), x4, none, some (.d (.int k)), some (.d (.lst (cs.map .int))), some (.ref S.length), x9, x10, x11] ∧ T = S0 ++ [.lst (Hs.map handD)] ∧ PenTo ns p S S0 (bd + 40 * i) ∧ Hs.length = i ∧ (∀ h ∈ Hs, goodH m.toNat h) ∧ (hr = false → ∀ h ∈ Hs, h.2 = []))
    (its := (List.range k).map fun (i : Nat) => D.int (0 + (i : Nat))) (k := 0) (ρ := [some (.ref p), some (.d (.int hands)), some (.d (.int m)), some (.d (.bl hr)), none, none, some (.d (.int k)), some (.d (.lst (cs.map .int))), some (.ref S.length), none, none, none]) (S := S ++ [.lst []]) (fun _ => ⟨none, none, none, none, S, [], rfl, rfl, hp.self.up (by omega), rfl, fun h hh => by simp at hh, fun _ h hh => by simp at hh⟩) fun i x hx ρ T hI => by
      have hi : i < k := by
        have := (List.getElem?_eq_some_iff.mp hx).1
        simpa using this
      obtain ⟨x4, x9, x10, x11, S0, Hs, rfl, rfl, i2, i3, i4, i5⟩ := hI (by omega)
      have le : S0.length = S.length := i2.len
      obtain ⟨y9, y10, y11, S1, h, et, pt, g, g2⟩ := plain_turn (n := n) (x4 := some (.d x)) (x9 := x9) (x10 := x10) (x11 := x11) (hands := hands) (m := m) (many := k) (hr := hr) (cs := cs) (Hs := Hs) (i2.pen hl) (by omega) h1 h2 cs1 cs2 cs3 (by omega)
      rw [le] at et
      refine ⟨_, _, .inl ((forT_nm).trans et), fun _ => ⟨some (.d x), y9, y10, y11, S1, Hs ++ [h], rfl, rfl, (i2.trans pt).up (by omega), by simp [i3], fun z hz => ?_, fun q z hz => ?_⟩⟩
      · rcases List.mem_append.mp hz with q | q
        · exact i4 z q
        · rw [List.mem_singleton.mp q]
          exact g
      · rcases List.mem_append.mp hz with r | r
        · exact i5 q z r
        · rw [List.mem_singleton.mp r]
          exact g2 q
  obtain ⟨x4, x9, x10, x11, S0, Hs, rfl, rfl, i2, i3, i4, i5⟩ := hI (by simp)
  simp only [List.length_map, List.length_range, Nat.zero_add] at i2 i3
  exact ⟨x4, x9, x10, x11, S0, Hs, e, i2, i3, i4, i5⟩
theorem c_lplain {hands most : Int} {hr : Bool} (hp : Pen ns p S bd) (hb : bd ≤ 50000) (h1 : 1 ≤ hands) (h2 : hands ≤ 6) (h3 : 1 ≤ most) (h4 : most ≤ 12) : ∃ H T S', callN prog (n + 4) i__law_plain none [.ref p, .d (.int hands), .d (.int most), .d (.bl hr)] S = .ok (.d (plainD H T)) S' ∧ PenTo ns p S S' (bd + 1000) ∧ Good hands.toNat most.toNat H T ∧ (hr = false → ∀ h ∈ H, h.2 = []) := by
  have hl := hp.lt
  obtain ⟨d1, S1, e1, p1, d10, d11⟩ := c_draw (n := n + 2) (many := hands) hp (by omega) h1 (by omega)
  obtain ⟨cd, S2, e2, p2, hcd⟩ := c_pick (n := n + 1) (xs := [.lst [.int 0, .int 1], .lst [.int 0, .int 1], .lst [.int 0, .int 1, .int 2], .lst [.int 3, .int 5], .lst [.int 0]]) (p1.pen hl) (by omega) (by decide) (by decide)
  obtain ⟨cs, rfl, cs1, cs2, cs3⟩ : ∃ cs : List Int, cd = .lst (cs.map .int) ∧ 1 ≤ cs.length ∧ cs.length < 1000000 ∧ ∀ c ∈ cs, 0 ≤ c ∧ c ≤ 5 := by
    simp only [List.mem_cons, List.not_mem_nil, or_false] at hcd
    rcases hcd with rfl | rfl | rfl | rfl | rfl
    · exact ⟨[0, 1], rfl, by decide, by decide, by decide⟩
    · exact ⟨[0, 1], rfl, by decide, by decide, by decide⟩
    · exact ⟨[0, 1, 2], rfl, by decide, by decide, by decide⟩
    · exact ⟨[3, 5], rfl, by decide, by decide, by decide⟩
    · exact ⟨[0], rfl, by decide, by decide, by decide⟩
  have hl2 : p < S2.length := by rw [p2.len, p1.len]; exact hl
  have p12 := p1.trans p2
  obtain ⟨k, hk⟩ : ∃ k : Nat, 1 + d1 = k := ⟨(1 + d1).toNat, by omega⟩
  have kn : ((k : Nat) : Int).toNat = k := Int.toNat_natCast k
  have r1 : -16777216 ≤ ((k : Nat) : Int) ∧ ((k : Nat) : Int) ≤ 16777216 := by omega
  -- how many deeds
  obtain ⟨m, m1, m2, em⟩ : ∃ m : Int, 1 ≤ m ∧ m ≤ most ∧ ∀ S, evE prog (callN prog (n + 3)) none (.ite (.land (.cmp .gt (.var 6) (.cst (.int 3))) (.var 3)) (.bi .min [(.var 2), (.cst (.int 2))]) (.var 2)) [some (.ref p), some (.d (.int hands)), some (.d (.int most)), some (.d (.bl hr)), none, none, some (.d (.int k)), some (.d (.lst (cs.map .int))), none, none, none, none] S = .ok (.d (.int m)) S := by
    by_cases q : (decide ((3 : Int) < k) && hr) = true
    · refine ⟨if (2 : Int) < most then 2 else most, by split <;> omega, by split <;> omega, fun S => ?_⟩
      simp_arith only [q, min_i]
    · have q : (decide ((3 : Int) < k) && hr) = false := by simpa using q
      refine ⟨most, h3, Int.le_refl _, fun S => ?_⟩
      simp_arith only [q]
  obtain ⟨x4, x9, x10, x11, S3, Hs, e3, p3, l3, g3, g4⟩ := plain_loop (n := n) (hands := hands) (m := m) (k := k) (hr := hr) (cs := cs) (p12.pen hl) (by omega) m1 (by omega) cs1 cs2 cs3 (by omega)
  have le3 : S3.length = S2.length := p3.len
  have hl3 : p < S3.length := by omega
  have gd : ∀ h ∈ Hs, goodH most.toNat h := fun h hh => by
    obtain ⟨a1, a2, a3, a4⟩ := g3 h hh
    exact ⟨a1, a2, a3, by omega⟩
  obtain ⟨d5, S5', e5, w5, d50, d51⟩ := c_draw (n := n + 2) (many := 3) ((p3.pen hl2).app (c := .lst (Hs.map handD))) (by omega) (by decide) (by decide)
  obtain ⟨S5, rfl, p5⟩ := w5.app hl3
  have le5 : S5.length = S2.length := by rw [p5.len, le3]
  -- the sites
  obtain ⟨T, S6, e6, p6, l6, g6⟩ : ∃ (T : List Int) (S6 : Store), iteE prog (callN prog (n + 3)) none (decide (0 < d5)) (.bi .listRange1 [.var 6]) (.comp [4] .rng1 [(.var 6)] (.nm 4) none (.call i__law_pick [(.var 0), (.lst [(.cst (.int 0)), (.cst (.int 0)), (.cst (.int 1)), (.cst (.int 2)), (.cst (.int 5))])] [])) [some (.ref p), some (.d (.int hands)), some (.d (.int m)), some (.d (.bl hr)), x4, none, some (.d (.int k)), some (.d (.lst (cs.map .int))), some (.ref S2.length), x9, x10, x11] (S5 ++ [.lst (Hs.map handD)]) = .ok (.d (.lst (T.map .int))) (S6 ++ [.lst (Hs.map handD)]) ∧ PenTo ns p S5 S6 (bd + 900) ∧ T.length = k ∧ ∀ t ∈ T, 0 ≤ t ∧ t ≤ 5 := by
    by_cases z : 0 < d5
    · have z1 : decide (0 < d5) = true := decide_eq_true z
      refine ⟨natI k, S5, ?_, ((p12.trans p3).trans p5).up (by omega) |> fun q => (q.pen hl).self, by simp [natI], fun t ht => ?_⟩
      · rw [z1]
        simp_arith only [lrng, kn, natI, List.map_map]
        simp [Function.comp_def]
      · simp only [natI, List.mem_map, List.mem_range] at ht
        obtain ⟨i, hi, rfl⟩ := ht
        omega
    · have z1 : decide (0 < d5) = false := decide_eq_false z
      obtain ⟨ys, S6', e6, w6, l6, q6⟩ := compF_pen (f := fun (x : Nat) S => callN prog (n + 3) i__law_pick none [.ref p, .d (.lst [.int 0, .int 0, .int 1, .int 2, .int 5])] S) (Q := fun _ y => ∃ t : Int, y = .int t ∧ 0 ≤ t ∧ t ≤ 5) (k := 1) (by decide) (xs := List.range k) (acc := []) (fun x hx S bd hp hb => by
        obtain ⟨y, S', e, pt, g⟩ := c_pick (n := n + 1) (xs := [.int 0, .int 0, .int 1, .int 2, .int 5]) hp (by omega) (by decide) (by decide)
        refine ⟨y, S', e, pt, ?_⟩
        simp only [List.mem_cons, List.not_mem_nil, or_false] at g
        rcases g with rfl | rfl | rfl | rfl | rfl <;> exact ⟨_, rfl, by decide, by decide⟩) ((p5.pen hl3).app (c := .lst (Hs.map handD))) (by simp only [List.length_range]; omega) (by simp only [List.length_nil, List.length_range]; exact Nat.le_trans (show _ ≤ 1000 by omega) (by decide))
      obtain ⟨S6, rfl, p6⟩ := w6.app (by omega)
      obtain ⟨T, rfl, g2, l7⟩ := map_of (e := D.int) (G := fun t => 0 ≤ t ∧ t ≤ 5) (ys := ys) fun y hy => by
        obtain ⟨i, hi, rfl⟩ := List.mem_iff_getElem.mp hy
        exact q6 i i _ (by rw [List.getElem?_range (by rw [l6, List.length_range] at hi; exact hi)]) (List.getElem?_eq_getElem hi)
      refine ⟨T, S6, ?_, p6.up (by simp only [List.length_range]; omega), by rw [l7, l6, List.length_range], g2⟩
      rw [z1]
      simp_arith only [kn, e6]
  refine ⟨Hs, T, S6, ?_, ((p12.trans p3).trans p5).trans p6 |>.up (by omega), ⟨by omega, gd, by omega, g6⟩, g4⟩
  have le6 : S6.length = S2.length := by rw [p6.len, le5]
  have e3' := e3
  simp only [plainBody, f__law_plain] at e3'
  have fz : frz (.ref S2.length) (S6 ++ [.lst (Hs.map handD)]) = .ok (.lst (Hs.map handD)) (S6 ++ [.fz (.lst (Hs.map handD))]) := by
    rw [← le6]
    show (match vw (S6 ++ [Cell.lst (Hs.map handD)]) (.ref S6.length) with
      | some x => Res.ok x ((S6 ++ [Cell.lst (Hs.map handD)]).set S6.length (.fz x))
      | none => .bad) = _
    rw [vw_lstE]
    dsimp only
    rw [set_end]
  have tk : (S6 ++ [Cell.fz (.lst (Hs.map handD))]).take S.length = S6 := by
    rw [show S.length = S6.length by rw [le6, p12.len]]
    exact take_end
  rw [call_e (fd := f__law_plain) rfl rfl]
  simp_arith only [f__law_plain, e1, e2, hk, ↓em, kn, e3', e5, ↓e6, fz, tk, plainD]
end K02
--ev: c_pen

--use: L1, L2, L3, L5
namespace K02
open Wk
open PySem hiding Env
local macro_rules | `(tactic| simp_arith only [$as,*]) => `(tactic| simp (disch := first | assumption | rfl | omega | exact of_decide_eq_true rfl | decide) only [r_var, r_cst, r_glo, r_live, r_bin, r_neg, r_cmp, r_chn, r_land, r_lor, r_lnot, r_ite, r_tup, r_lst, r_tupS, r_lstS, r_dct, r_ix, r_cut, r_fld, r_isi, r_call, r_mk, r_meth, r_bi, r_bm, r_comp, r_comp2, r_ask, r_lnil, r_lcons, r_snil, r_sT, r_sF, r_knil, r_kcons, r_ksnil, r_kscons, r_onone, r_osome, r_cnone, r_csome,
  k_live, k_bin, k_bin2, k_neg, k_cmp, k_cmp2, k_bl, k_nbl, k_chn, k_chn2, k_chn3, ↓chn_t, ↓chn_f, chn_s, k_and, k_or, ↓iteA_t, ↓iteA_f, iteA_s, ↓iteO_t, ↓iteO_f, iteO_s, ↓andR_t, ↓andR_f, andR_b, ↓orR_t, ↓orR_f, orR_b, k_ite, ↓iteE_t, ↓iteE_f, ↓iteS_t, ↓iteS_f, k_tup, k_tup2, k_lst, k_lst2, k_tupS, k_lstS, k_dct, k_ix, k_ix2, k_cut, k_cut2, k_cut3, k_fld, k_isi, k_call, k_call2, k_mk, k_mk2, k_meth, meth_some, k_meth1, k_bi, k_bm, k_bm2, k_cons, k_cons2, k_sx, sx_l, sx_t, k_app, k_sc, k_sc2, k_kc, k_kc2, k_ks, k_o, k_it, k_it2, k_comp, k_comp2,
  varR_ok, gloR_ok, oIntR_i, vw_d', vw_insE, vw_lstE, frzL_nil, frzL_d, frz_d, tst_b, tst_i, tst_exc, liveR_l, add_i, sub_i, mul_i, mod_i, fdiv_i, add_t, add_l, in_s2, in_s3, eq_i, ne_i, eq_b, ne_b, negR_i, lt_i, le_i, gt_i, ge_i, isN_n, notN_n, isT_b, notT_b, len_l, len_t, list_l, list_t, tuple_l, tuple_t, int_i, int_b, abs_i, it_rng, it_l, it_t, it_enl, it_ent, it_zl, it_zt, ofO_some, bind_exc, st_exc, isiR_k, isiK_ok, cut_l, cut_t, ofOd_ok, ix_k, ix_dct, ix_dcti, ix_l, ix_t, lookK_hit, lookK_miss, atI_0, atI_1, atI_2, fldR_lk, fldR_lkE, setFR_E, lkR_ok, lkF_hit, lkF_miss, putF_nil, putF_hit, putF_miss, nonD_n, nonD_b, nonD_i, nonD_s, nonD_t, nonD_l, nonD_d, nonD_o, truD_n, truD_b, truD_i, truD_s, truD_t, truD_l, truD_d, truD_o,
  x_nil, x_cons, x_seq, x_seqr, x_seqe, x_seqb, x_seqc, x_expr, x_asg, x_par, x_setIx, x_setF, x_if, x_for, x_ret, x_retN, x_raise, x_try, x_brk, x_cnt, x_pass, s_drop, s_asg, asgR_nm, s_par, s_si, s_si2, s_si3, s_si4, s_sf, s_sf2, s_sf3, s_if, s_ret, s_raise, s_raise2, s_for, try_ret, try_nx, end_nx, end_ret, end_exc, end_refE, take_upd, take_upd2, take_end, List.take_length, setAll, asgR_tup, ptE_nm, ptE_2, ptE_3, ptC_nm, ptC_2, ptC_3, Wk.wipe, r_compM, r_compN, ↓compM_map, ↓compN_map, r_comp2M, ↓comp2M_map, comp2M_ok, compM_add, compN_add, addR_map, addR_fil, k_in, ptI_nm, ptI_2, inX_nm, inX_2, all_l, any_l, rngD_map, enumD_mapf, nox_ok,
  List.getElem?_cons_zero, List.getElem?_cons_succ, List.map_cons, List.map_nil, List.replicate_succ, List.replicate_zero, List.cons_append, List.nil_append, List.set_cons_zero, List.set_cons_succ, List.zip_cons_cons, List.zip_nil_left, List.zip_nil_right, List.foldl_cons, List.foldl_nil, Option.map_some, Option.map_none, Option.bind_some, Nat.reduceSub, Nat.reduceAdd, decide_true, decide_false, Bool.not_true, Bool.not_false, Bool.and_true, Bool.true_and, Bool.and_false, Bool.false_and, Bool.or_true, Bool.true_or, Bool.or_false, Bool.false_or, reduceCtorEq, q__law_deed_2, q__law_draw_2, q__law_pen_1, q__law_pick_2, q__law_plain_4, q__wall_1, q_fixed_1, q_is_deed_1, q_is_hand_2, q_is_integer_1, q_is_listed_1, q_is_row_3, q_is_within_3, q_need_program_1, q_with_sites_2, q_written_2, q_written_out_2, q_Program_take_4, m_LongProgram_2, m_Program_1, m_Program_2, el_l, el_t, isi_int, isi_bl, isi_str, isi_lt, c_is_integer, c_is_within, c_is_listed, c_is_row, c_is_deed, c_is_hand, o_hands, o_sites, o_many, o_heads, o_texts, o_lengths, o_places, o_straight, gl_READ, gl_WRITE, gl_TURN, gl_MOST_HANDS, gl_MOST_DEEDS, gl_MOST_CELL, gl_MOST_SITE, gl_MOST_PASSES, $as,*])
variable {n : Nat} {S : Store} {H : List Hand} {T : List Int}
theorem hLen_le {m many : Nat} (g : Good many m H T) (hm : m ≤ 1000) {h : Hand} (hh : h ∈ H) : h.1.length + h.2.length ≤ 1000 := by
  have := (g.hd h hh).2.2.2
  unfold hLen at this
  omega
theorem lenH_ok {m many : Nat} (g : Good many m H T) (hm : many ≤ 1000) : H.length ≤ sizeLine := Nat.le_trans (Nat.le_trans g.le.2 hm) (by decide)
theorem app_text {a b : List Deed} : List.map deedD a ++ List.map deedD b = (a ++ b).map deedD := by rw [List.map_append]
end K02

--use: L1, L2, L3, L5
namespace K02
open Wk
open PySem hiding Env
local macro_rules | `(tactic| simp_arith only [$as,*]) => `(tactic| simp (disch := first | assumption | rfl | omega | exact of_decide_eq_true rfl | decide) only [r_var, r_cst, r_glo, r_live, r_bin, r_neg, r_cmp, r_chn, r_land, r_lor, r_lnot, r_ite, r_tup, r_lst, r_tupS, r_lstS, r_dct, r_ix, r_cut, r_fld, r_isi, r_call, r_mk, r_meth, r_bi, r_bm, r_comp, r_comp2, r_ask, r_lnil, r_lcons, r_snil, r_sT, r_sF, r_knil, r_kcons, r_ksnil, r_kscons, r_onone, r_osome, r_cnone, r_csome,
  k_live, k_bin, k_bin2, k_neg, k_cmp, k_cmp2, k_bl, k_nbl, k_chn, k_chn2, k_chn3, ↓chn_t, ↓chn_f, chn_s, k_and, k_or, ↓iteA_t, ↓iteA_f, iteA_s, ↓iteO_t, ↓iteO_f, iteO_s, ↓andR_t, ↓andR_f, andR_b, ↓orR_t, ↓orR_f, orR_b, k_ite, ↓iteE_t, ↓iteE_f, ↓iteS_t, ↓iteS_f, k_tup, k_tup2, k_lst, k_lst2, k_tupS, k_lstS, k_dct, k_ix, k_ix2, k_cut, k_cut2, k_cut3, k_fld, k_isi, k_call, k_call2, k_mk, k_mk2, k_meth, meth_some, k_meth1, k_bi, k_bm, k_bm2, k_cons, k_cons2, k_sx, sx_l, sx_t, k_app, k_sc, k_sc2, k_kc, k_kc2, k_ks, k_o, k_it, k_it2, k_comp, k_comp2,
  varR_ok, gloR_ok, oIntR_i, vw_d', vw_insE, vw_lstE, frzL_nil, frzL_d, frz_d, tst_b, tst_i, tst_exc, liveR_l, add_i, sub_i, mul_i, mod_i, fdiv_i, add_t, add_l, in_s2, in_s3, eq_i, ne_i, eq_b, ne_b, negR_i, lt_i, le_i, gt_i, ge_i, isN_n, notN_n, isT_b, notT_b, len_l, len_t, list_l, list_t, tuple_l, tuple_t, int_i, int_b, abs_i, it_rng, it_l, it_t, it_enl, it_ent, it_zl, it_zt, ofO_some, bind_exc, st_exc, isiR_k, isiK_ok, cut_l, cut_t, ofOd_ok, ix_k, ix_dct, ix_dcti, ix_l, ix_t, lookK_hit, lookK_miss, atI_0, atI_1, atI_2, fldR_lk, fldR_lkE, setFR_E, lkR_ok, lkF_hit, lkF_miss, putF_nil, putF_hit, putF_miss, nonD_n, nonD_b, nonD_i, nonD_s, nonD_t, nonD_l, nonD_d, nonD_o, truD_n, truD_b, truD_i, truD_s, truD_t, truD_l, truD_d, truD_o,
  x_nil, x_cons, x_seq, x_seqr, x_seqe, x_seqb, x_seqc, x_expr, x_asg, x_par, x_setIx, x_setF, x_if, x_for, x_ret, x_retN, x_raise, x_try, x_brk, x_cnt, x_pass, s_drop, s_asg, asgR_nm, s_par, s_si, s_si2, s_si3, s_si4, s_sf, s_sf2, s_sf3, s_if, s_ret, s_raise, s_raise2, s_for, try_ret, try_nx, end_nx, end_ret, end_exc, end_refE, take_upd, take_upd2, take_end, List.take_length, setAll, asgR_tup, ptE_nm, ptE_2, ptE_3, ptC_nm, ptC_2, ptC_3, Wk.wipe, r_compM, r_compN, ↓compM_map, ↓compN_map, r_comp2M, ↓comp2M_map, comp2M_ok, compM_add, compN_add, addR_map, addR_fil, k_in, ptI_nm, ptI_2, inX_nm, inX_2, all_l, any_l, rngD_map, enumD_mapf, nox_ok,
  List.getElem?_cons_zero, List.getElem?_cons_succ, List.map_cons, List.map_nil, List.replicate_succ, List.replicate_zero, List.cons_append, List.nil_append, List.set_cons_zero, List.set_cons_succ, List.zip_cons_cons, List.zip_nil_left, List.zip_nil_right, List.foldl_cons, List.foldl_nil, Option.map_some, Option.map_none, Option.bind_some, Nat.reduceSub, Nat.reduceAdd, decide_true, decide_false, Bool.not_true, Bool.not_false, Bool.and_true, Bool.true_and, Bool.and_false, Bool.false_and, Bool.or_true, Bool.true_or, Bool.or_false, Bool.false_or, reduceCtorEq, q__law_deed_2, q__law_draw_2, q__law_pen_1, q__law_pick_2, q__law_plain_4, q__wall_1, q_fixed_1, q_is_deed_1, q_is_hand_2, q_is_integer_1, q_is_listed_1, q_is_row_3, q_is_within_3, q_need_program_1, q_with_sites_2, q_written_2, q_written_out_2, q_Program_take_4, m_LongProgram_2, m_Program_1, m_Program_2, el_l, el_t, isi_int, isi_bl, isi_str, isi_lt, c_is_integer, c_is_within, c_is_listed, c_is_row, c_is_deed, c_is_hand, o_hands, o_sites, o_many, o_heads, o_texts, o_lengths, o_places, o_straight, gl_READ, gl_WRITE, gl_TURN, gl_MOST_HANDS, gl_MOST_DEEDS, gl_MOST_CELL, gl_MOST_SITE, gl_MOST_PASSES, $as,*])
variable {n : Nat} {S : Store} {H : List Hand} {T : List Int}
def prgC (c : Nat) (H : List Hand) (T : List Int) : D := .ins c (prgV H (T.map .int))
theorem prgC_P : prgC c_Program H T = prgD H T := rfl
theorem fld_prg {f : Nat} (h : f ∈ [n_hands, n_sites, n_many, n_heads, n_texts, n_lengths, n_places, n_is_straight]) : fldOk prog c_Program f = true := okP h
theorem c_need_program {c : Nat} (hc : isiA prog (.ins c (prgV H (T.map .int))) [.cls c_Program] = some true) : callN prog (n + 1) i_need_program none [.d (prgC c H T)] S = .ok (.d .non) S := by
  rw [call_e (fd := f_need_program) rfl rfl]
  simp_arith only [f_need_program, prgC, hc]
theorem c_with_sites {x : D} {V : List D} (t : Takes (.tup (H.map handD)) x 12 6 H V) : callN prog (n + 11) i_with_sites none [.d (prgD H T), .d x] S = .ok (.d (.ins c_Program (prgV H V))) S := by
  rw [call_e (fd := f_with_sites) rfl rfl]
  have e : ∀ S, mkM prog (callN prog (n + 10)) c_Program [.ref S.length, .d (.tup (H.map handD)), .d x] S = .ok (.d (.ins c_Program (prgV H V))) S := fun S => mk_Program t
  have q : ∀ S, callN prog (n + 10) i_need_program none [.d (.ins c_Program (prgV H (T.map .int)))] S = .ok (.d .non) S := fun S => c_need_program (n := n + 9) (c := c_Program) (isi_prg rfl)
  simp_arith only [f_with_sites, prgD, q, e]
theorem okL {f : Nat} (h : f ∈ [n_hands, n_sites, n_many, n_heads, n_texts, n_lengths, n_places, n_is_straight]) : fldOk prog c_LongProgram f = true := by
  simp only [List.mem_cons, List.not_mem_nil, or_false] at h
  rcases h with rfl | rfl | rfl | rfl | rfl | rfl | rfl | rfl <;> rfl
theorem meth_takeL : methOf prog n_take (some (.ins c_LongProgram [])) = some i_Program_take := nr rfl
theorem mk_LongProgram {hs ss : D} {V : List D} (t : Takes hs ss 48 6 H V) : mkM prog (callN prog (n + 10)) c_LongProgram [.ref S.length, .d hs, .d ss] S = .ok (.d (.ins c_LongProgram (prgV H V))) S := by
  refine mkM_of (f := i_LongProgram___init__) rfl ?_
  rw [call_e (fd := f_LongProgram___init__) rfl rfl]
  have e : ∀ x, callN prog (n + 9) i_Program_take none [.ref S.length, .d hs, .d ss, .d (.int (12 * 4)), .d (.int 6)] (S ++ [.ins c_LongProgram []]) = x → x = .ok (.d .non) (S ++ [.ins c_LongProgram (prgV H V)]) := fun x h => by
    rw [← h]
    exact t.take (n := n + 1) fun f h => okL h
  have e := e _ rfl
  have b : -(2 : Int) ^ 64 < 12 ∧ (12 : Int) < 2 ^ 64 := by decide
  have b2 : (-(2 : Int) ^ 64 < 12 ∧ (12 : Int) < 2 ^ 64) ∨ (-(2 : Int) ^ 64 < 4 ∧ (4 : Int) < 2 ^ 64) := .inl b
  simp_arith only [f_LongProgram___init__, meth_takeL, e]
theorem isi_long {fs : List (Nat × D)} : isiA prog (.ins c_LongProgram fs) [.cls c_Program] = some true := by rfl
theorem isi_c {c : Nat} {fs : List (Nat × D)} (hc : c = c_Program ∨ c = c_LongProgram) : isiA prog (.ins c fs) [.cls c_Program] = some true := by
  rcases hc with rfl | rfl <;> rfl
theorem okC {c f : Nat} (hc : c = c_Program ∨ c = c_LongProgram) (h : f ∈ [n_hands, n_sites, n_many, n_heads, n_texts, n_lengths, n_places, n_is_straight]) : fldOk prog c f = true := by
  rcases hc with rfl | rfl
  · exact okP h
  · exact okL h
def rep {α : Type} (k : Nat) (t : List α) : List α := (List.replicate k t).flatten
def outH (k : Nat) (h : Hand) : Hand := (h.1 ++ rep k h.2, [])
theorem rep_map {α β : Type} {f : α → β} {k : Nat} {t : List α} : rep k (t.map f) = (rep k t).map f := by
  unfold rep
  induction k with
  | zero => rfl
  | succ k ih => rw [List.replicate_succ, List.replicate_succ, List.flatten_cons, List.flatten_cons, List.map_append, ih]
theorem rep_len {α : Type} {k : Nat} {t : List α} : (rep k t).length = k * t.length := by
  unfold rep
  induction k with
  | zero => simp
  | succ k ih => rw [List.replicate_succ, List.flatten_cons, List.length_append, ih, Nat.succ_mul]; omega
theorem rep_mem {α : Type} {k : Nat} {t : List α} {x : α} (h : x ∈ rep k t) : x ∈ t := by
  unfold rep at h
  rw [List.mem_flatten] at h
  obtain ⟨l, hl, hx⟩ := h
  rw [(List.mem_replicate.mp hl).2] at hx
  exact hx
theorem mul_tk {t : List Deed} {k : Nat} (h1 : 1 ≤ k) (h2 : k ≤ 100) (h3 : t.length ≤ 1000) : binR .mul (.d (.tup (t.map deedD))) (.d (.int k)) S = .ok (.d (.tup ((rep k t).map deedD))) S := by
  refine binR_d ((if_pos ⟨by omega, by omega, by simpa using h3⟩).trans ?_)
  rw [← rep_map, Int.toNat_natCast]
  rfl
theorem outH_good {m k : Nat} {h : Hand} (g : goodH m h) (hk : 1 ≤ k) : goodH (m * k) (outH k h) := by
  obtain ⟨g1, g2, g3, g4⟩ := g
  unfold hLen at g3 g4
  have e : k * (h.1.length + h.2.length) ≤ k * m := Nat.mul_le_mul_left k g4
  have e2 : h.1.length ≤ k * h.1.length := Nat.le_mul_of_pos_left _ hk
  have e3 : h.2.length ≤ k * h.2.length := Nat.le_mul_of_pos_left _ hk
  rw [Nat.mul_add] at e
  have e4 : m * k = k * m := Nat.mul_comm _ _
  refine ⟨fun d hd => ?_, fun d hd => by simp [outH] at hd, ?_, ?_⟩
  · rcases List.mem_append.mp hd with q | q
    · exact g1 d q
    · exact g2 d (rep_mem q)
  · simp only [hLen, outH, List.length_append, rep_len, List.length_nil]
    omega
  · simp only [hLen, outH, List.length_append, rep_len, List.length_nil]
    omega
theorem strt_out {k : Nat} : strt (H.map (outH k)) = true := by
  unfold strt
  rw [List.all_map]
  simp [outH]
/-- a program written out -/
def wrtC (c : Nat) (H : List Hand) : Nat := if strt H then c else c_LongProgram
def wrtH (H : List Hand) (k : Nat) : List Hand := if strt H then H else H.map (outH k)
theorem c_written {c m k : Nat} (hc : c = c_Program ∨ c = c_LongProgram) (g : Good 6 m H T) (hm : m ≤ 12) (h1 : 1 ≤ k) (h2 : k ≤ 4) : callN prog (n + 11) i_written none [.d (prgC c H T), .d (.int k)] S = .ok (.d (prgC (wrtC c H) (wrtH H k) T)) S := by
  rw [call_e (fd := f_written) rfl rfl]
  have o1 := okC (f := n_is_straight) hc (by simp)
  have o2 := okC (f := n_hands) hc (by simp)
  have o3 := okC (f := n_sites) hc (by simp)
  by_cases hs : strt H = true
  · have w1 : wrtC c H = c := if_pos hs
    have w2 : wrtH H k = H := if_pos hs
    simp_arith only [f_written, prgC, hs, w1, w2]
  · have hs : strt H = false := by simpa using hs
    have w1 : wrtC c H = c_LongProgram := if_neg (by rw [hs]; exact Bool.false_ne_true)
    have w2 : wrtH H k = H.map (outH k) := if_neg (by rw [hs]; exact Bool.false_ne_true)
    have hz : H.length ≤ sizeLine := Nat.le_trans g.le.2 (by decide)
    have s := sites_row (m := H.length) (ss := .tup (T.map .int)) g.len (by have := g.le.2; omega) g.si (.inr rfl)
    have g48 : ∀ h ∈ H.map (outH k), goodH 48 h := fun x hx => by
      obtain ⟨h, hh, rfl⟩ := List.mem_map.mp hx
      have gg := outH_good (g.hd h hh) h1
      have : m * k ≤ 12 * 4 := Nat.mul_le_mul hm h2
      exact ⟨gg.1, gg.2.1, gg.2.2.1, by have := gg.2.2.2; omega⟩
    have t := takes_of (e := handD) (H := H.map (outH k)) (m := 48) (many := 6) (hs := .lst ((H.map (outH k)).map handD)) (ss := .tup (T.map .int)) (by omega) (by omega) g48 (fun h hh => hlk_D (by omega) (g48 h hh)) (by simpa using g.le.1) (by simpa using g.le.2) (.inl rfl) s.1 (by simpa using s.2.1) (by simpa using s.2.2)
    rw [List.map_map] at t
    have e : ∀ S, mkM prog (callN prog (n + 10)) c_LongProgram [.ref S.length, .d (.lst (H.map (handD ∘ outH k))), .d (.tup (T.map .int))] S = .ok (.d (prgC c_LongProgram (H.map (outH k)) T)) S := fun S => mk_LongProgram t
    have e1 : ∀ h ∈ H, ∀ S, binR .mul (.d (.tup (h.2.map deedD))) (.d (.int k)) S = .ok (.d (.tup ((rep k h.2).map deedD))) S := fun h hh S => mul_tk h1 (by omega) (by
      have := hLen_le g (by omega) hh
      omega)
    have e2 : ∀ h ∈ H, ∀ S, (Res.ok (List.map deedD h.1 ++ List.map deedD (rep k h.2)) S).bind kTupS = .ok (.d (.tup (List.map deedD h.1 ++ List.map deedD (rep k h.2)))) S := fun h hh S => by
      have := hLen_le g (by omega) hh
      have q : k * h.2.length ≤ 4 * 1000 := Nat.mul_le_mul h2 (by omega)
      exact k_tupS (by
        simp only [List.length_append, List.length_map, rep_len]
        exact Nat.le_trans (show _ ≤ 5000 by omega) (by decide))
    have e3 : ∀ h ∈ H, D.tup [.tup (List.map deedD h.1 ++ List.map deedD (rep k h.2)), .tup []] = (handD ∘ outH k) h := fun h _ => by
      simp [handD, outH, textD]
    simp_arith only [f_written, prgC, hs, w1, w2, handD_e, textD_e, e1, e2, List.append_nil, e3, e]
theorem c_written_out {c m k : Nat} (hc : c = c_Program ∨ c = c_LongProgram) (g : Good 6 m H T) (hm : m ≤ 12) (h1 : 1 ≤ k) (h2 : k ≤ 4) : callN prog (n + 12) i_written_out none [.d (prgC c H T), .d (.int k)] S = .ok (.d (prgC (wrtC c H) (wrtH H k) T)) S := by
  rw [call_e (fd := f_written_out) rfl rfl]
  have q : ∀ S, callN prog (n + 11) i_need_program none [.d (prgC c H T)] S = .ok (.d .non) S := fun S => c_need_program (n := n + 10) (c := c) (isi_c hc)
  have w : ∀ S, callN prog (n + 11) i_written none [.d (prgC c H T), .d (.int k)] S = .ok (.d (prgC (wrtC c H) (wrtH H k) T)) S := fun S => c_written hc g hm h1 h2
  have i : inI (.int k) 1 4 = true := by simp [inI]; omega
  simp_arith only [f_written_out, q, w, i]
end K02

--use: L1, L2, L3, L4, L5
namespace K02
open Wk
open PySem hiding Env
local macro_rules | `(tactic| simp_arith only [$as,*]) => `(tactic| simp (disch := first | assumption | rfl | omega | exact of_decide_eq_true rfl | decide) only [r_var, r_cst, r_glo, r_live, r_bin, r_neg, r_cmp, r_chn, r_land, r_lor, r_lnot, r_ite, r_tup, r_lst, r_tupS, r_lstS, r_dct, r_ix, r_cut, r_fld, r_isi, r_call, r_mk, r_meth, r_bi, r_bm, r_comp, r_comp2, r_ask, r_lnil, r_lcons, r_snil, r_sT, r_sF, r_knil, r_kcons, r_ksnil, r_kscons, r_onone, r_osome, r_cnone, r_csome,
  k_live, k_bin, k_bin2, k_neg, k_cmp, k_cmp2, k_bl, k_nbl, k_chn, k_chn2, k_chn3, ↓chn_t, ↓chn_f, chn_s, k_and, k_or, ↓iteA_t, ↓iteA_f, iteA_s, ↓iteO_t, ↓iteO_f, iteO_s, ↓andR_t, ↓andR_f, andR_b, ↓orR_t, ↓orR_f, orR_b, k_ite, ↓iteE_t, ↓iteE_f, ↓iteS_t, ↓iteS_f, k_tup, k_tup2, k_lst, k_lst2, k_tupS, k_lstS, k_dct, k_ix, k_ix2, k_cut, k_cut2, k_cut3, k_fld, k_isi, k_call, k_call2, k_mk, k_mk2, k_meth, meth_some, k_meth1, k_bi, k_bm, k_bm2, k_cons, k_cons2, k_sx, sx_l, sx_t, k_app, k_sc, k_sc2, k_kc, k_kc2, k_ks, k_o, k_it, k_it2, k_comp, k_comp2,
  varR_ok, gloR_ok, oIntR_i, vw_d', vw_insE, vw_lstE, frzL_nil, frzL_d, frz_d, tst_b, tst_i, tst_exc, liveR_l, add_i, sub_i, mul_i, mod_i, fdiv_i, add_t, add_l, in_s2, in_s3, eq_i, ne_i, eq_b, ne_b, negR_i, lt_i, le_i, gt_i, ge_i, isN_n, notN_n, isT_b, notT_b, len_l, len_t, list_l, list_t, tuple_l, tuple_t, int_i, int_b, abs_i, it_rng, it_l, it_t, it_enl, it_ent, it_zl, it_zt, ofO_some, bind_exc, st_exc, isiR_k, isiK_ok, cut_l, cut_t, ofOd_ok, ix_k, ix_dct, ix_dcti, ix_l, ix_t, lookK_hit, lookK_miss, atI_0, atI_1, atI_2, fldR_lk, fldR_lkE, setFR_E, lkR_ok, lkF_hit, lkF_miss, putF_nil, putF_hit, putF_miss, nonD_n, nonD_b, nonD_i, nonD_s, nonD_t, nonD_l, nonD_d, nonD_o, truD_n, truD_b, truD_i, truD_s, truD_t, truD_l, truD_d, truD_o,
  x_nil, x_cons, x_seq, x_seqr, x_seqe, x_seqb, x_seqc, x_expr, x_asg, x_par, x_setIx, x_setF, x_if, x_for, x_ret, x_retN, x_raise, x_try, x_brk, x_cnt, x_pass, s_drop, s_asg, asgR_nm, s_par, s_si, s_si2, s_si3, s_si4, s_sf, s_sf2, s_sf3, s_if, s_ret, s_raise, s_raise2, s_for, try_ret, try_nx, end_nx, end_ret, end_exc, end_refE, take_upd, take_upd2, take_end, List.take_length, setAll, asgR_tup, ptE_nm, ptE_2, ptE_3, ptC_nm, ptC_2, ptC_3, Wk.wipe, r_compM, r_compN, ↓compM_map, ↓compN_map, r_comp2M, ↓comp2M_map, comp2M_ok, compM_add, compN_add, addR_map, addR_fil, k_in, ptI_nm, ptI_2, inX_nm, inX_2, all_l, any_l, rngD_map, enumD_mapf, nox_ok,
  List.getElem?_cons_zero, List.getElem?_cons_succ, List.map_cons, List.map_nil, List.replicate_succ, List.replicate_zero, List.cons_append, List.nil_append, List.set_cons_zero, List.set_cons_succ, List.zip_cons_cons, List.zip_nil_left, List.zip_nil_right, List.foldl_cons, List.foldl_nil, Option.map_some, Option.map_none, Option.bind_some, Nat.reduceSub, Nat.reduceAdd, decide_true, decide_false, Bool.not_true, Bool.not_false, Bool.and_true, Bool.true_and, Bool.and_false, Bool.false_and, Bool.or_true, Bool.true_or, Bool.or_false, Bool.false_or, reduceCtorEq, q__law_deed_2, q__law_draw_2, q__law_pen_1, q__law_pick_2, q__law_plain_4, q__wall_1, q_fixed_1, q_is_deed_1, q_is_hand_2, q_is_integer_1, q_is_listed_1, q_is_row_3, q_is_within_3, q_need_program_1, q_with_sites_2, q_written_2, q_written_out_2, q_Program_take_4, m_LongProgram_2, m_Program_1, m_Program_2, el_l, el_t, isi_int, isi_bl, isi_str, isi_lt, c_is_integer, c_is_within, c_is_listed, c_is_row, c_is_deed, c_is_hand, o_hands, o_sites, o_many, o_heads, o_texts, o_lengths, o_places, o_straight, gl_READ, gl_WRITE, gl_TURN, gl_MOST_HANDS, gl_MOST_DEEDS, gl_MOST_CELL, gl_MOST_SITE, gl_MOST_PASSES, $as,*])
variable {n : Nat} {S : Store}
def badX (w : String) : Exn := ⟨x_BadProgram, [(n_part, .str w)]⟩
theorem raise_prog {w : String} {ρ : Env} : raiseR prog x_BadProgram [.str w] ρ S = .exc (badX w) ρ S := nr rfl
/-- take refuses the hands -/
theorem c_take_hands {c : Nat} {hs ss : D} {most many : Int} (oh : okr hs = true) (hb : (isRw hs 1 many && (elems hs).all fun h => isHand h most) = false) :
    callN prog (n + 8) i_Program_take none [.ref S.length, .d hs, .d ss, .d (.int most), .d (.int many)] (S ++ [.ins c []]) = .exc (badX "hands") (S ++ [.ins c []]) := by
  have hv := okr_v oh
  have he := okr_elems oh
  have hz := small_ok he.1
  have c1 : ∀ y ∈ elems hs, ∀ S, callN prog (n + 7) i_is_hand none [.d y, .d (.int most)] S = .ok (.d (.bl (isHand y most))) S := fun y hy S => c_is_hand (n := n + 3) (he.2 y hy)
  rw [call_e (fd := f_Program_take) rfl rfl]
  by_cases h1 : isRw hs 1 many = true
  · have hL := isL_rw h1
    have h2 : (elems hs).all (fun h => isHand h most) = false := by simpa [h1] using hb
    simp_arith only [f_Program_take, h1, hL, it_el, len_el, c1, h2, raise_prog, sbind_exc, st_exc, bind_exc, end_exc, List.take_length]
  · have h1 : isRw hs 1 many = false := by simpa using h1
    simp_arith only [f_Program_take, h1, raise_prog, sbind_exc, st_exc, bind_exc, end_exc, List.take_length]
/-- take refuses the sites -/
theorem c_take_sites {c : Nat} {hs ss : D} {most many : Int} (oh : okr hs = true) (os : okr ss = true) (h1 : isRw hs 1 many = true) (h2 : (elems hs).all (fun h => isHand h most) = true) (h3 : sitesOk ss (elems hs).length = false) :
    callN prog (n + 8) i_Program_take none [.ref S.length, .d hs, .d ss, .d (.int most), .d (.int many)] (S ++ [.ins c []]) = .exc (badX "sites") (S ++ [.ins c []]) := by
  have hv := okr_v oh
  have hv2 := okr_v os
  have he := okr_elems oh
  have hz := small_ok he.1
  have hL := isL_rw h1
  have c1 : ∀ y ∈ elems hs, ∀ S, callN prog (n + 7) i_is_hand none [.d y, .d (.int most)] S = .ok (.d (.bl (isHand y most))) S := fun y hy S => c_is_hand (n := n + 3) (he.2 y hy)
  have es := okr_elems os
  have hzs := small_ok es.1
  have c2 : ∀ y ∈ elems ss, ∀ S, callN prog (n + 7) i_is_within none [.d y, .d (.int 0), .d (.int 5)] S = .ok (.d (.bl (inI y 0 5))) S := fun y hy S => c_is_within (n := n + 5) (okr_v (es.2 y hy))
  rw [call_e (fd := f_Program_take) rfl rfl]
  have hs0 : isNon ss = false := by
    unfold sitesOk at h3
    simp only [Bool.or_eq_false_iff] at h3
    exact h3.1
  rw [sitesOk, hs0, Bool.false_or] at h3
  by_cases h4 : isRw ss (elems hs).length (elems hs).length = true
  · have hL2 := isL_rw h4
    have h5 : (elems ss).all (fun y => inI y 0 5) = false := by simpa [h4] using h3
    simp_arith only [f_Program_take, h1, hL, it_el, len_el, c1, h2, hs0, h4, hL2, c2, h5, raise_prog, sbind_exc, st_exc, bind_exc, end_exc, List.take_length]
  · have h4 : isRw ss (elems hs).length (elems hs).length = false := by simpa using h4
    simp_arith only [f_Program_take, h1, hL, it_el, len_el, c1, h2, hs0, h4, raise_prog, sbind_exc, st_exc, bind_exc, end_exc, List.take_length]
/-- what Program refuses, and by which word -/
inductive Bars (hs ss : D) (most many : Int) : String → Prop
  | hands : (isRw hs 1 many && (elems hs).all fun h => isHand h most) = false → Bars hs ss most many "hands"
  | sites : isRw hs 1 many = true → (elems hs).all (fun h => isHand h most) = true → sitesOk ss (elems hs).length = false → Bars hs ss most many "sites"
theorem Bars.take {c : Nat} {hs ss : D} {most many : Int} {w : String} (b : Bars hs ss most many w) (oh : okr hs = true) (os : okr ss = true) :
    callN prog (n + 8) i_Program_take none [.ref S.length, .d hs, .d ss, .d (.int most), .d (.int many)] (S ++ [.ins c []]) = .exc (badX w) (S ++ [.ins c []]) := by
  cases b with
  | hands h => exact c_take_hands oh h
  | sites h1 h2 h3 => exact c_take_sites oh os h1 h2 h3
/-- Program(hands, sites), refused -/
theorem mk_Program_bad {hs ss : D} {w : String} (b : Bars hs ss 12 6 w) (oh : okr hs = true) (os : okr ss = true) : mkM prog (callN prog (n + 10)) c_Program [.ref S.length, .d hs, .d ss] S = .exc (badX w) (S ++ [.ins c_Program []]) := by
  refine mkM_exc (f := i_Program___init__) rfl ?_
  rw [call_e (fd := f_Program___init__) rfl rfl]
  have e : ∀ x, callN prog (n + 9) i_Program_take none [.ref S.length, .d hs, .d ss, .d (.int 12), .d (.int 6)] (S ++ [.ins c_Program []]) = x → x = .exc (badX w) (S ++ [.ins c_Program []]) := fun x h => by
    rw [← h]
    exact b.take (n := n + 1) oh os
  have e := e _ rfl
  simp_arith only [f_Program___init__, meth_take, e, sbind_exc, st_exc, bind_exc, end_exc, List.take_length]
/-- what is no Program -/
def isNp (x : D) : Bool := match x with
  | .ins _ _ => false
  | .exn _ _ => false
  | .scr _ => false
  | _ => true
theorem c_need_bad {x : D} (h : isNp x = true) : callN prog (n + 1) i_need_program none [.d x] S = .exc (badX "program") S := by
  rw [call_e (fd := f_need_program) rfl rfl]
  have hc : isiA prog x [.cls c_Program] = some false := isi_np h
  simp_arith only [f_need_program, hc, raise_prog, sbind_exc, st_exc, bind_exc, end_exc, List.take_length]
theorem c_with_sites_bad {x y : D} (h : isNp x = true) : callN prog (n + 2) i_with_sites none [.d x, .d y] S = .exc (badX "program") S := by
  rw [call_e (fd := f_with_sites) rfl rfl]
  have q : ∀ S, callN prog (n + 1) i_need_program none [.d x] S = .exc (badX "program") S := fun S => c_need_bad h
  simp_arith only [f_with_sites, q, sbind_exc, st_exc, bind_exc, end_exc, List.take_length]
theorem c_written_out_bad {x y : D} (h : isNp x = true) : callN prog (n + 2) i_written_out none [.d x, .d y] S = .exc (badX "program") S := by
  rw [call_e (fd := f_written_out) rfl rfl]
  have q : ∀ S, callN prog (n + 1) i_need_program none [.d x] S = .exc (badX "program") S := fun S => c_need_bad h
  simp_arith only [f_written_out, q, sbind_exc, st_exc, bind_exc, end_exc, List.take_length]
theorem raise_num {w : String} {ρ : Env} : raiseR prog x_BadNumber [.str w] ρ S = .exc ⟨x_BadNumber, [(n_part, .str w)]⟩ ρ S := nr rfl
theorem c_written_out_num {c : Nat} {H : List Hand} {T : List Int} {y : D} (hc : c = c_Program ∨ c = c_LongProgram) (oy : okv y = true) (h : inI y 1 4 = false) : callN prog (n + 12) i_written_out none [.d (prgC c H T), .d y] S = .exc ⟨x_BadNumber, [(n_part, .str "passes")]⟩ S := by
  rw [call_e (fd := f_written_out) rfl rfl]
  have q : ∀ S, callN prog (n + 11) i_need_program none [.d (prgC c H T)] S = .ok (.d .non) S := fun S => c_need_program (n := n + 10) (c := c) (isi_c hc)
  have w : ∀ S, callN prog (n + 11) i_is_within none [.d y, .d (.int 1), .d (.int 4)] S = .ok (.d (.bl (inI y 1 4))) S := fun S => c_is_within (n := n + 9) oy
  simp_arith only [f_written_out, q, w, h, raise_num, sbind_exc, st_exc, bind_exc, end_exc, List.take_length]
end K02

--use: L1, L2, L3, L4, L5
namespace K02
open Wk
open PySem hiding Env
local macro_rules | `(tactic| simp_arith only [$as,*]) => `(tactic| simp (disch := first | assumption | rfl | omega | exact of_decide_eq_true rfl | decide) only [r_var, r_cst, r_glo, r_live, r_bin, r_neg, r_cmp, r_chn, r_land, r_lor, r_lnot, r_ite, r_tup, r_lst, r_tupS, r_lstS, r_dct, r_ix, r_cut, r_fld, r_isi, r_call, r_mk, r_meth, r_bi, r_bm, r_comp, r_comp2, r_ask, r_lnil, r_lcons, r_snil, r_sT, r_sF, r_knil, r_kcons, r_ksnil, r_kscons, r_onone, r_osome, r_cnone, r_csome,
  k_live, k_bin, k_bin2, k_neg, k_cmp, k_cmp2, k_bl, k_nbl, k_chn, k_chn2, k_chn3, ↓chn_t, ↓chn_f, chn_s, k_and, k_or, ↓iteA_t, ↓iteA_f, iteA_s, ↓iteO_t, ↓iteO_f, iteO_s, ↓andR_t, ↓andR_f, andR_b, ↓orR_t, ↓orR_f, orR_b, k_ite, ↓iteE_t, ↓iteE_f, ↓iteS_t, ↓iteS_f, k_tup, k_tup2, k_lst, k_lst2, k_tupS, k_lstS, k_dct, k_ix, k_ix2, k_cut, k_cut2, k_cut3, k_fld, k_isi, k_call, k_call2, k_mk, k_mk2, k_meth, meth_some, k_meth1, k_bi, k_bm, k_bm2, k_cons, k_cons2, k_sx, sx_l, sx_t, k_app, k_sc, k_sc2, k_kc, k_kc2, k_ks, k_o, k_it, k_it2, k_comp, k_comp2,
  varR_ok, gloR_ok, oIntR_i, vw_d', vw_insE, vw_lstE, frzL_nil, frzL_d, frz_d, tst_b, tst_i, tst_exc, liveR_l, add_i, sub_i, mul_i, mod_i, fdiv_i, add_t, add_l, in_s2, in_s3, eq_i, ne_i, eq_b, ne_b, negR_i, lt_i, le_i, gt_i, ge_i, isN_n, notN_n, isT_b, notT_b, len_l, len_t, list_l, list_t, tuple_l, tuple_t, int_i, int_b, abs_i, it_rng, it_l, it_t, it_enl, it_ent, it_zl, it_zt, ofO_some, bind_exc, st_exc, isiR_k, isiK_ok, cut_l, cut_t, ofOd_ok, ix_k, ix_dct, ix_dcti, ix_l, ix_t, lookK_hit, lookK_miss, atI_0, atI_1, atI_2, fldR_lk, fldR_lkE, setFR_E, lkR_ok, lkF_hit, lkF_miss, putF_nil, putF_hit, putF_miss, nonD_n, nonD_b, nonD_i, nonD_s, nonD_t, nonD_l, nonD_d, nonD_o, truD_n, truD_b, truD_i, truD_s, truD_t, truD_l, truD_d, truD_o,
  x_nil, x_cons, x_seq, x_seqr, x_seqe, x_seqb, x_seqc, x_expr, x_asg, x_par, x_setIx, x_setF, x_if, x_for, x_ret, x_retN, x_raise, x_try, x_brk, x_cnt, x_pass, s_drop, s_asg, asgR_nm, s_par, s_si, s_si2, s_si3, s_si4, s_sf, s_sf2, s_sf3, s_if, s_ret, s_raise, s_raise2, s_for, try_ret, try_nx, end_nx, end_ret, end_exc, end_refE, take_upd, take_upd2, take_end, List.take_length, setAll, asgR_tup, ptE_nm, ptE_2, ptE_3, ptC_nm, ptC_2, ptC_3, Wk.wipe, r_compM, r_compN, ↓compM_map, ↓compN_map, r_comp2M, ↓comp2M_map, comp2M_ok, compM_add, compN_add, addR_map, addR_fil, k_in, ptI_nm, ptI_2, inX_nm, inX_2, all_l, any_l, rngD_map, enumD_mapf, nox_ok,
  List.getElem?_cons_zero, List.getElem?_cons_succ, List.map_cons, List.map_nil, List.replicate_succ, List.replicate_zero, List.cons_append, List.nil_append, List.set_cons_zero, List.set_cons_succ, List.zip_cons_cons, List.zip_nil_left, List.zip_nil_right, List.foldl_cons, List.foldl_nil, Option.map_some, Option.map_none, Option.bind_some, Nat.reduceSub, Nat.reduceAdd, decide_true, decide_false, Bool.not_true, Bool.not_false, Bool.and_true, Bool.true_and, Bool.and_false, Bool.false_and, Bool.or_true, Bool.true_or, Bool.or_false, Bool.false_or, reduceCtorEq, q__law_deed_2, q__law_draw_2, q__law_pen_1, q__law_pick_2, q__law_plain_4, q__wall_1, q_fixed_1, q_is_deed_1, q_is_hand_2, q_is_integer_1, q_is_listed_1, q_is_row_3, q_is_within_3, q_need_program_1, q_with_sites_2, q_written_2, q_written_out_2, q_Program_take_4, m_LongProgram_2, m_Program_1, m_Program_2, el_l, el_t, isi_int, isi_bl, isi_str, isi_lt, c_is_integer, c_is_within, c_is_listed, c_is_row, c_is_deed, c_is_hand, o_hands, o_sites, o_many, o_heads, o_texts, o_lengths, o_places, o_straight, gl_READ, gl_WRITE, gl_TURN, gl_MOST_HANDS, gl_MOST_DEEDS, gl_MOST_CELL, gl_MOST_SITE, gl_MOST_PASSES, $as,*])
variable {n : Nat} {S : Store}
/-- _law_heard: what was found -/
theorem c_heard_ok {x : D} : callN prog (n + 1) i__law_heard none [.d x, .d .non] S = .ok (.d (.lst [x])) S := by
  rw [call_h (fd := f__law_heard) rfl rfl rfl]
  simp_arith only [f__law_heard, isNon]
/-- .. a part that is refused: the kind's word, the part -/
theorem c_heard_value {x : D} : callN prog (n + 1) i__law_heard none [.d .non, .d (.exn x_BadValue [(n_part, x)])] S = .ok (.d (.tup [.str "value", x])) S := by
  rw [call_h (fd := f__law_heard) rfl rfl rfl]
  have i1 : isiA prog (.exn x_BadValue [(n_part, x)]) [.exc x_TooMany] = some false := rfl
  have i2 : isiA prog (.exn x_BadValue [(n_part, x)]) [.exc x_BadPair] = some false := rfl
  have i3 : isiA prog (.exn x_BadValue [(n_part, x)]) [.exc x_BadStep] = some false := rfl
  have i4 : isiA prog (.exn x_BadValue [(n_part, x)]) [.exc x_BadText] = some false := rfl
  have i5 : isiA prog (.exn x_BadValue [(n_part, x)]) [.exc x_BadWord, .exc x_Nothing] = some false := rfl
  have i6 : isiA prog (.exn x_BadValue [(n_part, x)]) [.exc x_BadValue] = some true := rfl
  have i7 : isiA prog (.exn x_BadValue [(n_part, x)]) [.exc x_BadNumber] = some false := rfl
  have i8 : isiA prog (.exn x_BadValue [(n_part, x)]) [.exc x_BadProgram] = some false := rfl
  have i9 : isiA prog (.exn x_BadValue [(n_part, x)]) [.exc x_BadRule] = some false := rfl
  have i10 : isiA prog (.exn x_BadValue [(n_part, x)]) [.exc x_BadLog] = some false := rfl
  have i11 : isiA prog (.exn x_BadValue [(n_part, x)]) [.exc x_Misfit] = some false := rfl
  simp_arith only [f__law_heard, isNon, i1, i2, i3, i4, i5, i6, i7, i8, i9, i10, i11]
  have hl : lstAt (S ++ [Cell.lst [D.bl true, D.bl false, D.bl false, D.bl false, D.bl false, D.bl false]]) (.ref S.length) = true := by simp [lstAt]
  have hc : bmop .count (.ref S.length) [.d (.bl true)] (S ++ [Cell.lst [D.bl true, D.bl false, D.bl false, D.bl false, D.bl false, D.bl false]]) = .ok (.d (.int 1)) (S ++ [Cell.lst [D.bl true, D.bl false, D.bl false, D.bl false, D.bl false, D.bl false]]) := by simp [bmop, blsOf]
  have hi : bmop .index (.ref S.length) [.d (.bl true)] (S ++ [Cell.lst [D.bl true, D.bl false, D.bl false, D.bl false, D.bl false, D.bl false]]) = .ok (.d (.int 0)) (S ++ [Cell.lst [D.bl true, D.bl false, D.bl false, D.bl false, D.bl false, D.bl false]]) := by simp [bmop, blsOf, List.findIdx?_cons]
  have hf : ∀ S, fldR prog n_part (.d (.exn x_BadValue [(n_part, x)])) S = .ok (.d x) S := fun S => rfl
  have he : ((1 : Int) == 1) = true := rfl
  have hx : ∀ S, ixR (.d (.lst [.str "value", .str "number", .str "program", .str "rule", .str "log", .str "misfit"])) (.d (.int 0)) S = .ok (.d (.str "value")) S := fun S => rfl
  simp_arith only [hl, hc, hi, hf, he, hx, List.take_left]
/-- .. a part that is refused: the kind's word, the part -/
theorem c_heard_number {x : D} : callN prog (n + 1) i__law_heard none [.d .non, .d (.exn x_BadNumber [(n_part, x)])] S = .ok (.d (.tup [.str "number", x])) S := by
  rw [call_h (fd := f__law_heard) rfl rfl rfl]
  have i1 : isiA prog (.exn x_BadNumber [(n_part, x)]) [.exc x_TooMany] = some false := rfl
  have i2 : isiA prog (.exn x_BadNumber [(n_part, x)]) [.exc x_BadPair] = some false := rfl
  have i3 : isiA prog (.exn x_BadNumber [(n_part, x)]) [.exc x_BadStep] = some false := rfl
  have i4 : isiA prog (.exn x_BadNumber [(n_part, x)]) [.exc x_BadText] = some false := rfl
  have i5 : isiA prog (.exn x_BadNumber [(n_part, x)]) [.exc x_BadWord, .exc x_Nothing] = some false := rfl
  have i6 : isiA prog (.exn x_BadNumber [(n_part, x)]) [.exc x_BadValue] = some false := rfl
  have i7 : isiA prog (.exn x_BadNumber [(n_part, x)]) [.exc x_BadNumber] = some true := rfl
  have i8 : isiA prog (.exn x_BadNumber [(n_part, x)]) [.exc x_BadProgram] = some false := rfl
  have i9 : isiA prog (.exn x_BadNumber [(n_part, x)]) [.exc x_BadRule] = some false := rfl
  have i10 : isiA prog (.exn x_BadNumber [(n_part, x)]) [.exc x_BadLog] = some false := rfl
  have i11 : isiA prog (.exn x_BadNumber [(n_part, x)]) [.exc x_Misfit] = some false := rfl
  simp_arith only [f__law_heard, isNon, i1, i2, i3, i4, i5, i6, i7, i8, i9, i10, i11]
  have hl : lstAt (S ++ [Cell.lst [D.bl false, D.bl true, D.bl false, D.bl false, D.bl false, D.bl false]]) (.ref S.length) = true := by simp [lstAt]
  have hc : bmop .count (.ref S.length) [.d (.bl true)] (S ++ [Cell.lst [D.bl false, D.bl true, D.bl false, D.bl false, D.bl false, D.bl false]]) = .ok (.d (.int 1)) (S ++ [Cell.lst [D.bl false, D.bl true, D.bl false, D.bl false, D.bl false, D.bl false]]) := by simp [bmop, blsOf]
  have hi : bmop .index (.ref S.length) [.d (.bl true)] (S ++ [Cell.lst [D.bl false, D.bl true, D.bl false, D.bl false, D.bl false, D.bl false]]) = .ok (.d (.int 1)) (S ++ [Cell.lst [D.bl false, D.bl true, D.bl false, D.bl false, D.bl false, D.bl false]]) := by simp [bmop, blsOf, List.findIdx?_cons]
  have hf : ∀ S, fldR prog n_part (.d (.exn x_BadNumber [(n_part, x)])) S = .ok (.d x) S := fun S => rfl
  have he : ((1 : Int) == 1) = true := rfl
  have hx : ∀ S, ixR (.d (.lst [.str "value", .str "number", .str "program", .str "rule", .str "log", .str "misfit"])) (.d (.int 1)) S = .ok (.d (.str "number")) S := fun S => rfl
  simp_arith only [hl, hc, hi, hf, he, hx, List.take_left]
/-- .. a part that is refused: the kind's word, the part -/
theorem c_heard_program {x : D} : callN prog (n + 1) i__law_heard none [.d .non, .d (.exn x_BadProgram [(n_part, x)])] S = .ok (.d (.tup [.str "program", x])) S := by
  rw [call_h (fd := f__law_heard) rfl rfl rfl]
  have i1 : isiA prog (.exn x_BadProgram [(n_part, x)]) [.exc x_TooMany] = some false := rfl
  have i2 : isiA prog (.exn x_BadProgram [(n_part, x)]) [.exc x_BadPair] = some false := rfl
  have i3 : isiA prog (.exn x_BadProgram [(n_part, x)]) [.exc x_BadStep] = some false := rfl
  have i4 : isiA prog (.exn x_BadProgram [(n_part, x)]) [.exc x_BadText] = some false := rfl
  have i5 : isiA prog (.exn x_BadProgram [(n_part, x)]) [.exc x_BadWord, .exc x_Nothing] = some false := rfl
  have i6 : isiA prog (.exn x_BadProgram [(n_part, x)]) [.exc x_BadValue] = some false := rfl
  have i7 : isiA prog (.exn x_BadProgram [(n_part, x)]) [.exc x_BadNumber] = some false := rfl
  have i8 : isiA prog (.exn x_BadProgram [(n_part, x)]) [.exc x_BadProgram] = some true := rfl
  have i9 : isiA prog (.exn x_BadProgram [(n_part, x)]) [.exc x_BadRule] = some false := rfl
  have i10 : isiA prog (.exn x_BadProgram [(n_part, x)]) [.exc x_BadLog] = some false := rfl
  have i11 : isiA prog (.exn x_BadProgram [(n_part, x)]) [.exc x_Misfit] = some false := rfl
  simp_arith only [f__law_heard, isNon, i1, i2, i3, i4, i5, i6, i7, i8, i9, i10, i11]
  have hl : lstAt (S ++ [Cell.lst [D.bl false, D.bl false, D.bl true, D.bl false, D.bl false, D.bl false]]) (.ref S.length) = true := by simp [lstAt]
  have hc : bmop .count (.ref S.length) [.d (.bl true)] (S ++ [Cell.lst [D.bl false, D.bl false, D.bl true, D.bl false, D.bl false, D.bl false]]) = .ok (.d (.int 1)) (S ++ [Cell.lst [D.bl false, D.bl false, D.bl true, D.bl false, D.bl false, D.bl false]]) := by simp [bmop, blsOf]
  have hi : bmop .index (.ref S.length) [.d (.bl true)] (S ++ [Cell.lst [D.bl false, D.bl false, D.bl true, D.bl false, D.bl false, D.bl false]]) = .ok (.d (.int 2)) (S ++ [Cell.lst [D.bl false, D.bl false, D.bl true, D.bl false, D.bl false, D.bl false]]) := by simp [bmop, blsOf, List.findIdx?_cons]
  have hf : ∀ S, fldR prog n_part (.d (.exn x_BadProgram [(n_part, x)])) S = .ok (.d x) S := fun S => rfl
  have he : ((1 : Int) == 1) = true := rfl
  have hx : ∀ S, ixR (.d (.lst [.str "value", .str "number", .str "program", .str "rule", .str "log", .str "misfit"])) (.d (.int 2)) S = .ok (.d (.str "program")) S := fun S => rfl
  simp_arith only [hl, hc, hi, hf, he, hx, List.take_left]
/-- .. a part that is refused: the kind's word, the part -/
theorem c_heard_rule {x : D} : callN prog (n + 1) i__law_heard none [.d .non, .d (.exn x_BadRule [(n_part, x)])] S = .ok (.d (.tup [.str "rule", x])) S := by
  rw [call_h (fd := f__law_heard) rfl rfl rfl]
  have i1 : isiA prog (.exn x_BadRule [(n_part, x)]) [.exc x_TooMany] = some false := rfl
  have i2 : isiA prog (.exn x_BadRule [(n_part, x)]) [.exc x_BadPair] = some false := rfl
  have i3 : isiA prog (.exn x_BadRule [(n_part, x)]) [.exc x_BadStep] = some false := rfl
  have i4 : isiA prog (.exn x_BadRule [(n_part, x)]) [.exc x_BadText] = some false := rfl
  have i5 : isiA prog (.exn x_BadRule [(n_part, x)]) [.exc x_BadWord, .exc x_Nothing] = some false := rfl
  have i6 : isiA prog (.exn x_BadRule [(n_part, x)]) [.exc x_BadValue] = some false := rfl
  have i7 : isiA prog (.exn x_BadRule [(n_part, x)]) [.exc x_BadNumber] = some false := rfl
  have i8 : isiA prog (.exn x_BadRule [(n_part, x)]) [.exc x_BadProgram] = some false := rfl
  have i9 : isiA prog (.exn x_BadRule [(n_part, x)]) [.exc x_BadRule] = some true := rfl
  have i10 : isiA prog (.exn x_BadRule [(n_part, x)]) [.exc x_BadLog] = some false := rfl
  have i11 : isiA prog (.exn x_BadRule [(n_part, x)]) [.exc x_Misfit] = some false := rfl
  simp_arith only [f__law_heard, isNon, i1, i2, i3, i4, i5, i6, i7, i8, i9, i10, i11]
  have hl : lstAt (S ++ [Cell.lst [D.bl false, D.bl false, D.bl false, D.bl true, D.bl false, D.bl false]]) (.ref S.length) = true := by simp [lstAt]
  have hc : bmop .count (.ref S.length) [.d (.bl true)] (S ++ [Cell.lst [D.bl false, D.bl false, D.bl false, D.bl true, D.bl false, D.bl false]]) = .ok (.d (.int 1)) (S ++ [Cell.lst [D.bl false, D.bl false, D.bl false, D.bl true, D.bl false, D.bl false]]) := by simp [bmop, blsOf]
  have hi : bmop .index (.ref S.length) [.d (.bl true)] (S ++ [Cell.lst [D.bl false, D.bl false, D.bl false, D.bl true, D.bl false, D.bl false]]) = .ok (.d (.int 3)) (S ++ [Cell.lst [D.bl false, D.bl false, D.bl false, D.bl true, D.bl false, D.bl false]]) := by simp [bmop, blsOf, List.findIdx?_cons]
  have hf : ∀ S, fldR prog n_part (.d (.exn x_BadRule [(n_part, x)])) S = .ok (.d x) S := fun S => rfl
  have he : ((1 : Int) == 1) = true := rfl
  have hx : ∀ S, ixR (.d (.lst [.str "value", .str "number", .str "program", .str "rule", .str "log", .str "misfit"])) (.d (.int 3)) S = .ok (.d (.str "rule")) S := fun S => rfl
  simp_arith only [hl, hc, hi, hf, he, hx, List.take_left]
/-- .. a part that is refused: the kind's word, the part -/
theorem c_heard_log {x : D} : callN prog (n + 1) i__law_heard none [.d .non, .d (.exn x_BadLog [(n_part, x)])] S = .ok (.d (.tup [.str "log", x])) S := by
  rw [call_h (fd := f__law_heard) rfl rfl rfl]
  have i1 : isiA prog (.exn x_BadLog [(n_part, x)]) [.exc x_TooMany] = some false := rfl
  have i2 : isiA prog (.exn x_BadLog [(n_part, x)]) [.exc x_BadPair] = some false := rfl
  have i3 : isiA prog (.exn x_BadLog [(n_part, x)]) [.exc x_BadStep] = some false := rfl
  have i4 : isiA prog (.exn x_BadLog [(n_part, x)]) [.exc x_BadText] = some false := rfl
  have i5 : isiA prog (.exn x_BadLog [(n_part, x)]) [.exc x_BadWord, .exc x_Nothing] = some false := rfl
  have i6 : isiA prog (.exn x_BadLog [(n_part, x)]) [.exc x_BadValue] = some false := rfl
  have i7 : isiA prog (.exn x_BadLog [(n_part, x)]) [.exc x_BadNumber] = some false := rfl
  have i8 : isiA prog (.exn x_BadLog [(n_part, x)]) [.exc x_BadProgram] = some false := rfl
  have i9 : isiA prog (.exn x_BadLog [(n_part, x)]) [.exc x_BadRule] = some false := rfl
  have i10 : isiA prog (.exn x_BadLog [(n_part, x)]) [.exc x_BadLog] = some true := rfl
  have i11 : isiA prog (.exn x_BadLog [(n_part, x)]) [.exc x_Misfit] = some false := rfl
  simp_arith only [f__law_heard, isNon, i1, i2, i3, i4, i5, i6, i7, i8, i9, i10, i11]
  have hl : lstAt (S ++ [Cell.lst [D.bl false, D.bl false, D.bl false, D.bl false, D.bl true, D.bl false]]) (.ref S.length) = true := by simp [lstAt]
  have hc : bmop .count (.ref S.length) [.d (.bl true)] (S ++ [Cell.lst [D.bl false, D.bl false, D.bl false, D.bl false, D.bl true, D.bl false]]) = .ok (.d (.int 1)) (S ++ [Cell.lst [D.bl false, D.bl false, D.bl false, D.bl false, D.bl true, D.bl false]]) := by simp [bmop, blsOf]
  have hi : bmop .index (.ref S.length) [.d (.bl true)] (S ++ [Cell.lst [D.bl false, D.bl false, D.bl false, D.bl false, D.bl true, D.bl false]]) = .ok (.d (.int 4)) (S ++ [Cell.lst [D.bl false, D.bl false, D.bl false, D.bl false, D.bl true, D.bl false]]) := by simp [bmop, blsOf, List.findIdx?_cons]
  have hf : ∀ S, fldR prog n_part (.d (.exn x_BadLog [(n_part, x)])) S = .ok (.d x) S := fun S => rfl
  have he : ((1 : Int) == 1) = true := rfl
  have hx : ∀ S, ixR (.d (.lst [.str "value", .str "number", .str "program", .str "rule", .str "log", .str "misfit"])) (.d (.int 4)) S = .ok (.d (.str "log")) S := fun S => rfl
  simp_arith only [hl, hc, hi, hf, he, hx, List.take_left]
/-- .. a part that is refused: the kind's word, the part -/
theorem c_heard_misfit {x : D} : callN prog (n + 1) i__law_heard none [.d .non, .d (.exn x_Misfit [(n_part, x)])] S = .ok (.d (.tup [.str "misfit", x])) S := by
  rw [call_h (fd := f__law_heard) rfl rfl rfl]
  have i1 : isiA prog (.exn x_Misfit [(n_part, x)]) [.exc x_TooMany] = some false := rfl
  have i2 : isiA prog (.exn x_Misfit [(n_part, x)]) [.exc x_BadPair] = some false := rfl
  have i3 : isiA prog (.exn x_Misfit [(n_part, x)]) [.exc x_BadStep] = some false := rfl
  have i4 : isiA prog (.exn x_Misfit [(n_part, x)]) [.exc x_BadText] = some false := rfl
  have i5 : isiA prog (.exn x_Misfit [(n_part, x)]) [.exc x_BadWord, .exc x_Nothing] = some false := rfl
  have i6 : isiA prog (.exn x_Misfit [(n_part, x)]) [.exc x_BadValue] = some false := rfl
  have i7 : isiA prog (.exn x_Misfit [(n_part, x)]) [.exc x_BadNumber] = some false := rfl
  have i8 : isiA prog (.exn x_Misfit [(n_part, x)]) [.exc x_BadProgram] = some false := rfl
  have i9 : isiA prog (.exn x_Misfit [(n_part, x)]) [.exc x_BadRule] = some false := rfl
  have i10 : isiA prog (.exn x_Misfit [(n_part, x)]) [.exc x_BadLog] = some false := rfl
  have i11 : isiA prog (.exn x_Misfit [(n_part, x)]) [.exc x_Misfit] = some true := rfl
  simp_arith only [f__law_heard, isNon, i1, i2, i3, i4, i5, i6, i7, i8, i9, i10, i11]
  have hl : lstAt (S ++ [Cell.lst [D.bl false, D.bl false, D.bl false, D.bl false, D.bl false, D.bl true]]) (.ref S.length) = true := by simp [lstAt]
  have hc : bmop .count (.ref S.length) [.d (.bl true)] (S ++ [Cell.lst [D.bl false, D.bl false, D.bl false, D.bl false, D.bl false, D.bl true]]) = .ok (.d (.int 1)) (S ++ [Cell.lst [D.bl false, D.bl false, D.bl false, D.bl false, D.bl false, D.bl true]]) := by simp [bmop, blsOf]
  have hi : bmop .index (.ref S.length) [.d (.bl true)] (S ++ [Cell.lst [D.bl false, D.bl false, D.bl false, D.bl false, D.bl false, D.bl true]]) = .ok (.d (.int 5)) (S ++ [Cell.lst [D.bl false, D.bl false, D.bl false, D.bl false, D.bl false, D.bl true]]) := by simp [bmop, blsOf, List.findIdx?_cons]
  have hf : ∀ S, fldR prog n_part (.d (.exn x_Misfit [(n_part, x)])) S = .ok (.d x) S := fun S => rfl
  have he : ((1 : Int) == 1) = true := rfl
  have hx : ∀ S, ixR (.d (.lst [.str "value", .str "number", .str "program", .str "rule", .str "log", .str "misfit"])) (.d (.int 5)) S = .ok (.d (.str "misfit")) S := fun S => rfl
  simp_arith only [hl, hc, hi, hf, he, hx, List.take_left]
end K02

--use: L1, L2, L3, L4, L5, L7, L9, R1, R2
namespace K02
open Wk
open PySem hiding Env
local macro_rules | `(tactic| simp_arith only [$as,*]) => `(tactic| simp (disch := first | assumption | rfl | omega | exact of_decide_eq_true rfl | decide) only [r_var, r_cst, r_glo, r_live, r_bin, r_neg, r_cmp, r_chn, r_land, r_lor, r_lnot, r_ite, r_tup, r_lst, r_tupS, r_lstS, r_dct, r_ix, r_cut, r_fld, r_isi, r_call, r_mk, r_meth, r_bi, r_bm, r_comp, r_comp2, r_ask, r_lnil, r_lcons, r_snil, r_sT, r_sF, r_knil, r_kcons, r_ksnil, r_kscons, r_onone, r_osome, r_cnone, r_csome,
  k_live, k_bin, k_bin2, k_neg, k_cmp, k_cmp2, k_bl, k_nbl, k_chn, k_chn2, k_chn3, ↓chn_t, ↓chn_f, chn_s, k_and, k_or, ↓iteA_t, ↓iteA_f, iteA_s, ↓iteO_t, ↓iteO_f, iteO_s, ↓andR_t, ↓andR_f, andR_b, ↓orR_t, ↓orR_f, orR_b, k_ite, ↓iteE_t, ↓iteE_f, ↓iteS_t, ↓iteS_f, k_tup, k_tup2, k_lst, k_lst2, k_tupS, k_lstS, k_dct, k_ix, k_ix2, k_cut, k_cut2, k_cut3, k_fld, k_isi, k_call, k_call2, k_mk, k_mk2, k_meth, meth_some, k_meth1, k_bi, k_bm, k_bm2, k_cons, k_cons2, k_sx, sx_l, sx_t, k_app, k_sc, k_sc2, k_kc, k_kc2, k_ks, k_o, k_it, k_it2, k_comp, k_comp2,
  varR_ok, gloR_ok, oIntR_i, vw_d', vw_insE, vw_lstE, frzL_nil, frzL_d, frz_d, tst_b, tst_i, tst_exc, liveR_l, add_i, sub_i, mul_i, mod_i, fdiv_i, add_t, add_l, in_s2, in_s3, eq_i, ne_i, eq_b, ne_b, negR_i, lt_i, le_i, gt_i, ge_i, isN_n, notN_n, isT_b, notT_b, len_l, len_t, list_l, list_t, tuple_l, tuple_t, int_i, int_b, abs_i, it_rng, it_l, it_t, it_enl, it_ent, it_zl, it_zt, ofO_some, bind_exc, st_exc, isiR_k, isiK_ok, cut_l, cut_t, ofOd_ok, ix_k, ix_dct, ix_dcti, ix_l, ix_t, lookK_hit, lookK_miss, atI_0, atI_1, atI_2, fldR_lk, fldR_lkE, setFR_E, lkR_ok, lkF_hit, lkF_miss, putF_nil, putF_hit, putF_miss, nonD_n, nonD_b, nonD_i, nonD_s, nonD_t, nonD_l, nonD_d, nonD_o, truD_n, truD_b, truD_i, truD_s, truD_t, truD_l, truD_d, truD_o,
  x_nil, x_cons, x_seq, x_seqr, x_seqe, x_seqb, x_seqc, x_expr, x_asg, x_par, x_setIx, x_setF, x_if, x_for, x_ret, x_retN, x_raise, x_try, x_brk, x_cnt, x_pass, s_drop, s_asg, asgR_nm, s_par, s_si, s_si2, s_si3, s_si4, s_sf, s_sf2, s_sf3, s_if, s_ret, s_raise, s_raise2, s_for, try_ret, try_nx, end_nx, end_ret, end_exc, end_refE, take_upd, take_upd2, take_end, List.take_length, setAll, asgR_tup, ptE_nm, ptE_2, ptE_3, ptC_nm, ptC_2, ptC_3, Wk.wipe, r_compM, r_compN, ↓compM_map, ↓compN_map, r_comp2M, ↓comp2M_map, comp2M_ok, compM_add, compN_add, addR_map, addR_fil, k_in, ptI_nm, ptI_2, inX_nm, inX_2, all_l, any_l, rngD_map, enumD_mapf, nox_ok,
  List.getElem?_cons_zero, List.getElem?_cons_succ, List.map_cons, List.map_nil, List.replicate_succ, List.replicate_zero, List.cons_append, List.nil_append, List.set_cons_zero, List.set_cons_succ, List.zip_cons_cons, List.zip_nil_left, List.zip_nil_right, List.foldl_cons, List.foldl_nil, Option.map_some, Option.map_none, Option.bind_some, Nat.reduceSub, Nat.reduceAdd, decide_true, decide_false, Bool.not_true, Bool.not_false, Bool.and_true, Bool.true_and, Bool.and_false, Bool.false_and, Bool.or_true, Bool.true_or, Bool.or_false, Bool.false_or, reduceCtorEq, q__law_deed_2, q__law_draw_2, q__law_pen_1, q__law_pick_2, q__law_plain_4, q__wall_1, q_fixed_1, q_is_deed_1, q_is_hand_2, q_is_integer_1, q_is_listed_1, q_is_row_3, q_is_within_3, q_need_program_1, q_with_sites_2, q_written_2, q_written_out_2, q_Program_take_4, m_LongProgram_2, m_Program_1, m_Program_2, el_l, el_t, isi_int, isi_bl, isi_str, isi_lt, c_is_integer, c_is_within, c_is_listed, c_is_row, c_is_deed, c_is_hand, o_hands, o_sites, o_many, o_heads, o_texts, o_lengths, o_places, o_straight, c_pen, gl_READ, gl_WRITE, gl_TURN, gl_MOST_HANDS, gl_MOST_DEEDS, gl_MOST_CELL, gl_MOST_SITE, gl_MOST_PASSES, $as,*])
variable {n : Nat} {S : Store} {H : List Hand} {T : List Int} {ns : List Int}
def deed0 : D := .tup [.str "read", .int 0]
def badL : List D := [.non, .int 5, .str "hands", .tup [], .dct [], .lst [.non], .lst [.tup []], .lst [.tup [.lst [], .lst []]], .lst [.tup [.lst [deed0], .lst [], .lst []]], .lst [.tup [.lst [deed0]]], .lst [.tup [.lst (List.replicate 12 deed0), .lst [deed0]]], .lst (List.replicate 7 (.tup [.lst [deed0], .lst []])), .lst [.tup [deed0, .lst []]], .lst [.tup [.lst [.tup [.str "read", .int 6]], .lst []]],
  .lst [.tup [.lst [.tup [.str "look", .int 0]], .lst []]], .lst [.tup [.lst [.tup [.str "read", .int (-1)]], .lst []]], .lst [.tup [.lst [.tup [.str "read", .bl true]], .lst []]], .lst [.tup [.lst [.tup [.str "read"]], .lst []]], .lst [.tup [.lst [.tup [.str "read", .int 0, .int 0]], .lst []]],
  .lst [.tup [.lst [.non], .lst []]], .lst [.tup [.lst [deed0], .non]], .lst [.tup [.str "read", .lst []]], .lst [.tup [.lst [.tup [.str "turn", .str "0"]], .lst []]]]
theorem bad_all : badL.all (fun x => okr x && (!(isRw x 1 6 && (elems x).all fun h => isHand h 12) && !isHand x 12)) = true := by decide +kernel
theorem bad_of {x : D} (h : x ∈ badL) : okr x = true ∧ (isRw x 1 6 && (elems x).all fun h => isHand h 12) = false ∧ isHand x 12 = false := by
  have := List.all_eq_true.mp bad_all x h
  rwa [Bool.and_eq_true, Bool.and_eq_true, Bool.not_eq_true', Bool.not_eq_true'] at this
def sitL (m : Nat) : List D := [.int 5, .str "0", .tup [], .lst (List.replicate (m + 1) (.int 0)), .lst (List.replicate m (.int 6)), .lst (List.replicate m (.int (-1))), .lst (List.replicate m (.bl true)), .lst (List.replicate m .non), .lst (List.replicate m (.str "0")), .dct []]
theorem okr_rep {m : Nat} {x : D} (hm : m ≤ 1000) (h : okr x = true) : okr (.lst (List.replicate m x)) = true := okr_lst' (by rw [List.length_replicate]; omega) fun y hy => by
  rw [(List.mem_replicate.mp hy).2]
  exact h
theorem sit_of {x : D} {m : Nat} (hm : 1 ≤ m ∧ m ≤ 100) (h : x ∈ sitL m) : okr x = true ∧ sitesOk x m = false := by
  have m0 : m ≠ 0 := by omega
  have r : ∀ y : D, inI y 0 5 = false → sitesOk (.lst (List.replicate m y)) m = false := fun y hy => by
    simp [sitesOk, isNon, elems, List.all_replicate, m0, hy]
  simp only [sitL, List.mem_cons, List.not_mem_nil, or_false] at h
  rcases h with rfl | rfl | rfl | rfl | rfl | rfl | rfl | rfl | rfl | rfl
  · exact ⟨rfl, rfl⟩
  · exact ⟨rfl, rfl⟩
  · refine ⟨rfl, ?_⟩
    simp [sitesOk, isNon, elems, isRw, isL]
    omega
  · refine ⟨okr_rep (by omega) rfl, ?_⟩
    simp [sitesOk, isNon, elems, isRw, isL]
    omega
  · exact ⟨okr_rep (by omega) rfl, r _ rfl⟩
  · exact ⟨okr_rep (by omega) rfl, r _ rfl⟩
  · exact ⟨okr_rep (by omega) rfl, r _ rfl⟩
  · exact ⟨okr_rep (by omega) rfl, r _ rfl⟩
  · exact ⟨okr_rep (by omega) rfl, r _ rfl⟩
  · exact ⟨rfl, rfl⟩
theorem c_with_sites_ref {x : D} {w : String} (b : Bars (.tup (H.map handD)) x 12 6 w) (oh : okr (.tup (H.map handD)) = true) (os : okr x = true) : callN prog (n + 11) i_with_sites none [.d (prgD H T), .d x] S = .exc (badX w) S := by
  rw [call_e (fd := f_with_sites) rfl rfl]
  have e : ∀ S, mkM prog (callN prog (n + 10)) c_Program [.ref S.length, .d (.tup (H.map handD)), .d x] S = .exc (badX w) (S ++ [.ins c_Program []]) := fun S => mk_Program_bad b oh os
  have q : ∀ S, callN prog (n + 10) i_need_program none [.d (.ins c_Program (prgV H (T.map .int)))] S = .ok (.d .non) S := fun S => c_need_program (n := n + 9) (c := c_Program) (isi_prg rfl)
  simp_arith only [f_with_sites, prgD, q, e]
theorem heard_prog {w : String} : hearM prog (callN prog (n + 1) i__law_heard none) (.exc (badX w) S) = .ok (.d (.tup [.str "program", .str w])) S := by
  rw [badX, hear_exc (k := _) rfl]
  exact c_heard_program
theorem heard_num {w : String} : hearM prog (callN prog (n + 1) i__law_heard none) (.exc ⟨x_BadNumber, [(n_part, .str w)]⟩ S) = .ok (.d (.tup [.str "number", .str w])) S := by
  rw [hear_exc (k := _) rfl]
  exact c_heard_number
abbrev Cp : Cell := .ins c_Program []
theorem plain (ns : List Int) (hn : ns.length ≤ 63) : ∃ S, callN prog 27 i_law none [.d (.scr ns)] [] = .ok (.d (.bl true)) S := by
  have cp : callN prog 26 i__law_pen none [.d (.scr ns)] [] = .ok (.ref 0) [.lst [.lst (ns.map .int), .int 0, .int 0]] := c_pen (n := 25) hn
  obtain ⟨H, T, S1, e1, p1, g, -⟩ := c_lplain (n := 22) (hands := 3) (most := 4) (hr := true) (pen_0 (ns := ns)) (by decide) (by decide) (by decide) (by decide) (by decide)
  have g : Good 3 4 H T := g
  have q1 := p1.pen (pen_0 (ns := ns)).lt
  obtain ⟨one, S2, e2, p2, h2⟩ := c_pick (n := 24) (xs := badL) q1 (by decide) (by decide) (by decide)
  have q2 : Pen ns 0 (S2 ++ [Cp] ++ [Cp]) 2000 := (((p2.pen q1.lt).app).app).mono (by decide)
  have hle := g.le
  obtain ⟨x, S3, e3, p3, h3⟩ := c_pick (n := 24) (xs := sitL H.length) q2 (by decide) (by simp [sitL]) (by simp [sitL])
  have q3 : Pen ns 0 (S3 ++ [Cp]) 3000 := ((p3.pen q2.lt).app).mono (by decide)
  obtain ⟨odd, S4, e4, p4, h4⟩ := c_pick (n := 24) (xs := [.non, .int 5, .lst (H.map handM), .str "program"]) q3 (by decide) (by simp) (by simp)
  have q4 := p4.pen q3.lt
  obtain ⟨nn, S5, e5, p5, h5⟩ := c_pick (n := 24) (xs := [.int 0, .int 5, .int (-1), .non, .bl true, .str "1"]) q4 (by decide) (by simp) (by simp)
  have q5 : Pen ns 0 S5 4000 := (p5.pen q4.lt).mono (by decide)
  obtain ⟨a, S6, e6, p6, ga, -⟩ := c_ldeed (n := 23) (cs := [0, 5]) q5 (by decide) (by decide) (by decide) (by decide)
  have q6 := p6.pen q5.lt
  obtain ⟨b, S7, e7, p7, gb, -⟩ := c_ldeed (n := 23) (cs := [5]) q6 (by decide) (by decide) (by decide) (by decide)
  obtain ⟨ob, b1, b2⟩ := bad_of h2
  obtain ⟨ox, x1⟩ := sit_of ⟨hle.1, by omega⟩ h3
  have g12 : ∀ h ∈ H, goodH 12 h := fun h hh => ⟨(g.hd h hh).1, (g.hd h hh).2.1, (g.hd h hh).2.2.1, by have := (g.hd h hh).2.2.2; omega⟩
  have hM : ∀ h ∈ H, HLk 12 (handM h) h := fun h hh => hlk_M (by omega) (g12 h hh)
  have oM := okr_map (e := handM) (xs := H) (fun h hh => (hM h hh).ok) (by omega)
  have oD := okr_map (e := handD) (xs := H) (fun h hh => (hlk_D (by decide) (g12 h hh)).ok) (by omega)
  have tP := takes_of (e := handM) (H := H) (m := 12) (many := 6) (hs := .lst (H.map handM)) (ss := .non) (by omega) (by omega) g12 hM hle.1 (by omega) (.inl rfl) rfl (sites_non (m := H.length)).2.1 (sites_non (m := H.length)).2.2
  have tD := takes_of (e := handD) (H := H) (m := 12) (many := 6) (hs := .tup (H.map handD)) (ss := .non) (by omega) (by omega) g12 (fun h hh => hlk_D (by omega) (g12 h hh)) hle.1 (by omega) (.inr rfl) rfl (sites_non (m := H.length)).2.1 (sites_non (m := H.length)).2.2
  -- the calls
  have M1 : ∀ S, mkM prog (callN prog 26) c_Program [.ref S.length, .d one, .d .non] S = .exc (badX "hands") (S ++ [Cp]) := fun S => mk_Program_bad (n := 16) (.hands b1) ob rfl
  have oH1 : okr (.lst (H.map handM ++ [one])) = true := okr_lst' (by simp; omega) fun y hy => by
    rcases List.mem_append.mp hy with q | q
    · exact (okr_lst oM.2).2 y q
    · rw [List.mem_singleton.mp q]
      exact ob
  have bH1 : (isRw (.lst (H.map handM ++ [one])) 1 6 && (elems (.lst (H.map handM ++ [one]))).all fun h => isHand h 12) = false := by
    simp [elems, b2]
  have M2 : ∀ S, mkM prog (callN prog 26) c_Program [.ref S.length, .d (.lst (H.map handM ++ [one])), .d (.lst (List.replicate 9 (.int 0)))] S = .exc (badX "hands") (S ++ [Cp]) := fun S => mk_Program_bad (n := 16) (.hands bH1) oH1 (okr_rep (by decide) rfl)
  have lM : (elems (.lst (H.map handM))).length = H.length := by simp [elems]
  have lD : (elems (.tup (H.map handD))).length = H.length := by simp [elems]
  have M3 : ∀ S, mkM prog (callN prog 26) c_Program [.ref S.length, .d (.lst (H.map handM)), .d x] S = .exc (badX "sites") (S ++ [Cp]) := fun S => mk_Program_bad (n := 16) (.sites tP.h1 tP.h2 (by rw [lM]; exact x1)) oM.2 ox
  have M4 : ∀ S, mkM prog (callN prog 26) c_Program [.ref S.length, .d (.lst (H.map handM)), .d .non] S = .ok (.d (prgD H (natI H.length))) S := fun S => mk_Program (n := 16) tP
  have W3 : ∀ S, callN prog 26 i_with_sites none [.d (prgD H (natI H.length)), .d x] S = .exc (badX "sites") S := fun S => c_with_sites_ref (n := 15) (.sites tD.h1 tD.h2 (by rw [lD]; exact x1)) oD.1 ox
  have io : isNp odd = true := by
    simp only [List.mem_cons, List.not_mem_nil, or_false] at h4
    rcases h4 with rfl | rfl | rfl | rfl <;> rfl
  have ino : okv nn = true ∧ inI nn 1 4 = false := by
    simp only [List.mem_cons, List.not_mem_nil, or_false] at h5
    rcases h5 with rfl | rfl | rfl | rfl | rfl | rfl <;> exact ⟨rfl, rfl⟩
  have O1 : ∀ S, callN prog 26 i_written_out none [.d odd, .d nn] S = .exc (badX "program") S := fun S => c_written_out_bad (n := 24) io
  have O2 : ∀ S, callN prog 26 i_with_sites none [.d odd, .d nn] S = .exc (badX "program") S := fun S => c_with_sites_bad (n := 24) io
  have O3 : ∀ S, callN prog 26 i_written_out none [.d (prgD H (natI H.length)), .d nn] S = .exc ⟨x_BadNumber, [(n_part, .str "passes")]⟩ S := fun S => c_written_out_num (n := 14) (.inl rfl) ino.1 ino.2
  have hP : ∀ (w : String) (S : Store), hearM prog (callN prog 26 i__law_heard none) (.exc (badX w) S) = .ok (.d (.tup [.str "program", .str w])) S := fun w S => heard_prog (n := 25)
  have hN : ∀ (w : String) (S : Store), hearM prog (callN prog 26 i__law_heard none) (.exc ⟨x_BadNumber, [(n_part, .str w)]⟩ S) = .ok (.d (.tup [.str "number", .str w])) S := fun w S => heard_num (n := 25)
  -- the great one
  let G : List Hand := List.replicate 6 (List.replicate 6 a, List.replicate 6 b)
  have gG : ∀ h ∈ G, goodH 12 h := fun h hh => by
    rw [(List.mem_replicate.mp hh).2]
    refine ⟨fun d hd => ?_, fun d hd => ?_, by simp [hLen], by simp [hLen]⟩
    · rw [(List.mem_replicate.mp hd).2]
      exact ga
    · rw [(List.mem_replicate.mp hd).2]
      exact gb
  have sG := sites_row (T := [5, 5, 5, 5, 5, 5]) (ss := .lst (List.replicate 6 (.int 5))) (m := 6) rfl (by decide) (by decide) (.inl rfl)
  have tG := takes_of (e := handM) (H := G) (m := 12) (many := 6) (hs := .lst (G.map handM)) (ss := .lst (List.replicate 6 (.int 5))) (by omega) (by omega) gG (fun h hh => hlk_M (by omega) (gG h hh)) (by simp [G]) (by simp [G]) (.inl rfl) sG.1 sG.2.1 sG.2.2
  have MG : ∀ S, mkM prog (callN prog 26) c_Program [.ref S.length, .d (.lst (List.replicate 6 (.tup [.lst (List.replicate 6 (deedD a)), .lst (List.replicate 6 (deedD b))]))), .d (.lst (List.replicate 6 (.int 5)))] S = .ok (.d (prgD G [5, 5, 5, 5, 5, 5])) S := fun S => mk_Program (n := 16) tG
  have GG : Good 6 12 G [5, 5, 5, 5, 5, 5] := ⟨by simp [G], gG, by simp [G], by decide⟩
  have sGf : strt G = false := by rfl
  have WG : ∀ S, callN prog 26 i_written_out none [.d (prgD G [5, 5, 5, 5, 5, 5]), .d (.int 4)] S = .ok (.d (prgC (wrtC c_Program G) (wrtH G 4) [5, 5, 5, 5, 5, 5])) S := fun S => c_written_out (n := 14) (.inl rfl) GG (by decide) (k := 4) (by decide) (by decide)
  have wc : wrtC c_Program G = c_LongProgram := by unfold wrtC; rw [if_neg (by rw [sGf]; decide)]
  have wh : wrtH G 4 = G.map (outH 4) := by unfold wrtH; rw [if_neg (by rw [sGf]; decide)]
  have gZ : ∀ h ∈ [(([], [("read", 0)]) : Hand)], goodH 12 h := fun h hh => by
    rw [List.mem_singleton.mp hh]
    refine ⟨by simp, fun d hd => ?_, by decide, by decide⟩
    rw [List.mem_singleton.mp hd]
    exact ⟨by decide +kernel, by decide, by decide⟩
  have tZ := takes_of (e := handM) (H := [([], [("read", 0)])]) (m := 12) (many := 6) (hs := .lst ([(([], [("read", 0)]) : Hand)].map handM)) (ss := .non) (by omega) (by omega) gZ (fun h hh => hlk_M (by omega) (gZ h hh)) (by simp) (by simp) (.inl rfl) rfl (sites_non (m := 1)).2.1 (sites_non (m := 1)).2.2
  have MZ : ∀ S, mkM prog (callN prog 26) c_Program [.ref S.length, .d (.lst [.tup [.lst [], .lst [.tup [.str "read", .int 0]]]]), .d .non] S = .ok (.d (prgD [([], [("read", 0)])] (natI 1))) S := fun S => mk_Program (n := 16) tZ
  -- the statements
  have r12 : ∀ (y : D) (S : Store), binR .mul (.d (.lst [y])) (.d (.int 12)) S = .ok (.d (.lst (List.replicate 12 y))) S := fun y S => mul_ln (k := 12) (by decide)
  have r7 : ∀ (y : D) (S : Store), binR .mul (.d (.lst [y])) (.d (.int 7)) S = .ok (.d (.lst (List.replicate 7 y))) S := fun y S => mul_ln (k := 7) (by decide)
  have r9 : ∀ (y : D) (S : Store), binR .mul (.d (.lst [y])) (.d (.int 9)) S = .ok (.d (.lst (List.replicate 9 y))) S := fun y S => mul_ln (k := 9) (by decide)
  have r6 : ∀ (y : D) (S : Store), binR .mul (.d (.lst [y])) (.d (.int 6)) S = .ok (.d (.lst (List.replicate 6 y))) S := fun y S => mul_ln (k := 6) (by decide)
  have r2 : ∀ (y : D) (S : Store), binR .mul (.d (.lst [y])) (.d (.int 2)) S = .ok (.d (.lst [y, y])) S := fun y S => mul_ln (k := 2) (by decide)
  have rm : ∀ (y : D) (S : Store), binR .mul (.d (.lst [y])) (.d (.int H.length)) S = .ok (.d (.lst (List.replicate H.length y))) S := fun y S => mul_ln (by omega)
  have rm1 : ∀ (y : D) (S : Store), binR .mul (.d (.lst [y])) (.d (.int (H.length + 1))) S = .ok (.d (.lst (List.replicate (H.length + 1) y))) S := fun y S => mul_ln (k := H.length + 1) (by omega)
  have rt : ∀ (y : D) (S : Store), binR .mul (.d (.tup [y])) (.d (.int 6)) S = .ok (.d (.tup (List.replicate 6 y))) S := fun y S => rfl
  have eh : ∀ h ∈ H, D.tup [.lst (h.1.map deedD), .lst (h.2.map deedD)] = handM h := fun _ _ => rfl
  have hz := lenH_ok g (by omega)
  have hz1 : (H.map handM).length + [one].length ≤ sizeLine := Nat.le_trans (show _ ≤ 100 by simp; omega) (by decide)
  have n1 : ∀ S, cmpM prog (callN prog 26) .ne (.d (.lst [.tup [.str "program", .str "hands"], .tup [.str "program", .str "hands"]])) (.d (.lst [.tup [.str "program", .str "hands"], .tup [.str "program", .str "hands"]])) S = .ok false S := fun S => ne_c rfl (by decide +kernel)
  have n2 : ∀ S, cmpM prog (callN prog 26) .ne (.d (.lst [.tup [.str "program", .str "sites"], .tup [.str "program", .str "sites"]])) (.d (.lst [.tup [.str "program", .str "sites"], .tup [.str "program", .str "sites"]])) S = .ok false S := fun S => ne_c rfl (by decide +kernel)
  have n3 : ∀ S, cmpM prog (callN prog 26) .ne (.d (.lst [.tup [.str "program", .str "program"], .tup [.str "program", .str "program"], .tup [.str "number", .str "passes"]])) (.d (.lst [.tup [.str "program", .str "program"], .tup [.str "program", .str "program"], .tup [.str "number", .str "passes"]])) S = .ok false S := fun S => ne_c rfl (by decide +kernel)
  have l1 : ∀ S, fldR prog n_lengths (.d (prgD G [5, 5, 5, 5, 5, 5])) S = .ok (.d (.tup (List.replicate 6 (.int 12)))) S := fun S => rfl
  have l2 : ∀ S, fldR prog n_lengths (.d (prgC c_LongProgram (G.map (outH 4)) [5, 5, 5, 5, 5, 5])) S = .ok (.d (.tup (List.replicate 6 (.int 30)))) S := fun S => rfl
  have l3 : ∀ S, fldR prog n_heads (.d (prgD [([], [("read", 0)])] (natI 1))) S = .ok (.d (.tup [.int 0])) S := fun S => rfl
  have c1 : ∀ S, cmpM prog (callN prog 26) .eq (.d (.tup (List.replicate 6 (.int 12)))) (.d (.tup (List.replicate 6 (.int 12)))) S = .ok true S := fun S => eq_c rfl (by decide +kernel)
  have c2 : ∀ S, cmpM prog (callN prog 26) .eq (.d (.tup (List.replicate 6 (.int 30)))) (.d (.tup (List.replicate 6 (.int 30)))) S = .ok true S := fun S => eq_c rfl (by decide +kernel)
  have c3 : ∀ S, cmpM prog (callN prog 26) .eq (.d (.tup [.int 0])) (.d (.tup [.int 0])) S = .ok true S := fun S => eq_c rfl (by decide +kernel)
  simp only [badL, deed0, List.replicate_succ, List.replicate_zero] at e2
  simp only [sitL, List.replicate_succ] at e3
  simp only [List.replicate_succ, List.replicate_zero] at M2 MG l1 l2 c1 c2
  simp only [List.map_cons, List.map_nil] at e6 e7
  rw [wc, wh] at WG
  clear_value G
  refine Tru.law (fd := f_law) rfl rfl rfl rfl ?_
  simp only [f_law]
  refine .step (ρ1 := [some (.d (.scr ns)), some (.ref 0), none, none, none, none, none, none, none, none, none, none, none, none, none, none]) (S1 := [.lst [.lst (ns.map .int), .int 0, .int 0]]) (by simp_arith only [cp]) ?_
  refine .step (ρ1 := [some (.d (.scr ns)), some (.ref 0), some (.d (plainD H T)), none, none, none, none, none, none, none, none, none, none, none, none, none]) (S1 := S1) (by simp_arith only [e1]) ?_
  refine .step (ρ1 := [some (.d (.scr ns)), some (.ref 0), some (.d (plainD H T)), none, none, none, none, none, none, none, some (.d (.lst (H.map handM))), some (.d (.int H.length)), none, none, none, none]) (S1 := S1) (by simp_arith only [plainD, handD_e, textD_e, eh, List.length_map]) ?_
  refine .step (ρ1 := [some (.d (.scr ns)), some (.ref 0), some (.d (plainD H T)), some (.d deed0), none, none, none, none, none, none, some (.d (.lst (H.map handM))), some (.d (.int H.length)), none, none, none, none]) (S1 := S1) (by simp_arith only [deed0]) ?_
  simp_arith only [deed0, r12, r7, e2, r9, M1, r_heard, hP, hz1, M2, r2, n1, rm, rm1, e3, M3, M4, W3, n2, e4, e5, O1, O2, O3, hN, n3, e6, e7, r6, MG, l1, rt, c1, WG, l2, c2, MZ, l3, c3]
  exact ⟨_, rfl⟩
end K02

set_option maxHeartbeats 0
namespace K02
open PySem Wk
def hd : Hd where
  T := {
    P := prog
    gl := [(s "_wall", Gk.fn 0), (s "is_integer", Gk.fn 1), (s "is_within", Gk.fn 2), (s "is_listed", Gk.fn 3), (s "is_row", Gk.fn 4), (s "fixed", Gk.fn 5), (s "is_deed", Gk.fn 6), (s "is_hand", Gk.fn 7), (s "need_program", Gk.fn 8), (s "written", Gk.fn 9), (s "written_out", Gk.fn 10), (s "with_sites", Gk.fn 11), (s "_law_pen", Gk.fn 12), (s "_law_draw", Gk.fn 13), (s "_law_pick", Gk.fn 14), (s "_law_heard", Gk.fn 15), (s "_law_deed", Gk.fn 16), (s "_law_plain", Gk.fn 17), (s "law", Gk.fn 18), (s "Program", Gk.cls 0), (s "LongProgram", Gk.cls 1), (s "READ", Gk.con 0), (s "WRITE", Gk.con 1), (s "TURN", Gk.con 2), (s "MOST_HANDS", Gk.con 3), (s "MOST_DEEDS", Gk.con 4), (s "MOST_CELL", Gk.con 5), (s "MOST_SITE", Gk.con 6), (s "MOST_PASSES", Gk.con 7), (s "WaitError", Gk.exc 0), (s "BadValue", Gk.exc 1), (s "BadNumber", Gk.exc 2), (s "BadProgram", Gk.exc 3), (s "BadRule", Gk.exc 4), (s "BadLog", Gk.exc 5), (s "BadPair", Gk.exc 6), (s "BadStep", Gk.exc 7), (s "BadWord", Gk.exc 8), (s "BadText", Gk.exc 9), (s "Misfit", Gk.exc 10), (s "Nothing", Gk.exc 11), (s "TooMany", Gk.exc 12)]
    nms := [s "is_straight", s "hands", s "sites", s "what", s "most", s "pair", s "step", s "line", s "word", s "part", s "heads", s "lengths", s "take", s "many", s "texts", s "places", s "deed", s "cell", s "is_reader", s "is_maker", s "is_in_round", s "all_sites"]
    ps := [[s "k"], [s "value"], [s "value", s "least", s "most"], [s "value"], [s "value", s "least", s "most"], [s "value"], [s "value"], [s "value", s "most"], [s "value"], [s "program", s "passes"], [s "program", s "passes"], [s "program", s "sites"], [s "script"], [s "pen", s "many"], [s "pen", s "some"], [s "ask"], [s "pen", s "cells"], [s "pen", s "hands", s "most", s "has_rounds"], [s "script"], [s "self", s "hands", s "sites"], [s "self", s "hands", s "sites", s "most", s "many"], [s "self", s "other"], [s "self", s "place"], [s "self", s "place"], [s "self", s "place"], [s "self", s "place"], [s "self", s "hand", s "index"], [s "self"], [s "self", s "hands", s "sites"]]
    bl := [s "abs", s "all", s "bool", s "enumerate", s "int", s "isinstance", s "len", s "list", s "min", s "range", s "repr", s "str", s "super", s "tuple"] }
  fp := [(s "_wall", none), (s "is_integer", none), (s "is_within", none), (s "is_listed", none), (s "is_row", none), (s "fixed", none), (s "is_deed", none), (s "is_hand", none), (s "need_program", none), (s "written", none), (s "written_out", none), (s "with_sites", none), (s "_law_pen", none), (s "_law_draw", none), (s "_law_pick", none), (s "_law_heard", none), (s "_law_deed", none), (s "_law_plain", none), (s "law", none), (s "Program", some (s "__init__")), (s "Program", some (s "take")), (s "Program", some (s "__eq__")), (s "Program", some (s "deed")), (s "Program", some (s "cell")), (s "Program", some (s "is_reader")), (s "Program", some (s "is_maker")), (s "Program", some (s "is_in_round")), (s "Program", some (s "all_sites")), (s "LongProgram", some (s "__init__"))]
  cn := [s "Program", s "LongProgram"]
  xn := [s "WaitError", s "BadValue", s "BadNumber", s "BadProgram", s "BadRule", s "BadLog", s "BadPair", s "BadStep", s "BadWord", s "BadText", s "Misfit", s "Nothing", s "TooMany"]
  file := s "/claim/cut.py"
  lam := some 18
  Ns := [[s "k"], [s "value"], [s "value", s "least", s "most"], [s "value"], [s "value", s "least", s "most"], [s "value", s "part"], [s "value"], [s "value", s "most", s "deeds", s "deed", s "part"], [s "value"], [s "program", s "passes", s "head", s "ring"], [s "program", s "passes"], [s "program", s "sites"], [s "script"], [s "pen", s "many", s "at", s "cell", s "mixed", s "digit", s "great"], [s "pen", s "some"], [s "ask", s "found", s "caught", s "error", s "kinds"], [s "pen", s "cells"], [s "pen", s "hands", s "most", s "has_rounds", s "hand", s "sites", s "many", s "cells", s "texts", s "deeds", s "cut", s "turn"], [s "script", s "pen", s "plain", s "deed", s "bad", s "one", s "sites", s "program", s "heard", s "great", s "hands", s "many", s "odd", s "none", s "head", s "ring"], [s "self", s "hands", s "sites"], [s "self", s "hands", s "sites", s "most", s "many", s "text", s "at", s "head", s "ring", s "hand", s "site"], [s "self", s "other"], [s "self", s "place"], [s "self", s "place"], [s "self", s "place"], [s "self", s "place"], [s "self", s "hand", s "index"], [s "self"], [s "self", s "hands", s "sites"]]
def loose : List PySem.Str := [s "_wall", s "is_integer", s "is_within", s "is_listed", s "is_row", s "WaitError", s "BadValue", s "BadNumber", s "BadProgram", s "BadRule", s "BadLog", s "BadPair", s "BadStep", s "BadWord", s "BadText", s "Misfit", s "Nothing", s "TooMany", s "fixed", s "READ", s "WRITE", s "TURN", s "MOST_HANDS", s "MOST_DEEDS", s "MOST_CELL", s "MOST_SITE", s "MOST_PASSES", s "is_deed", s "is_hand", s "Program", s "LongProgram", s "need_program", s "written", s "written_out", s "with_sites", s "_law_pen", s "_law_draw", s "_law_pick", s "_law_heard", s "_law_deed", s "_law_plain"]
end K02

namespace K02
open PySem PySem.Spec PyProof.Rows L2 Wk
abbrev R : PySem.W.OpenRow := PySem.W.OpenLaw.row PySem.Challenge.rw_waitingpairs_k02_programs_that_are_none
theorem run (w : World) : HandSHeadRun.RunEq R (PySem.W.view R.prog [46]) (hookK 5 hd) (obK 5 hd) 6000 loose w := by
  intro os
  kernel_rfl
end K02
open PySem PySem.W PySem.Calls PyProof.Rows
theorem PySem.Challenge.cw_waitingpairs_k02_programs_that_are_none_holds : PySem.Challenge.rw_waitingpairs_k02_programs_that_are_none.Holds := by
  w_on; o_law
  refine HandSHeadRun.head_any (r := OpenLaw.row PySem.Challenge.rw_waitingpairs_k02_programs_that_are_none) (q := view (OpenLaw.row PySem.Challenge.rw_waitingpairs_k02_programs_that_are_none).prog [46]) (H := Wk.hookK 5 K02.hd) (ob := Wk.obK 5 K02.hd) (M := 6000) (loose := K02.loose) (d := HandSHeadRun.topDef (OpenLaw.row PySem.Challenge.rw_waitingpairs_k02_programs_that_are_none).prog 46) (kwd := []) Wk.obK_eq
    (by kernel_rfl) (fun s => by kernel_rfl) K02.run (by kernel_rfl) (by kernel_rfl) (by kernel_rfl) (by rfl) (by first | assumption | decide +kernel) (by decide +kernel) ⟨rfl, rfl, rfl, rfl, rfl, by decide +kernel⟩ ?hw ?hc
  case hw => w_witness2
  case hc =>
    have e : (HandSHeadRun.topDef (OpenLaw.row PySem.Challenge.rw_waitingpairs_k02_programs_that_are_none).prog 46).name = ("law" : PySem.Str) := by kernel_rfl
    exact Wk.law_end (l := PySem.Challenge.rw_waitingpairs_k02_programs_that_are_none) (hd := K02.hd) (fuel := 27) (fl := K02.i_law) (fd := K02.f_law) (x := "script") rfl (by kernel_rfl) ⟨by decide, by decide, by decide⟩ (by kernel_rfl) (by kernel_rfl) (by rw [e]; kernel_rfl) rfl rfl (by kernel_rfl) K02.plain

