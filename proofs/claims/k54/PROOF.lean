import PyProof.Rows.All
import Wide.All
import OpenK.AllK
import Wide.FinOn
import HandS.ForMost
import HandS.Exc
import HandS.TryOnly
import HandS.ExcOwn
import HandS.TupAny
import HandS.TupMul
import HandS.DictComp
import HandS.More
import HandS.Conv
import HandS.Strs
import HandS.Style
import HandS.Replace
import HandS.Zip
import HandS.Lambda
import PySem.Syntax
import PySem.PyData
import PySem.Eval
import HandS.IsInst
import HandS.Rev
import HandS.SetFor
import HandS.Text
import PyProof.MeetsSeq2
import PyProof.StrOps2
import KE.KTupSum
import KE.GoesEnum
import KE.GoesMore
import HandS.Flow
import HandS.HeadHook1
import HandS.GenOver
import HandS.TryMany
import HandS.Defaults
import HandS.Words
import HandS.HeadWalk
import HandS.HeadHook4
import HandS.NestedK
import HandS.Head0
import HandS.Head1
import HandS.Head2
import HandS.HeadEnd
import PySem.Challenge.RW_circuithall_k54_shortest_taps_and_guards
import PyProof.TableCode
set_option Elab.async false
set_option linter.all false
section
/-! The evaluator: values, the store, the intermediate form (IR), its meaning. -/
namespace Ev

/-- a value: what is not changed in place stands for itself; a list, a dict by its place in the store; fl: a list that is only read -/
inductive D where
  | non | bl (b : Bool) | int (i : Int) | str (s : List Nat) | tup (ds : List D) | ref (n : Nat) | fl (ds : List D)
deriving Inhabited

/-- what stands in the store; fd: a dict while it is walked -/
inductive MO where
  | lst (xs : List D) | dct (kvs : List (D × D)) | fd (kvs : List (D × D))
deriving Inhabited

abbrev Sto := List MO
abbrev Env := List (Option D)

/-- an exception: the number of its class, what it carries -/
structure Ex where
  cls : Nat
  fld : Option D

inductive Res (α : Type) where
  | ok (a : α) (S : Sto) | exc (e : Ex) (S : Sto) | bad

@[reducible] def Res.bind {α β : Type} (r : Res α) (f : α → Sto → Res β) : Res β :=
  match r with
  | .ok a S => f a S
  | .exc e S => .exc e S
  | .bad => .bad

/-- the largest length -/
abbrev big : Nat := 16777216

/-! ### the intermediate form -/
inductive BOp where
  | add | sub | mul | fdiv | mod | pow
deriving DecidableEq
inductive COp where
  | eq | ne | lt | le | gt | ge | isN | notN | isin | notin
deriving DecidableEq
inductive BI where
  | len | abs | int | max2 | min2 | tuple | list | sorted | sum | maxl | minl
deriving DecidableEq
inductive ME where
  | append | index | pop | count | extend | join | get | popAt
deriving DecidableEq
/-- classes that isinstance asks for -/
inductive Ty where
  | int | str | tuple | list | dict | bool
deriving DecidableEq

mutual
inductive IE where
  | var (i : Nat) | non | bl (b : Bool) | int (i : Int) | str (s : List Nat)
  | bin (o : BOp) (a b : IE)
  | neg (a : IE) | inot (a : IE)
  | cmp (o : COp) (a b : IE)
  | cmp2 (o o' : COp) (a b c : IE)
  | iand (a b : IE) | ior (a b : IE)
  | ife (c a b : IE)
  | tup (es : IEs) | lst (es : IEs) | dct (ps : IPs)
  | ix (a i : IE) | sl (a : IE) (lo hi : IEo)
  | call (f : Nat) (es : IEs)
  | bi (f : BI) (es : IEs)
  | me (m : ME) (o : IE) (es : IEs)
  | lc (vs : List Nat) (g : IG) (it : II) (ifs : IEs) (e : IE)
  | lc2 (vs : List Nat) (g : IG) (it : II) (ifs : IEs) (vs1 : List Nat) (g1 : IG) (it1 : II) (ifs1 : IEs) (e : IE)
  | dc (vs : List Nat) (g : IG) (it : II) (ifs : IEs) (k v : IE)
  | dc2 (vs : List Nat) (g : IG) (it : II) (ifs : IEs) (vs1 : List Nat) (g1 : IG) (it1 : II) (ifs1 : IEs) (k v : IE)
  | told (hs : List (List Nat × List Nat)) (b : IE)
  | gen (stop : Bool) (vs : List Nat) (g : IG) (it : II) (ifs : IEs) (e : IE)
  | isi (t : Ty) (a : IE)
inductive IEs where
  | nil | cons (e : IE) (es : IEs)
inductive IPs where
  | nil | cons (k v : IE) (ps : IPs)
inductive IEo where
  | none | some (e : IE)
inductive II where
  | val (e : IE) | rng1 (a : IE) | rng2 (a b : IE) | rng3 (a b c : IE) | enum (e : IE) | zip (a b : IE) | rev (e : IE)
inductive IG where
  | var (i : Nat) | tup (gs : IGs) | sub (o i : IE)
inductive IGs where
  | nil | cons (g : IG) (gs : IGs)
end

mutual
inductive IS where
  | asg (g : IG) (e : IE)
  | par (xs : List Nat) (es : IEs)
  | aug (i : Nat) (o : BOp) (e : IE)
  | expr (e : IE)
  | ret (e : IE) | retN
  | ite (c : IE) (a b : ISs)
  | whil (c : IE) (b : ISs)
  | fori (g : IG) (it : II) (b : ISs)
  | brk | cont | pass | never
  | rais (c : Nat) | raisF (c : Nat) (e : IE)
  | tryF (b : ISs) (cs : List Nat)
inductive ISs where
  | nil | cons (s : IS) (ss : ISs)
end

/-! ### operations on values -/
mutual
/-- == as Python has it, on what holds no lists, no dicts -/
def eqv : D → D → Bool
  | .non, .non => true
  | .bl a, .bl b => a == b
  | .bl a, .int j => (if a then 1 else 0) == j
  | .int i, .bl b => i == (if b then 1 else 0)
  | .int i, .int j => i == j
  | .str x, .str y => x == y
  | .tup xs, .tup ys => eqvs xs ys
  | _, _ => false
def eqvs : List D → List D → Bool
  | [], [] => true
  | x :: xs, y :: ys => eqv x y && eqvs xs ys
  | _, _ => false
end
mutual
/-- the depth of nesting; none where a list or dict is within -/
def dep : D → Option Nat
  | .ref _ => none
  | .fl _ => none
  | .tup ds => (deps ds).map (· + 1)
  | .str s => if s.all (fun c => decide (c < 1114112)) then some 0 else none
  | _ => some 0
def deps : List D → Option Nat
  | [] => some 0
  | d :: ds => match dep d, deps ds with
    | some a, some b => some (max a b)
    | _, _ => none
end
/-- may be compared, held in a flat store -/
def shal (n : Nat) (o : Option Nat) : Bool := match o with | some k => decide (k ≤ n) | none => false
def flat : D → Bool
  | .tup _ => false
  | .ref _ => false
  | .fl _ => false
  | _ => true

def lookS (S : Sto) (n : Nat) : Option MO := S[n]?
/-- the items of a list -/
def items (S : Sto) (n : Nat) : Option (List D) := match S[n]? with
  | some (.lst xs) => some xs
  | _ => none
def pairs (S : Sto) (n : Nat) : Option (List (D × D)) := match S[n]? with
  | some (.dct xs) => some xs
  | some (.fd xs) => some xs
  | _ => none

/-- == of two values -/
def eqD (S : Sto) (x y : D) : Option Bool := match x, y with
  | .ref n, .ref m => match items S n, items S m with
    | some xs, some ys => if shal 60 (deps xs) && shal 60 (deps ys) then some (eqvs xs ys) else none
    | _, _ => none
  | .ref n, y => match items S n with
    | some xs => if shal 60 (deps xs) && shal 60 (dep y) then some false else none
    | none => none
  | x, .ref m => match items S m with
    | some ys => if shal 60 (dep x) && shal 60 (deps ys) then some false else none
    | none => none
  | x, y => if shal 60 (dep x) && shal 60 (dep y) then some (eqv x y) else none

def truth (S : Sto) : D → Option Bool
  | .non => some false
  | .bl b => some b
  | .int i => some (i != 0)
  | .str s => if s.length ≤ big then some (!s.isEmpty) else none
  | .tup ds => some (!ds.isEmpty)
  | .fl _ => none
  | .ref n => match items S n with
    | some xs => some (!xs.isEmpty)
    | none => match S[n]? with
      | some (.dct kvs) => some (!kvs.isEmpty)
      | _ => none

def small (i : Int) : Bool := decide (-(2 ^ 64) < i) && decide (i < 2 ^ 64)
def word (i : Int) : Bool := decide (-(2 ^ 62) ≤ i) && decide (i < 2 ^ 62)

def alloc (o : MO) (S : Sto) : Res D := .ok (.ref S.length) (S ++ [o])

/-- may be repeated -/
def few (n : Nat) (k : Int) : Bool := decide (n ≤ 1000) && decide (-(2 ^ 63) ≤ k) && decide (k ≤ 1000)
def rep {α : Type} (k : Int) (xs : List α) : List α := (List.replicate k.toNat xs).flatten
def binD (o : BOp) (x y : D) (S : Sto) : Res D := match o with
  | .add => match x, y with
    | .int i, .int j => .ok (.int (i + j)) S
    | .str a, .str b => if a.length + b.length ≤ big then .ok (.str (a ++ b)) S else .bad
    | .tup a, .tup b => if a.length + b.length ≤ big then .ok (.tup (a ++ b)) S else .bad
    | .ref n, .ref m => match S[n]?, S[m]? with
      | some (.lst a), some (.lst b) => if a.length + b.length ≤ big then alloc (.lst (a ++ b)) S else .bad
      | _, _ => .bad
    | _, _ => .bad
  | .sub => match x, y with
    | .int i, .int j => .ok (.int (i - j)) S
    | _, _ => .bad
  | .mul => match x, y with
    | .int i, .int j => if small i || small j then .ok (.int (i * j)) S else .bad
    | .tup ds, .int k => if few ds.length k then .ok (.tup (rep k ds)) S else .bad
    | .str s, .int k => if few s.length k then .ok (.str (rep k s)) S else .bad
    | .ref n, .int k => match items S n with
      | some ds => if few ds.length k then alloc (.lst (rep k ds)) S else .bad
      | none => .bad
    | _, _ => .bad
  | .fdiv => match x, y with
    | .int i, .int j => if decide (0 < j) && decide (j < 1073741824) then .ok (.int (i / j)) S else .bad
    | _, _ => .bad
  | .mod => match x, y with
    | .int i, .int j => if 0 < j then .ok (.int (i % j)) S else .bad
    | _, _ => .bad
  | .pow => match x, y with
    | .int i, .int j => if decide (0 ≤ j) && decide (j ≤ 1000) && decide (i.natAbs < 2 ^ 64) then .ok (.int (i ^ j.toNat)) S else .bad
    | _, _ => .bad

/-- op= : a list is not taken (it would be changed in place) -/
def augD (o : BOp) (x y : D) (S : Sto) : Res D := match x with
  | .ref _ => .bad
  | .fl _ => .bad
  | .tup _ => .bad
  | .str _ => match o with
    | .add => binD .add x y S
    | _ => .bad
  | x => binD o x y S

/-- x in the items ys -/
def inD (x : D) (ys : List D) : Bool := ys.any fun y => eqv y x

def keyOk : D → Bool
  | .int _ => true
  | .str _ => true
  | _ => false
mutual
def deq : D → D → Bool
  | .non, .non => true
  | .bl a, .bl b => a == b
  | .int i, .int j => i == j
  | .str x, .str y => x == y
  | .ref n, .ref m => n == m
  | .tup xs, .tup ys => deqs xs ys
  | _, _ => false
def deqs : List D → List D → Bool
  | [], [] => true
  | x :: xs, y :: ys => deq x y && deqs xs ys
  | _, _ => false
end
def dget (kvs : List (D × D)) (k : D) : Option D := match kvs with
  | [] => none
  | (a, v) :: r => if deq a k then some v else dget r k
def dput (kvs : List (D × D)) (k v : D) : List (D × D) :=
  if kvs.any (fun p => deq p.1 k) then kvs.map (fun p => if deq p.1 k then (p.1, v) else p) else kvs ++ [(k, v)]
def dmerge (kvs : List (D × D)) : List (D × D) → List (D × D)
  | [] => kvs
  | (k, v) :: r => dmerge (dput kvs k v) r

def cmpD (o : COp) (x y : D) (S : Sto) : Option Bool := match o with
  | .eq => eqD S x y
  | .ne => (eqD S x y).map (!·)
  | .lt => match x, y with
    | .int i, .int j => some (decide (i < j))
    | _, _ => none
  | .le => match x, y with
    | .int i, .int j => some (decide (i ≤ j))
    | _, _ => none
  | .gt => match x, y with
    | .int i, .int j => some (decide (j < i))
    | _, _ => none
  | .ge => match x, y with
    | .int i, .int j => some (decide (j ≤ i))
    | _, _ => none
  | .isN => match y with
    | .non => some (match x with | .non => true | _ => false)
    | _ => none
  | .notN => match y with
    | .non => some (match x with | .non => false | _ => true)
    | _ => none
  | .isin => memD x y S
  | .notin => (memD x y S).map (!·)
where
  memD (x y : D) (S : Sto) : Option Bool := match y with
    | .tup ys => if flat x && ys.all flat then some (inD x ys) else none
    | .ref n => match items S n with
      | some ys => if flat x && ys.all flat then some (inD x ys) else none
      | none => match S[n]? with
        | some (.dct kvs) => if keyOk x then some (dget kvs x).isSome else none
        | _ => none
    | .str ys => match x with
      | .str [c] => some (decide (c ∈ ys))
      | _ => none
    | _ => none

def ixN (n : Nat) (i : Int) : Option Nat := if 0 ≤ i then (if i < n then some i.toNat else none) else if -(n : Int) ≤ i then some (i + n).toNat else none
def atI {α : Type} (xs : List α) (i : Int) : Option α := (ixN xs.length i).bind fun j => xs[j]?
def sIx (n d : Nat) : Option Int → Nat
  | none => d
  | some v => if v < 0 then (v + (n : Int)).toNat else min v.toNat n
def cut {α : Type} (xs : List α) (lo hi : Option Int) : List α := (xs.drop (sIx xs.length 0 lo)).take (sIx xs.length xs.length hi - sIx xs.length 0 lo)

def getD' (o : Option D) (S : Sto) : Res D := match o with
  | some d => .ok d S
  | none => .bad
def ixD (x i : D) (S : Sto) : Res D := match x with
  | .tup ds => match i with
    | .int k => getD' (atI ds k) S
    | _ => .bad
  | .str s => match i with
    | .int k => if s.length ≤ big then getD' ((atI s k).map fun c => .str [c]) S else .bad
    | _ => .bad
  | .ref n => match items S n with
    | some xs => match i with
      | .int k => getD' (atI xs k) S
      | _ => .bad
    | none => match S[n]? with
      | some (.dct kvs) => if keyOk i then getD' (dget kvs i) S else .bad
      | _ => .bad
  | _ => .bad
def slD (x : D) (lo hi : Option Int) (S : Sto) : Res D := match x with
  | .tup ds => .ok (.tup (cut ds lo hi)) S
  | .str s => if s.length ≤ big then .ok (.str (cut s lo hi)) S else .bad
  | .fl ds => alloc (.lst (cut ds lo hi)) S
  | .ref n => match items S n with
    | some xs => alloc (.lst (cut xs lo hi)) S
    | none => .bad
  | _ => .bad
def setD (o i v : D) (S : Sto) : Option Sto := match o with
  | .ref n => match S[n]? with
    | some (.lst xs) => match i with
      | .int k => match ixN xs.length k with
        | some j => some (S.set n (.lst (xs.set j v)))
        | none => none
      | _ => none
    | some (.dct kvs) => if keyOk i && decide (kvs.length < big) then some (S.set n (.dct (dput kvs i v))) else none
    | _ => none
  | _ => none

/-- isinstance -/
def isiD (t : Ty) (x : D) (S : Sto) : Option Bool := match x with
  | .non => some false
  | .bl _ => some (match t with | .int => true | .bool => true | _ => false)
  | .int _ => some (match t with | .int => true | _ => false)
  | .str _ => some (match t with | .str => true | _ => false)
  | .tup _ => some (match t with | .tuple => true | _ => false)
  | .fl _ => some (match t with | .list => true | _ => false)
  | .ref n => match S[n]? with
    | some (.lst _) => some (match t with | .list => true | _ => false)
    | some (.dct _) => some (match t with | .dict => true | _ => false)
    | _ => none

/-- the intsD of a list of values -/
def intsD : List D → Option (List Int)
  | [] => some []
  | .int i :: r => (intsD r).map (i :: ·)
  | _ :: _ => none
def strsD : List D → Option (List (List Nat))
  | [] => some []
  | .str s :: r => (strsD r).map (s :: ·)
  | _ :: _ => none
/-- a < b of texts, by their codes -/
def ltS : List Nat → List Nat → Bool
  | [], [] => false
  | [], _ :: _ => true
  | _ :: _, [] => false
  | a :: r, b :: s => decide (a < b) || (decide (a = b) && ltS r s)
def insS (x : List Nat) : List (List Nat) → List (List Nat)
  | [] => [x]
  | y :: r => if ltS y x then y :: insS x r else x :: y :: r
def sortS : List (List Nat) → List (List Nat)
  | [] => []
  | x :: r => insS x (sortS r)
def insI (x : Int) : List Int → List Int
  | [] => [x]
  | y :: r => if y < x then y :: insI x r else x :: y :: r
def sortI : List Int → List Int
  | [] => []
  | x :: r => insI x (sortI r)

/-- sorted of items -/
def sortedD (xs : List D) (S : Sto) : Res D :=
  if xs.length < 64 then
    match strsD xs with
    | some ss => alloc (.lst ((sortS ss).map .str)) S
    | none => match intsD xs with
      | some is => alloc (.lst ((sortI is).map .int)) S
      | none => .bad
  else .bad

def maxI (m : Int) : List Int → Int
  | [] => m
  | x :: r => maxI (if x > m then x else m) r
def minI (m : Int) : List Int → Int
  | [] => m
  | x :: r => minI (if x < m then x else m) r

def biD (f : BI) (xs : List D) (S : Sto) : Res D := match f, xs with
  | .len, [x] => match x with
    | .str s => if s.length ≤ big then .ok (.int s.length) S else .bad
    | .tup ds => .ok (.int ds.length) S
    | .ref n => match items S n with
      | some ys => .ok (.int ys.length) S
      | none => .bad
    | _ => .bad
  | .abs, [.int i] => .ok (.int (if i < 0 then -i else i)) S
  | .int, [.int i] => .ok (.int i) S
  | .int, [.bl b] => .ok (.int (if b then 1 else 0)) S
  | .max2, [.int i, .int j] => .ok (.int (if j > i then j else i)) S
  | .min2, [.int i, .int j] => .ok (.int (if j < i then j else i)) S
  | .tuple, [x] => match x with
    | .tup ds => .ok (.tup ds) S
    | .ref n => match items S n with
      | some ys => .ok (.tup ys) S
      | none => .bad
    | _ => .bad
  | .list, [x] => match x with
    | .tup ds => alloc (.lst ds) S
    | .ref n => match items S n with
      | some ys => alloc (.lst ys) S
      | none => .bad
    | _ => .bad
  | .sorted, [.ref n] => match items S n with
    | some ys => sortedD ys S
    | none => match S[n]? with
      | some (.dct kvs) => match strsD (kvs.map (·.1)) with
        | some ss => if ss.length < 64 then alloc (.lst ((sortS ss).map .str)) S else .bad
        | none => .bad
      | _ => .bad
  | .sum, [.ref n] => match items S n with
    | some ys => match intsD ys with
      | some is => .ok (.int is.sum) S
      | none => .bad
    | none => .bad
  | .sum, [.tup ds] => match intsD ds with
    | some is => .ok (.int is.sum) S
    | none => .bad
  | .maxl, [.ref n] => match items S n with
    | some ys => match intsD ys with
      | some (i :: r) => .ok (.int (maxI i r)) S
      | _ => .bad
    | none => .bad
  | .minl, [.ref n] => match items S n with
    | some ys => match intsD ys with
      | some (i :: r) => .ok (.int (minI i r)) S
      | _ => .bad
    | none => .bad
  | _, _ => .bad

/-- the first place of a sign -/
def idx (c : Nat) : List Nat → Option Nat
  | [] => none
  | a :: r => if a = c then some 0 else (idx c r).map (· + 1)
def idxD (c : D) : List D → Option Nat
  | [] => none
  | a :: r => if eqv a c then some 0 else (idxD c r).map (· + 1)

/-- texts joined -/
def joinL (sep : List Nat) : List (List Nat) → List Nat
  | [] => []
  | [a] => a
  | a :: r => a ++ sep ++ joinL sep r

def meD (m : ME) (o : D) (xs : List D) (S : Sto) : Res D := match m, o, xs with
  | .append, .ref n, [y] => match S[n]? with
    | some (.lst ys) => if ys.length < big then .ok .non (S.set n (.lst (ys ++ [y]))) else .bad
    | _ => .bad
  | .index, .str s, [.str [c]] => match idx c s with
    | some j => .ok (.int j) S
    | none => .bad
  | .index, .ref n, [y] => match items S n with
    | some ys => if flat y && ys.all flat then (match idxD y ys with
      | some j => .ok (.int j) S
      | none => .bad) else .bad
    | none => .bad
  | .count, .ref n, [y] => match items S n, y with
    | some ys, .int k => match intsD ys with
      | some is => .ok (.int (is.count k : Nat)) S
      | none => .bad
    | _, _ => .bad
  | .extend, .ref n, [y] => match S[n]? with
    | some (.lst ys) => match y with
      | .ref m => if m = n then .bad else match items S m with
        | some zs => if ys.length + zs.length ≤ big then .ok .non (S.set n (.lst (ys ++ zs))) else .bad
        | none => .bad
      | .tup zs => if ys.length + zs.length ≤ big then .ok .non (S.set n (.lst (ys ++ zs))) else .bad
      | _ => .bad
    | _ => .bad
  | .join, .str s, [y] => match y with
    | .ref m => match items S m with
      | some zs => match strsD zs with
        | some ss => if (ss.map List.length).sum + ss.length * s.length ≤ big then .ok (.str (joinL s ss)) S else .bad
        | none => .bad
      | none => .bad
    | _ => .bad
  | .get, .ref n, [k, v] => match S[n]? with
    | some (.dct kvs) => if keyOk k then .ok ((dget kvs k).getD v) S else .bad
    | _ => .bad
  | .popAt, .ref n, [.int k] => match S[n]? with
    | some (.lst ys) => match ixN ys.length k with
      | some j => match ys[j]? with
        | some y => .ok y (S.set n (.lst (ys.eraseIdx j)))
        | none => .bad
      | none => .bad
    | _ => .bad
  | .pop, .ref n, [] => match S[n]? with
    | some (.lst ys) => match ys[ys.length - 1]? with
      | some y => .ok y (S.set n (.lst ys.dropLast))
      | none => .bad
    | _ => .bad
  | _, _, _ => .bad

/-- a text or a list -/
def meOk (m : ME) (x : D) (S : Sto) : Bool := match x with
  | .str _ => match m with
    | .index => true
    | .join => true
    | _ => false
  | .ref n => match m with
    | .get => match S[n]? with
      | some (.dct _) => true
      | _ => false
    | _ => (items S n).isSome
  | _ => false

/-! ### walking -/
inductive ItV where
  | tup (ds : List D) | lst (n : Nat) | rng (lo c : Int) (n : Nat) | str (s : List Nat) | enumL (n : Nat) | enumT (ds : List D) | zipL (n m : Nat) | zipT (ds es : List D) | keys (n : Nat) | revT (ds : List D) | revL (n m : Nat)
/-- turn i: none: no meaning; some none: the end -/
def turn (v : ItV) (i : Nat) (S : Sto) : Option (Option D) := match v with
  | .tup ds => some ds[i]?
  | .lst n => (items S n).map fun xs => xs[i]?
  | .rng lo c n => some (if i < n then some (.int (lo + (i : Int) * c)) else none)
  | .str s => some (s[i]?.map fun c => .str [c])
  | .enumL n => (items S n).map fun xs => xs[i]?.map fun x => .tup [.int (i : Int), x]
  | .enumT ds => some (ds[i]?.map fun x => .tup [.int (i : Int), x])
  | .zipL n m => match items S n, items S m with
    | some xs, some ys => some (match xs[i]?, ys[i]? with | some x, some y => some (.tup [x, y]) | _, _ => none)
    | _, _ => none
  | .zipT ds es => some (match ds[i]?, es[i]? with | some x, some y => some (.tup [x, y]) | _, _ => none)
  | .revT ds => some (if i < ds.length then ds[ds.length - 1 - i]? else none)
  | .revL n m => match items S n with
    | some xs => if xs.length = m then some (if i < m then xs[m - 1 - i]? else none) else none
    | none => none
  | .keys n => match S[n]? with
    | some (.fd kvs) => some (kvs[i]?.map (·.1))
    | _ => none

inductive Fl where
  | nx | brk | ct | rt (d : D)
inductive SRes where
  | ok (f : Fl) (env : Env) (S : Sto) | exc (e : Ex) (env : Env) (S : Sto) | bad

/-- the number of turns that are waited for -/
abbrev fuel : Nat := 1000000

def wipe (env : Env) : List Nat → Env
  | [] => env
  | v :: vs => (wipe env vs).set v none

/-- a loop of statements -/
def forL (v : ItV) (g : D → Env → Sto → SRes) (b : Env → Sto → SRes) : Nat → Nat → Env → Sto → SRes
  | 0, _, _, _ => .bad
  | n + 1, i, env, S => match turn v i S with
    | none => .bad
    | some none => .ok .nx env S
    | some (some d) => match g d env S with
      | .ok .nx env1 S1 => match b env1 S1 with
        | .ok .nx env2 S2 => forL v g b n (i + 1) env2 S2
        | .ok .ct env2 S2 => forL v g b n (i + 1) env2 S2
        | .ok .brk env2 S2 => .ok .nx env2 S2
        | .ok (.rt d) env2 S2 => .ok (.rt d) env2 S2
        | .exc e env2 S2 => .exc e env2 S2
        | .bad => .bad
      | .exc e env2 S2 => .exc e env2 S2
      | _ => .bad
def whileL (c : Env → Sto → Res D) (b : Env → Sto → SRes) : Nat → Env → Sto → SRes
  | 0, _, _ => .bad
  | n + 1, env, S => match c env S with
    | .ok d S1 => match truth S1 d with
      | some true => match b env S1 with
        | .ok .nx env2 S2 => whileL c b n env2 S2
        | .ok .ct env2 S2 => whileL c b n env2 S2
        | .ok .brk env2 S2 => .ok .nx env2 S2
        | .ok (.rt d) env2 S2 => .ok (.rt d) env2 S2
        | .exc e env2 S2 => .exc e env2 S2
        | .bad => .bad
      | some false => .ok .nx env S1
      | none => .bad
    | .exc e S1 => .exc e env S1
    | .bad => .bad
/-- the tests of a clause: none: no meaning -/
inductive TRes where
  | ok (b : Bool) (S : Sto) | bad
/-- a loop of a comprehension: what a turn makes of the store -/
def compL (v : ItV) (g : D → Sto → Option (Env × Sto)) (t : Env → Sto → TRes) (b : Env → Sto → Option Sto) : Nat → Nat → Sto → Option Sto
  | 0, _, _ => none
  | n + 1, i, S => match turn v i S with
    | none => none
    | some none => some S
    | some (some d) => match g d S with
      | none => none
      | some (env1, S1) => match t env1 S1 with
        | .bad => none
        | .ok false S2 => compL v g t b n (i + 1) S2
        | .ok true S2 => match b env1 S2 with
          | none => none
          | some S3 => compL v g t b n (i + 1) S3
/-- any, all of what a generator expression hands out: stop: what ends the walk -/
def genL (v : ItV) (g : D → Sto → Option (Env × Sto)) (t : Env → Sto → TRes) (b : Env → Sto → Option (Bool × Sto)) (stop : Bool) : Nat → Nat → Sto → Option (Bool × Sto)
  | 0, _, _ => none
  | n + 1, i, S => match turn v i S with
    | none => none
    | some none => some (!stop, S)
    | some (some d) => match g d S with
      | none => none
      | some (env1, S1) => match t env1 S1 with
        | .bad => none
        | .ok false S2 => genL v g t b stop n (i + 1) S2
        | .ok true S2 => match b env1 S2 with
          | none => none
          | some (k, S3) => if k = stop then some (k, S3) else genL v g t b stop n (i + 1) S3
/-- behind a list comprehension -/
def addL (n : Nat) (d : D) (S : Sto) : Option Sto := match S[n]? with
  | some (.lst xs) => if xs.length < big then some (S.set n (.lst (xs ++ [d]))) else none
  | _ => none
def addK (n : Nat) (k v : D) (S : Sto) : Option Sto := match S[n]? with
  | some (.dct kvs) => if keyOk k && decide (kvs.length < big) then some (S.set n (.dct (dput kvs k v))) else none
  | _ => none

/-! ### the meaning -/
abbrev CallS := Nat → List D → Sto → Res D

def okO {α : Type} (r : Res α) : Option (α × Sto) := match r with
  | .ok a S => some (a, S)
  | _ => none

/-- store the pieces of a tuple -/
def boolR (o : Option Bool) (S : Sto) : Res D := match o with
  | some b => .ok (.bl b) S
  | none => .bad

mutual
def evE (C : CallS) : IE → Env → Sto → Res D
  | .var i, env, S => match env[i]? with
    | some (some d) => .ok d S
    | _ => .bad
  | .non, _, S => .ok .non S
  | .bl b, _, S => .ok (.bl b) S
  | .int i, _, S => .ok (.int i) S
  | .str s, _, S => .ok (.str s) S
  | .bin o a b, env, S => (evE C a env S).bind fun x S1 => (evE C b env S1).bind fun y S2 => binD o x y S2
  | .neg a, env, S => (evE C a env S).bind fun x S1 => match x with
    | .int i => .ok (.int (-i)) S1
    | _ => .bad
  | .inot a, env, S => (evE C a env S).bind fun x S1 => boolR ((truth S1 x).map (!·)) S1
  | .cmp o a b, env, S => (evE C a env S).bind fun x S1 => (evE C b env S1).bind fun y S2 => boolR (cmpD o x y S2) S2
  | .cmp2 o o' a b c, env, S => (evE C a env S).bind fun x S1 => (evE C b env S1).bind fun y S2 => match cmpD o x y S2 with
    | some true => (evE C c env S2).bind fun z S3 => boolR (cmpD o' y z S3) S3
    | some false => .ok (.bl false) S2
    | none => .bad
  | .iand a b, env, S => (evE C a env S).bind fun x S1 => match truth S1 x with
    | some true => evE C b env S1
    | some false => .ok x S1
    | none => .bad
  | .ior a b, env, S => (evE C a env S).bind fun x S1 => match truth S1 x with
    | some false => evE C b env S1
    | some true => .ok x S1
    | none => .bad
  | .ife c a b, env, S => (evE C c env S).bind fun x S1 => match truth S1 x with
    | some true => evE C a env S1
    | some false => evE C b env S1
    | none => .bad
  | .tup es, env, S => (evEs C es env S).bind fun ds S1 => if ds.length ≤ big then .ok (.tup ds) S1 else .bad
  | .lst es, env, S => (evEs C es env S).bind fun ds S1 => if ds.length ≤ big then alloc (.lst ds) S1 else .bad
  | .dct ps, env, S => (evPs C ps env (S ++ [.dct []])).bind fun kvs S1 => match S1[S.length]? with
    | some (.dct []) => if kvs.all (fun p => keyOk p.1) && decide (kvs.length ≤ 15) then .ok (.ref S.length) (S1.set S.length (.dct (dmerge [] kvs))) else .bad
    | _ => .bad
  | .ix a i, env, S => (evE C a env S).bind fun x S1 => (evE C i env S1).bind fun y S2 => ixD x y S2
  | .sl a lo hi, env, S => (evE C a env S).bind fun x S1 => (evEo C lo env S1).bind fun l S2 => (evEo C hi env S2).bind fun h S3 => slD x l h S3
  | .call f es, env, S => (evEs C es env S).bind fun ds S1 => C f ds S1
  | .bi f es, env, S => (evEs C es env S).bind fun ds S1 => biD f ds S1
  | .me m o es, env, S => (evE C o env S).bind fun x S1 => if meOk m x S1 then (evEs C es env S1).bind fun ds S2 => meD m x ds S2 else .bad
  | .lc vs g it ifs e, env, S => (evI C it env S).bind fun v S1 =>
    match compL v (fun d S' => (evG C g d (wipe env vs) S')) (fun env1 S' => evT C ifs env1 S') (fun env1 S' => match evE C e env1 S' with
      | .ok d S2 => addL S1.length d S2
      | _ => none) fuel 0 (S1 ++ [.lst []]) with
    | some S2 => .ok (.ref S1.length) S2
    | none => .bad
  | .lc2 vs g it ifs vs1 g1 it1 ifs1 e, env, S => (evI C it env S).bind fun v S1 =>
    match compL v (fun d S' => (evG C g d (wipe env vs) S')) (fun env1 S' => evT C ifs env1 S') (fun env1 S' => match evI C it1 env1 S' with
      | .ok v1 S2 => compL v1 (fun d S' => (evG C g1 d (wipe env1 vs1) S')) (fun env2 S' => evT C ifs1 env2 S') (fun env2 S' => match evE C e env2 S' with
        | .ok d S3 => addL S1.length d S3
        | _ => none) fuel 0 S2
      | _ => none) fuel 0 (S1 ++ [.lst []]) with
    | some S2 => .ok (.ref S1.length) S2
    | none => .bad
  | .dc vs g it ifs k w, env, S => (evI C it env S).bind fun v S1 =>
    match compL v (fun d S' => (evG C g d (wipe env vs) S')) (fun env1 S' => evT C ifs env1 S') (fun env1 S' => match evE C k env1 S' with
      | .ok dk S2 => match evE C w env1 S2 with
        | .ok dv S3 => addK S1.length dk dv S3
        | _ => none
      | _ => none) fuel 0 (S1 ++ [.dct []]) with
    | some S2 => .ok (.ref S1.length) S2
    | none => .bad
  | .dc2 vs g it ifs vs1 g1 it1 ifs1 k w, env, S => (evI C it env S).bind fun v S1 =>
    match compL v (fun d S' => (evG C g d (wipe env vs) S')) (fun env1 S' => evT C ifs env1 S') (fun env1 S' => match evI C it1 env1 S' with
      | .ok v1 S2 => compL v1 (fun d S' => (evG C g1 d (wipe env1 vs1) S')) (fun env2 S' => evT C ifs1 env2 S') (fun env2 S' => match evE C k env2 S' with
        | .ok dk S3 => match evE C w env2 S3 with
          | .ok dv S4 => addK S1.length dk dv S4
          | _ => none
        | _ => none) fuel 0 S2
      | _ => none) fuel 0 (S1 ++ [.dct []]) with
    | some S2 => .ok (.ref S1.length) S2
    | none => .bad
  | .told hs b, env, S => match evE C b env S with
    | .ok d S1 => .ok d S1
    | .exc e S1 => match hs.find? (fun h => h.1.contains e.cls) with
      | some h => .ok (.str h.2) S1
      | none => .bad
    | .bad => .bad
  | .gen stop vs g it ifs e, env, S => (evI C it env S).bind fun v S1 =>
    match genL v (fun d S' => (evG C g d (wipe env vs) S')) (fun env1 S' => evT C ifs env1 S') (fun env1 S' => match evE C e env1 S' with
      | .ok (.bl k) S2 => some (k, S2)
      | _ => none) stop fuel 0 S1 with
    | some (k, S2) => .ok (.bl k) S2
    | none => .bad
  | .isi t a, env, S => (evE C a env S).bind fun x S1 => boolR (isiD t x S1) S1
def evEs (C : CallS) : IEs → Env → Sto → Res (List D)
  | .nil, _, S => .ok [] S
  | .cons e es, env, S => (evE C e env S).bind fun x S1 => (evEs C es env S1).bind fun xs S2 => .ok (x :: xs) S2
def evEo (C : CallS) : IEo → Env → Sto → Res (Option Int)
  | .none, _, S => .ok none S
  | .some e, env, S => (evE C e env S).bind fun x S1 => match x with
    | .int i => .ok (some i) S1
    | _ => .bad
def evPs (C : CallS) : IPs → Env → Sto → Res (List (D × D))
  | .nil, _, S => .ok [] S
  | .cons k v ps, env, S => (evE C k env S).bind fun x S1 => (evE C v env S1).bind fun y S2 => (evPs C ps env S2).bind fun r S3 => .ok ((x, y) :: r) S3
def evI (C : CallS) : II → Env → Sto → Res ItV
  | .val e, env, S => (evE C e env S).bind fun x S1 => match x with
    | .tup ds => .ok (.tup ds) S1
    | .str s => .ok (.str s) S1
    | .ref n => match items S1 n with
      | some _ => .ok (.lst n) S1
      | none => .bad
    | _ => .bad
  | .rng1 a, env, S => (evE C a env S).bind fun x S1 => match x with
    | .int j => if word j then .ok (.rng 0 1 j.toNat) S1 else .bad
    | _ => .bad
  | .rng2 a b, env, S => (evE C a env S).bind fun x S1 => (evE C b env S1).bind fun y S2 => match x, y with
    | .int i, .int j => if word i && word j then .ok (.rng i 1 (j - i).toNat) S2 else .bad
    | _, _ => .bad
  | .rng3 a b c, env, S => (evE C a env S).bind fun x S1 => (evE C b env S1).bind fun y S2 => (evE C c env S2).bind fun z S3 => match x, y, z with
    | .int i, .int j, .int k => if word i && word j && decide (k = -1) then .ok (.rng i (-1) (i - j).toNat) S3 else .bad
    | _, _, _ => .bad
  | .enum e, env, S => (evE C e env S).bind fun x S1 => match x with
    | .tup ds => .ok (.enumT ds) S1
    | .ref n => match items S1 n with
      | some _ => .ok (.enumL n) S1
      | none => .bad
    | _ => .bad
  | .zip a b, env, S => (evE C a env S).bind fun x S1 => (evE C b env S1).bind fun y S2 => match x, y with
    | .tup ds, .tup es => .ok (.zipT ds es) S2
    | .ref n, .ref m => match items S2 n, items S2 m with
      | some _, some _ => .ok (.zipL n m) S2
      | _, _ => .bad
    | _, _ => .bad
  | .rev e, env, S => (evE C e env S).bind fun x S1 => match x with
    | .tup ds => .ok (.revT ds) S1
    | .ref n => match items S1 n with
      | some xs => .ok (.revL n xs.length) S1
      | none => .bad
    | _ => .bad
/-- the tests of a clause -/
def evT (C : CallS) : IEs → Env → Sto → TRes
  | .nil, _, S => .ok true S
  | .cons e _, env, S => match evE C e env S with
    | .ok d S1 => match truth S1 d with
      | some b => .ok b S1
      | none => .bad
    | _ => .bad
def evG (C : CallS) : IG → D → Env → Sto → Option (Env × Sto)
  | .var i, d, env, S => some (env.set i (some d), S)
  | .tup gs, d, env, S => match d with
    | .tup ds => evGs C gs ds env S
    | _ => none
  | .sub o i, d, env, S => match evE C o env S with
    | .ok x S1 => match evE C i env S1 with
      | .ok y S2 => (setD x y d S2).map fun S3 => (env, S3)
      | _ => none
    | _ => none
def evGs (C : CallS) : IGs → List D → Env → Sto → Option (Env × Sto)
  | .nil, [], env, S => some (env, S)
  | .cons g gs, d :: ds, env, S => match evG C g d env S with
    | some (env1, S1) => evGs C gs ds env1 S1
    | none => none
  | _, _, _, _ => none
end

def parEnv : List Nat → List D → Env → Option Env
  | [], [], env => some env
  | i :: is, d :: ds, env => parEnv is ds (env.set i (some d))
  | _, _, _ => none

mutual
def evS (C : CallS) : IS → Env → Sto → SRes
  | .asg g e, env, S => match evE C e env S with
    | .ok d S1 => match evG C g d env S1 with
      | some (env2, S2) => .ok .nx env2 S2
      | none => .bad
    | .exc e S1 => .exc e env S1
    | .bad => .bad
  | .par xs es, env, S => match evEs C es env S with
    | .ok ds S1 => match parEnv xs ds env with
      | some env2 => .ok .nx env2 S1
      | none => .bad
    | .exc e S1 => .exc e env S1
    | .bad => .bad
  | .aug i o e, env, S => match env[i]? with
    | some (some x) => match evE C e env S with
      | .ok y S1 => match augD o x y S1 with
        | .ok z S2 => .ok .nx (env.set i (some z)) S2
        | _ => .bad
      | .exc e S1 => .exc e env S1
      | .bad => .bad
    | _ => .bad
  | .expr e, env, S => match evE C e env S with
    | .ok _ S1 => .ok .nx env S1
    | .exc e S1 => .exc e env S1
    | .bad => .bad
  | .ret e, env, S => match evE C e env S with
    | .ok d S1 => .ok (.rt d) env S1
    | .exc e S1 => .exc e env S1
    | .bad => .bad
  | .retN, env, S => .ok (.rt .non) env S
  | .ite c a b, env, S => match evE C c env S with
    | .ok d S1 => match truth S1 d with
      | some true => evSs C a env S1
      | some false => evSs C b env S1
      | none => .bad
    | .exc e S1 => .exc e env S1
    | .bad => .bad
  | .whil c b, env, S => whileL (fun env' S' => evE C c env' S') (fun env' S' => evSs C b env' S') fuel env S
  | .fori g it b, env, S => match evI C it env S with
    | .ok v S1 => forL v (fun d env' S' => match evG C g d env' S' with
      | some (env2, S2) => .ok .nx env2 S2
      | none => .bad) (fun env' S' => evSs C b env' S') fuel 0 env S1
    | .exc e S1 => .exc e env S1
    | .bad => .bad
  | .brk, env, S => .ok .brk env S
  | .cont, env, S => .ok .ct env S
  | .pass, env, S => .ok .nx env S
  | .never, _, _ => .bad
  | .rais c, env, S => .exc ⟨c, none⟩ env S
  | .raisF c e, env, S => match evE C e env S with
    | .ok d S1 => .exc ⟨c, some d⟩ env S1
    | .exc e S1 => .exc e env S1
    | .bad => .bad
  | .tryF b cs, env, S => match evSs C b env S with
    | .exc e env1 S1 => if cs.contains e.cls then (match e.fld with
      | some d => .ok (.rt d) env1 S1
      | none => .bad) else .exc e env1 S1
    | r => r
def evSs (C : CallS) : ISs → Env → Sto → SRes
  | .nil, env, S => .ok .nx env S
  | .cons s ss, env, S => match evS C s env S with
    | .ok .nx env1 S1 => evSs C ss env1 S1
    | r => r
end

/-! ### calls -/
mutual
/-- no list, no dict within -/
def pur : D → Bool
  | .ref _ => false
  | .tup ds => purs ds
  | .fl ds => purs ds
  | _ => true
def purs : List D → Bool
  | [] => true
  | d :: ds => pur d && purs ds
end
def purO : MO → Bool
  | .lst xs => purs xs
  | .dct kvs => kvs.all fun p => pur p.2
  | .fd _ => false
mutual
def ren (f : Nat → Nat) : D → D
  | .ref n => .ref (f n)
  | .tup ds => .tup (rens f ds)
  | .fl ds => .fl (rens f ds)
  | d => d
def rens (f : Nat → Nat) : List D → List D
  | [] => []
  | d :: ds => ren f d :: rens f ds
end
def renO (f : Nat → Nat) : MO → MO
  | .lst xs => .lst (rens f xs)
  | .dct kvs => .dct (kvs.map fun p => (p.1, ren f p.2))
  | .fd kvs => .fd (kvs.map fun p => (p.1, ren f p.2))
/-- the arguments in the callee's own store: their places there, the places of what they name -/
def argsIn : List D → List Nat → Option (List D × List Nat)
  | [], is => some ([], is)
  | .ref n :: ds, is => if n ∈ is then none else (argsIn ds (is ++ [n])).map fun p => (.ref is.length :: p.1, p.2)
  | d :: ds, is => if pur d then (argsIn ds is).map fun p => (d :: p.1, p.2) else none
def objsIn (S : Sto) : List Nat → Option Sto
  | [] => some []
  | n :: r => match S[n]? with
    | some o => if purO o then (objsIn S r).map (o :: ·) else none
    | none => none
def back : Sto → List Nat → Sto → Sto
  | S, n :: is, o :: S1 => back (S.set n o) is S1
  | S, _, _ => S

structure Def where
  np : Nat
  ns : Nat
  body : ISs

/-- behind a call: is: the places of the objects handed in; S1: the callee's store -/
def leave (S : Sto) (is : List Nat) (v : D) (S1 : Sto) : Res D :=
  if (S1.take is.length).all purO then
    if pur v then .ok v (back S is (S1.take is.length))
    else
      let f := fun j => if j < is.length then is.getD j 0 else S.length + (j - is.length)
      match v with
      | .ref j => match S1[j]? with
        | some o => if purO o && decide (is.length ≤ j) then .ok (.ref S.length) (back S is (S1.take is.length) ++ [o])
          else .ok (ren f v) (back S is (S1.take is.length) ++ (S1.drop is.length).map (renO f))
        | none => .bad
      | v => .ok (ren f v) (back S is (S1.take is.length) ++ (S1.drop is.length).map (renO f))
  else .bad
def startE (d : Def) (args : List D) : Env := args.map some ++ List.replicate (d.ns - d.np) none
def purX (e : Ex) : Bool := match e.fld with
  | none => true
  | some d => pur d
/-- behind an exception -/
def leaveX (S : Sto) (is : List Nat) (e : Ex) (S1 : Sto) : Res D := if (S1.take is.length).all purO && purX e then .exc e (back S is (S1.take is.length)) else .bad
/-- a call upon the caller's store -/
def callShared (d : Def) (C : CallS) (args : List D) (S : Sto) : Res D := match evSs C d.body (startE d args) S with
  | .ok .nx _ S1 => .ok .non S1
  | .ok (.rt v) _ S1 => .ok v S1
  | .exc e _ S1 => .exc e S1
  | _ => .bad
def callD (d : Def) (C : CallS) (args : List D) (S : Sto) : Res D :=
  if args.length = d.np then
    match argsIn args [] with
    | some (args', is) => match objsIn S is with
      | some S0 => match evSs C d.body (startE d args') S0 with
        | .ok .nx _ S1 => leave S is .non S1
        | .ok (.rt v) _ S1 => leave S is v S1
        | .exc e _ S1 => leaveX S is e S1
        | _ => .bad
      | none => callShared d C args S
    | none => callShared d C args S
  else .bad
def callSem (P : List Def) : Nat → CallS
  | 0 => fun _ _ _ => .bad
  | n + 1 => fun f args S => match P[f]? with
    | some d => callD d (callSem P n) args S
    | none => .bad
end Ev
end
section
/-! From the text's syntax to the intermediate form. -/
namespace Ev
open PySem (Expr Stmt Str Scope NameKind ScopeKind Comprehension Const Pos)

/-- the names: slots, the scope that runs, the text's defs by number -/
structure Cn where
  N : List Str
  sc : Scope
  fns : List Str
  /-- exceptions' classes by number; those with a field; which classes each one catches -/
  cls : List Str
  flds : List Nat
  sub : List (List Nat)
  /-- the module's constants -/
  cst : List (Str × IE)
  /-- defs that call what they get and tell exceptions by texts -/
  told : List (Str × List (Nat × List Nat))
  /-- the places of lambdas that are told -/
  lam : List (Nat × Nat)
  /-- room; how deep generators may be made here; may lambdas be made -/
  d : Nat
  gen : Option Nat
  lmk : Bool

def ixOf (x : Str) : List Str → Option Nat
  | [] => none
  | a :: r => if a = x then some 0 else (ixOf x r).map (· + 1)

def Cn.slot (c : Cn) (x : Str) : Option Nat :=
  if (c.sc.names.lookup x == some .local || c.sc.names.lookup x == some .cell || c.sc.names.lookup x == some .free) && !(x == ("__debug__" : Str)) && !(x == ("__classdict__" : Str)) then ixOf x c.N else none
/-- a slot that is stored to -/
def Cn.slotW (c : Cn) (x : Str) : Option Nat :=
  if (c.sc.names.lookup x == some .local || c.sc.names.lookup x == some .cell) && !(x == ("__debug__" : Str)) && !(x == ("__classdict__" : Str)) then ixOf x c.N else none
def Cn.glob (c : Cn) (x : Str) : Bool := c.sc.names.lookup x == some .globalImplicit && !(x == ("__debug__" : Str))

def starred : Expr → Bool
  | .Starred .. => true
  | _ => false
def isComp : Expr → Bool
  | .ListComp .. => true
  | .SetComp .. => true
  | .DictComp .. => true
  | _ => false
def isSet : Expr → Bool
  | .Set .. => true
  | _ => false
def isListD : Expr → Bool
  | .List .. => true
  | _ => false
def isSlice : Expr → Bool
  | .Slice .. => true
  | _ => false
def isCall : Expr → Bool
  | .Call .. => true
  | _ => false

/-- the scope of a comprehension's block -/
def relS' (scope sc : Scope) : Scope :=
  { scope with names := scope.names.map fun (n, k) => if (k == .free && sc.kind == .function && sc.names.lookup n == some .cell) then (n, .cell) else (n, k) }
/-- a comprehension's own names, with their slots -/
def ownOf (N : List Str) : List (Str × NameKind) → List (Str × Nat)
  | [] => []
  | (n, k) :: r => match (if k = .local ∨ k = .cell then ixOf n N else none) with
    | some i => (n, i) :: ownOf N r
    | none => ownOf N r
def uniqB (l : List (Str × NameKind)) : Bool := l.all fun y => l.lookup y.1 == some y.2
def freeB (l : List (Str × NameKind)) (sc : Scope) : Bool := l.all fun y => y.2 != .free || sc.names.lookup y.1 == some .cell || sc.names.lookup y.1 == some .free
def blkB (N : List Str) (sc scope : Scope) : Bool :=
  scope.kind == .function && sc.kind == .function && uniqB scope.names && freeB scope.names sc

def bop : PySem.Operator → Option BOp
  | .Add => some .add | .Sub => some .sub | .Mult => some .mul | .FloorDiv => some .fdiv | .Mod => some .mod | .Pow => some .pow
  | _ => none
def cop (isN : Bool) : PySem.CmpOp → Option COp
  | .Eq => some .eq | .NotEq => some .ne | .Lt => some .lt | .LtE => some .le | .Gt => some .gt | .GtE => some .ge
  | .In => some .isin | .NotIn => some .notin
  | .Is => if isN then some .isN else none
  | .IsNot => if isN then some .notN else none
def isNone : Expr → Bool
  | .Constant .none _ _ => true
  | _ => false
def builtinOf (x : Str) (n : Nat) : Option BI :=
  if x = ("len" : Str) ∧ n = 1 then some .len else if x = ("abs" : Str) ∧ n = 1 then some .abs else if x = ("int" : Str) ∧ n = 1 then some .int
  else if x = ("max" : Str) ∧ n = 2 then some .max2 else if x = ("min" : Str) ∧ n = 2 then some .min2 else if x = ("tuple" : Str) ∧ n = 1 then some .tuple
  else if x = ("list" : Str) ∧ n = 1 then some .list else if x = ("sorted" : Str) ∧ n = 1 then some .sorted else if x = ("sum" : Str) ∧ n = 1 then some .sum
  else if x = ("max" : Str) ∧ n = 1 then some .maxl else if x = ("min" : Str) ∧ n = 1 then some .minl else none
def methodOf (x : Str) (n : Nat) : Option ME :=
  if x = ("append" : Str) ∧ n = 1 then some .append else if x = ("index" : Str) ∧ n = 1 then some .index
  else none
def tyOf (x : Str) : Option Ty :=
  if x = ("int" : Str) then some .int else if x = ("str" : Str) then some .str else if x = ("tuple" : Str) then some .tuple
  else if x = ("list" : Str) then some .list else if x = ("dict" : Str) then some .dict else if x = ("bool" : Str) then some .bool else none
def genOf (x : Str) : Option Bool := if x = ("any" : Str) then some true else if x = ("all" : Str) then some false else none
def genIn : Nat → Option Nat
  | 0 => none
  | j + 1 => some j
/-- no parameters at all -/
def bareArgs : PySem.Arguments → Bool
  | ⟨[], [], none, [], [], none, []⟩ => true
  | _ => false
/-- a generator's scope -/
def genB (N : List Str) (scope : Scope) : Bool :=
  !scope.isCoroutine && scope.names.all (fun y => y.2 != .cell) && scope.names.lookup (".0" : Str) == some .local && (ixOf (".0" : Str) N).isNone
/-- a lambda's scope -/
def lamB (sc scope : Scope) : Bool :=
  scope.kind == .function && !scope.isCoroutine && !scope.isGenerator && scope.names.all fun y => y.2 != .local && y.2 != .cell && (y.2 != .free || sc.names.lookup y.1 == some .cell || sc.names.lookup y.1 == some .free)
/-- a told def's clauses: the classes that each catches -/
def toldHs (c : Cn) (hs : List (Nat × List Nat)) : Option (List (List Nat × List Nat)) := hs.mapM fun h => (c.sub[h.1]?).map fun l => (l, h.2)

/-- slots that a target stores to -/
def gslots : IG → List Nat
  | .var i => [i]
  | .tup gs => gslotss gs
  | .sub _ _ => []
where gslotss : IGs → List Nat
  | .nil => []
  | .cons g gs => gslots g ++ gslotss gs
/-- a target of names alone -/
def gplain : IG → Bool
  | .var _ => true
  | .tup gs => gplains gs
  | .sub _ _ => false
where gplains : IGs → Bool
  | .nil => true
  | .cons g gs => gplain g && gplains gs

/-- a target that takes apart what enumerate, zip give -/
def isTup : Expr → Bool
  | .Tuple .. => true
  | _ => false
def pairsOnly : II → Bool
  | .enum _ => true
  | .zip _ _ => true
  | _ => false

mutual
def trE : Nat → Cn → Expr → Option IE
  | 0, _, _ => none
  | n + 1, c, e => match e with
    | .Name x _ => match c.slot x with
      | some i => some (.var i)
      | none => if c.glob x then c.cst.lookup x else none
    | .Constant k _ _ => match k with
      | .none => some .non
      | .bool b => some (.bl b)
      | .int i => some (.int i)
      | .str s => some (.str s.cps.toList)
      | _ => none
    | .BinOp a o b _ => do
      let o ← bop o
      let a ← trE n c a
      let b ← trE n c b
      some (.bin o a b)
    | .UnaryOp .USub a _ => (trE n c a).map .neg
    | .UnaryOp .Not a _ => (trE n c a).map .inot
    | .BoolOp o es _ => match es with
      | [] => none
      | a :: r => do
        let a ← trE n c a
        trB n c (match o with | .And => true | .Or => false) a r
    | .IfExp t a b _ => do
      let t ← trE n c t
      let a ← trE n c a
      let b ← trE n c b
      some (.ife t a b)
    | .Compare a ops cs _ => match ops, cs with
      | [o], [b] => if isSet b then none else do
        let o ← cop (isNone b) o
        let a ← trE n c a
        let b ← trE n c b
        some (.cmp o a b)
      | [o, o'], [b, d] => if isSet d then none else do
        let o ← cop false o
        let o' ← cop false o'
        let a ← trE n c a
        let b ← trE n c b
        let d ← trE n c d
        some (.cmp2 o o' a b d)
      | _, _ => none
    | .Tuple es _ _ => (trEs n c es).map .tup
    | .List es _ => (trEs n c es).map .lst
    | .Dict ks vs _ => if ks.length ≤ 15 then (trPs n c ks vs).map .dct else none
    | .Subscript a i _ => match i with
      | .Slice lo hi st _ => match st with
        | none => do
          let a ← trE n c a
          let lo ← trO n c lo
          let hi ← trO n c hi
          some (.sl a lo hi)
        | some _ => none
      | i => do
        let a ← trE n c a
        let i ← trE n c i
        some (.ix a i)
    | .Call f es ks pos => match ks with
      | [] => match f with
        | .Name x _ => if c.glob x then
            match genOf x, es with
            | some stop, [.GeneratorExp elt [⟨tg, iter, ifs, 0⟩] scope gpos] =>
              match c.gen, c.d with
              | some k, d + 1 => if (ixOf x c.fns).isNone && blkB c.N c.sc scope && genB c.N scope && !(c.lam.contains (gpos.line, gpos.col)) && !isSet iter && !isListD iter then do
                let it ← trI n c iter
                let vs := (ownOf c.N scope.names).map (·.2)
                let c' : Cn := { c with sc := scope, d := d, gen := genIn k, lmk := false }
                let g ← trG n c' tg
                let ifs ← trT n c' ifs
                let e ← trE n c' elt
                if gplain g && (gslots g).all vs.contains && !(pairsOnly it && !isTup tg) then some (.gen stop vs g it ifs e) else none
              else none
              | _, _ => none
            | _, [.Lambda params body scope lpos] =>
              match c.told.lookup x, c.d with
              | some hs, d + 2 => if c.lmk && bareArgs params && lamB c.sc scope && c.lam.contains (lpos.line, lpos.col) then do
                let hs ← toldHs c hs
                let b ← trE n { c with sc := scope, d := d, gen := none, lmk := false } body
                some (.told hs b)
              else none
              | _, _ => none
            | _, [a, .Name ty _] =>
              if x = ("isinstance" : Str) then (if (ixOf x c.fns).isNone && c.glob ty && (ixOf ty c.fns).isNone && !starred a then do
                let t ← tyOf ty
                let a ← trE n c a
                some (.isi t a) else none)
              else trCall n c x es
            | _, es => trCall n c x es
            else none
        | .Attribute o m apos => if isCall o || !(apos.endLine == pos.line) then none else do
          let m ← methodOf m es.length
          let o ← trE n c o
          let es ← trEs n c es
          some (.me m o es)
        | _ => none
      | _ => none
    | .ListComp elt gens scope _ => match gens with
      | [⟨tg, iter, ifs, 0⟩] => if blkB c.N c.sc scope then do
          let it ← trI n c iter
          let vs := (ownOf c.N scope.names).map (·.2)
          let c' : Cn := { c with sc := relS' scope c.sc }
          let g ← trG n c' tg
          let ifs ← trT n c' ifs
          let e ← trE n c' elt
          if gplain g && (gslots g).all vs.contains && !(pairsOnly it && !isTup tg) then some (.lc vs g it ifs e) else none
        else none
      | [⟨tg, iter, ifs, 0⟩, ⟨tg1, iter1, ifs1, 0⟩] => if blkB c.N c.sc scope then do
          let it ← trI n c iter
          let vs := (ownOf c.N scope.names).map (·.2)
          let c' : Cn := { c with sc := relS' scope c.sc }
          let g ← trG n c' tg
          let ifs ← trT n c' ifs
          let it1 ← trI n c' iter1
          let g1 ← trG n c' tg1
          let ifs1 ← trT n c' ifs1
          let e ← trE n c' elt
          if gplain g && (gslots g).all vs.contains && gplain g1 && (gslots g1).all vs.contains && !(pairsOnly it && !isTup tg) && !(pairsOnly it1 && !isTup tg1) then some (.lc2 vs g it ifs (gslots g1) g1 it1 ifs1 e) else none
        else none
      | _ => none
    | .DictComp k v gens scope _ => match gens with
      | [⟨tg, iter, ifs, 0⟩] => if blkB c.N c.sc scope then do
          let it ← trI n c iter
          let vs := (ownOf c.N scope.names).map (·.2)
          let c' : Cn := { c with sc := relS' scope c.sc }
          let g ← trG n c' tg
          let ifs ← trT n c' ifs
          let k ← trE n c' k
          let v ← trE n c' v
          if gplain g && (gslots g).all vs.contains && !(pairsOnly it && !isTup tg) then some (.dc vs g it ifs k v) else none
        else none
      | [⟨tg, iter, ifs, 0⟩, ⟨tg1, iter1, ifs1, 0⟩] => if blkB c.N c.sc scope then do
          let it ← trI n c iter
          let vs := (ownOf c.N scope.names).map (·.2)
          let c' : Cn := { c with sc := relS' scope c.sc }
          let g ← trG n c' tg
          let ifs ← trT n c' ifs
          let it1 ← trI n c' iter1
          let g1 ← trG n c' tg1
          let ifs1 ← trT n c' ifs1
          let k ← trE n c' k
          let v ← trE n c' v
          if gplain g && (gslots g).all vs.contains && gplain g1 && (gslots g1).all vs.contains && !(pairsOnly it && !isTup tg) && !(pairsOnly it1 && !isTup tg1) then some (.dc2 vs g it ifs (gslots g1) g1 it1 ifs1 k v) else none
        else none
      | _ => none
    | _ => none
/-- a call of a def or a built-in by its name -/
def trCall : Nat → Cn → Str → List Expr → Option IE
  | 0, _, _, _ => none
  | n + 1, c, x, es => match ixOf x c.fns with
    | some k => if es.isEmpty then none else (trEs n c es).map (.call k)
    | none => match builtinOf x es.length with
      | some b => (trEs n c es).map (.bi b)
      | none => none
/-- the rest of an and, an or -/
def trB : Nat → Cn → Bool → IE → List Expr → Option IE
  | 0, _, _, _, _ => none
  | n + 1, c, o, a, r => match r with
    | [] => some a
    | b :: r => do
      let b ← trE n c b
      let r ← trB n c o b r
      some (if o then .iand a r else .ior a r)
def trEs : Nat → Cn → List Expr → Option IEs
  | 0, _, _ => none
  | n + 1, c, es => match es with
    | [] => some .nil
    | e :: r => if starred e then none else do
      let e ← trE n c e
      let r ← trEs n c r
      some (.cons e r)
def trPs : Nat → Cn → List (Option Expr) → List Expr → Option IPs
  | 0, _, _, _ => none
  | n + 1, c, ks, vs => match ks, vs with
    | [], [] => some .nil
    | some k :: ks, v :: vs => do
      let k ← trE n c k
      let v ← trE n c v
      let r ← trPs n c ks vs
      some (.cons k v r)
    | _, _ => none
def trO : Nat → Cn → Option Expr → Option IEo
  | 0, _, _ => none
  | n + 1, c, e => match e with
    | none => some .none
    | some e => (trE n c e).map .some
def trI : Nat → Cn → Expr → Option II
  | 0, _, _ => none
  | n + 1, c, e => if isSet e then none else
    match e with
    | .Call (.Name x _) es ks _ => match ks with
      | [] => if c.glob x && (ixOf x c.fns).isNone then
          if x = ("range" : Str) then match es with
            | [a] => if starred a then none else (trE n c a).map .rng1
            | [a, b] => if starred a || starred b then none else do
              let a ← trE n c a
              let b ← trE n c b
              some (.rng2 a b)
            | [a, b, d] => if starred a || starred b || starred d then none else do
              let a ← trE n c a
              let b ← trE n c b
              let d ← trE n c d
              some (.rng3 a b d)
            | _ => none
          else if x = ("enumerate" : Str) then match es with
            | [a] => if starred a then none else (trE n c a).map .enum
            | _ => none
          else if x = ("zip" : Str) then match es with
            | [a, b] => if starred a || starred b then none else do
              let a ← trE n c a
              let b ← trE n c b
              some (.zip a b)
            | _ => none
          else if x = ("reversed" : Str) then match es with
            | [a] => if starred a then none else (trE n c a).map .rev
            | _ => none
          else (trE n c e).map .val
        else (trE n c e).map .val
      | _ => none
    | e => (trE n c e).map .val
/-- the tests of a clause: none or one -/
def trT : Nat → Cn → List Expr → Option IEs
  | 0, _, _ => none
  | n + 1, c, es => match es with
    | [] => some .nil
    | [e] => (trE n c e).map fun e => .cons e .nil
    | _ => none
def trG : Nat → Cn → Expr → Option IG
  | 0, _, _ => none
  | n + 1, c, e => match e with
    | .Name x _ => (c.slotW x).map .var
    | .Tuple es _ _ => (trGs n c es).map .tup
    | .Subscript o i _ => if isSlice i then none else do
      let o ← trE n c o
      let i ← trE n c i
      some (.sub o i)
    | _ => none
def trGs : Nat → Cn → List Expr → Option IGs
  | 0, _, _ => none
  | n + 1, c, es => match es with
    | [] => some .nil
    | e :: r => if starred e then none else do
      let g ← trG n c e
      let r ← trGs n c r
      some (.cons g r)
end

/-- the names of a parallel store: all plain locals, on one line -/
def parNames (c : Cn) (ts : List Expr) : List Str :=
  let line := (ts.head?.map (·.pos.line)).getD 0
  ts.filterMap fun
    | .Name id pos => if c.sc.names.lookup id == some .local && pos.line == line then some id else none
    | _ => none
/-- some none: stored one after another; some (some names): a parallel store of plain locals -/
def parOf (c : Cn) (ts vs : List Expr) : Option (Option (List Str)) :=
  if !(ts.length == 2 || ts.length == 3) || vs.length != ts.length then some none
  else if vs.any starred then some none
  else
    let names := parNames c ts
    if names.length != ts.length || names.eraseDups.length != names.length then some none
    else if vs.all (PySem.foldedForSure 8) then some none
    else if vs.all (PySem.constantsAlone 8) then none
    else some (some names)

/-- raise C(..), C an own class of exceptions -/
def trRaise (n : Nat) (c : Cn) (a b : Option Expr) : Option IS := match a, b with
  | some (.Call (.Name x _) [a] [] _), none => match ixOf x c.cls with
    | some k => if c.glob x then (if c.flds.contains k then (if starred a then none else (trE n c a).map (.raisF k)) else match a with
      | .Constant (.str _) _ _ => some (.rais k)
      | _ => none) else none
    | none => none
  | _, _ => some .never
/-- try: .. except C as e: return e.f -/
def trTry (c : Cn) (hs : List PySem.ExceptHandler) (o f : List Stmt) (b : Option ISs) : Option IS := match hs, o, f with
  | [.ExceptHandler (some (.Name x _)) (some m) [.Return (some (.Attribute (.Name m' _) _ _)) _] _], [], [] => match ixOf x c.cls, c.slotW m with
    | some k, some _ => if c.glob x && m == m' && c.flds.contains k then do
      let l ← c.sub[k]?
      let b ← b
      some (.tryF b l) else none
    | _, _ => none
  | _, _, _ => none

mutual
def trS : Nat → Cn → Stmt → Option IS
  | 0, _, _ => none
  | n + 1, c, s => match s with
    | .Assign ts v _ => match ts with
      | [t] => if starred t then none else
        match t, v with
        | .Tuple ts _ _, .Tuple vs _ _ => match parOf c ts vs with
          | none => none
          | some none => do
            let g ← trG n c t
            let e ← trE n c v
            some (.asg g e)
          | some (some xs) => do
            let es ← trEs n c vs
            let is ← xs.mapM c.slotW
            if is.eraseDups.length == is.length then some (.par is es) else none
        | t, v => do
          let g ← trG n c t
          let e ← trE n c v
          some (.asg g e)
      | _ => none
    | .AugAssign t o v _ => match t with
      | .Name x _ => do
        let i ← c.slotW x
        let o ← bop o
        let e ← trE n c v
        if o = .pow then none else some (.aug i o e)
      | _ => none
    | .Expr e _ => if isComp e then none else (trE n c e).map .expr
    | .Return v _ => match v with
      | none => some .retN
      | some e => (trE n c e).map .ret
    | .If t a b _ => do
      let t ← trE n c t
      let a ← trSs n c a
      let b ← trSs n c b
      some (.ite t a b)
    | .While t b o _ => match o with
      | [] => do
        let t ← trE n c t
        let b ← trSs n c b
        some (.whil t b)
      | _ => none
    | .For t it b o _ => match o with
      | [] => if starred t then none else do
        let g ← trG n c t
        let i ← trI n c it
        let b ← trSs n c b
        if pairsOnly i && !isTup t then none else some (.fori g i b)
      | _ => none
    | .Break _ => some .brk
    | .Continue _ => some .cont
    | .Pass _ => some .pass
    | .Raise a b _ => trRaise n c a b
    | .Try b hs o f _ => trTry c hs o f (trSs n c b)
    | _ => none
def trSs : Nat → Cn → List Stmt → Option ISs
  | 0, _, _ => none
  | n + 1, c, ss => match ss with
    | [] => some .nil
    | s :: r => do
      let s ← trS n c s
      let r ← trSs n c r
      some (.cons s r)
end

/-- all names of a def by slot: its parameters, the names of its scope, then the comprehensions' own -/
structure DefT where
  name : Str
  N : List Str
  ps : List Str
  st : Stmt
def bodyOf : Stmt → List Stmt
  | .FunctionDef _ _ b _ _ _ _ _ _ _ => b
  | _ => []
def scopeOf : Stmt → Scope
  | .FunctionDef _ _ _ _ _ _ sc _ _ _ => sc
  | _ => ⟨.function, [], false, false, []⟩
/-- what the whole text tells -/
structure Txt where
  fns : List Str
  cls : List Str
  flds : List Nat
  sub : List (List Nat)
  cst : List (Str × IE)
  told : List (Str × List (Nat × List Nat))
  lam : List (Nat × Nat)
/-- a def's names: d: room; gen, mk: may it make generators, lambdas -/
def Txt.cn (X : Txt) (d : Nat) (D : DefT) (gen : Option Nat) (mk : Bool) : Cn := ⟨D.N, scopeOf D.st, X.fns, X.cls, X.flds, X.sub, X.cst, X.told, X.lam, d, gen, mk⟩
def trDef (X : Txt) (d : Nat) (D : DefT) (gen : Option Nat) (mk : Bool) : Option Def :=
  (trSs 200 (X.cn d D gen mk) (bodyOf D.st)).map fun b => ⟨D.ps.length, D.N.length, b⟩
end Ev
end
section
/-! The relation between the evaluator's values and the abstract heap's. -/
namespace Ev
open PySem L2 PyProof.Rows
open PySem.W (Frag)

def sv (s : List Nat) : Str := ⟨s.toArray⟩
@[simp] theorem sv_list (s : List Nat) : (sv s).cps.toList = s := by simp [sv]
theorem sv_cps (x : Str) : sv x.cps.toList = x := by cases x; simp [sv]
theorem sv_len (s : List Nat) : (sv s).length = s.length := by simp [sv, Str.length]
theorem sv_inj {s t : List Nat} : sv s = sv t ↔ s = t := by simp [sv]

/-- a list that is only read: locked, or an object of the module -/
def SqF (K : Frag) (H : Hp) (a : Addr) (xs : List V) : Prop :=
  (∃ o, H a = some (.frz o (.lst xs))) ∨
    ∃ (o : Obj) (its : Array Value) (n : Nat), K.lookup a = some o ∧ o.cls = .type "list" ∧ o.dict = none ∧ o.data = .seq its n ∧ its.size ≤ sizeLine ∧ Vals xs its.toList
theorem SqF.sq {K : Frag} {H : Hp} {a : Addr} {xs : List V} (h : SqF K H a xs) : SqL K H a xs := h.elim (fun h => .inl (.inr h)) .inr
mutual
inductive RepV (K : Frag) (H : Hp) (r : List Addr) : D → V → Prop
  | non : RepV K H r .non .non
  | bl (b : Bool) : RepV K H r (.bl b) (.bl b)
  | int (i : Int) : RepV K H r (.int i) (.int i)
  | str (s : List Nat) : RepV K H r (.str s) (.str (sv s))
  | ref {n : Nat} {a : Addr} : r[n]? = some a → RepV K H r (.ref n) (.ref a)
  | tup {ds : List D} {a : Addr} {xs : List V} : SqT K H a xs → RepVs K H r ds xs → RepV K H r (.tup ds) (.ref a)
  | fl {ds : List D} {a : Addr} {xs : List V} : SqF K H a xs → RepVs K H r ds xs → RepV K H r (.fl ds) (.ref a)
inductive RepVs (K : Frag) (H : Hp) (r : List Addr) : List D → List V → Prop
  | nil : RepVs K H r [] []
  | cons {d : D} {ds : List D} {x : V} {xs : List V} : RepV K H r d x → RepVs K H r ds xs → RepVs K H r (d :: ds) (x :: xs)
end
def keyD : D → Option Key
  | .int i => some (.inl i)
  | .str s => some (.inr (sv s))
  | _ => none
inductive RepK (K : Frag) (H : Hp) (r : List Addr) : List (D × D) → List (Key × V) → Prop
  | nil : RepK K H r [] []
  | cons {k v : D} {kv : List (D × D)} {q : Key} {x : V} {qs : List (Key × V)} : keyD k = some q → RepV K H r v x → RepK K H r kv qs → RepK K H r ((k, v) :: kv) ((q, x) :: qs)

/-! ### tables of code objects -/
/-- a code object at c whose table is at P -/
def CodeG (c P : Addr) : HO := .ext fun h => PySem.W.CodeHd h c P
/-- the table at P: a lambda's code objects (at the places ls) bear the name q; other code objects have tables of their own, n deep -/
def TabG : Nat → Hp → Addr → List (Nat × Nat) → Str → Prop
  | 0, H, P, _, _ => ∃ ps : Array Value, H P = some (.tbl ps) ∧ TriplesOk ps.toList
  | n + 1, H, P, ls, q => ∃ ps : Array Value, H P = some (.tbl ps) ∧ TriplesOk ps.toList ∧ ∀ (pos : Pos) (cv : Value), codeAmong pos ps.toList = some cv → ∃ c, cv = .ref c ∧
      (((pos.line, pos.col) ∈ ls ∧ H c = some (LamX.CodeO c q)) ∨ ((pos.line, pos.col) ∉ ls ∧ ∃ P', H c = some (CodeG c P') ∧ TabG n H P' [] ⟨#[]⟩))
/-- a table: its place, the code object where that is no def's, how deep, its lambdas' places and name -/
structure Tb where
  P : Addr
  cd : Option Addr
  n : Nat
  ls : List (Nat × Nat)
  q : Str
/-- the classes of exceptions by number; the tables -/
structure Tx where
  cls : List Addr
  tab : List Tb
def TbOk (H : Hp) (t : Tb) : Prop := TabG t.n H t.P t.ls t.q ∧ ∀ c, t.cd = some c → H c = some (CodeG c t.P)
theorem codeG_ne {c P : Addr} (ps : Array Value) : CodeG c P ≠ .tbl ps := fun z => by unfold CodeG at z; cases z
theorem TabG.mono {H H' : Hp} (k : ∀ a o, H a = some o → H' a = some o) : ∀ {n : Nat} {P : Addr} {ls : List (Nat × Nat)} {q : Str}, TabG n H P ls q → TabG n H' P ls q
  | 0, P, ls, q, ⟨ps, a, b⟩ => ⟨ps, k _ _ a, b⟩
  | n + 1, P, ls, q, ⟨ps, a, b, c⟩ => ⟨ps, k _ _ a, b, fun pos cv e => by
      obtain ⟨c', e1, e2⟩ := c pos cv e
      refine ⟨c', e1, ?_⟩
      rcases e2 with ⟨h1, h2⟩ | ⟨h1, P', h2, h3⟩
      · exact .inl ⟨h1, k _ _ h2⟩
      · exact .inr ⟨h1, P', k _ _ h2, h3.mono k⟩⟩
theorem TabG.good {H : Hp} : ∀ {n : Nat} {P : Addr} {ls : List (Nat × Nat)} {q : Str}, TabG n H P ls q → ∃ ps : Array Value, H P = some (.tbl ps) ∧ TriplesOk ps.toList
  | 0, _, _, _, h => h
  | _ + 1, _, _, _, ⟨ps, a, b, _⟩ => ⟨ps, a, b⟩
theorem TbOk.mono {H H' : Hp} {t : Tb} (k : ∀ a o, H a = some o → H' a = some o) (h : TbOk H t) : TbOk H' t := ⟨h.1.mono k, fun c e => k _ _ (h.2 c e)⟩

/-- tracked, no tuple, no list that is locked, no table, no code object -/
def NoTup (H : Hp) (a : Addr) : Prop := H a ≠ none ∧ (∀ xs, H a ≠ some (.tup xs)) ∧ (∀ o xs, H a ≠ some (.frz o (.tup xs))) ∧ (∀ o xs, H a ≠ some (.frz o (.lst xs))) ∧ (∀ ps, H a ≠ some (.tbl ps)) ∧ ∀ φ, H a ≠ some (.ext φ)
/-- an object that is no table, no code object, is written: the tables stay -/
theorem TabG.put {H : Hp} {a : Addr} {u : HO} (h1 : ∀ ps, H a ≠ some (.tbl ps)) (h2 : ∀ φ, H a ≠ some (.ext φ)) : ∀ {n : Nat} {P : Addr} {ls : List (Nat × Nat)} {q : Str}, TabG n H P ls q → TabG n (upd H a u) P ls q
  | 0, P, ls, q, ⟨ps, x, y⟩ => ⟨ps, by rw [upd_ne (show P ≠ a from fun z => h1 ps (by rw [← z]; exact x))]; exact x, y⟩
  | n + 1, P, ls, q, ⟨ps, x, y, c⟩ => ⟨ps, by rw [upd_ne (show P ≠ a from fun z => h1 ps (by rw [← z]; exact x))]; exact x, y, fun pos cv e => by
      obtain ⟨c', e1, e2⟩ := c pos cv e
      refine ⟨c', e1, ?_⟩
      rcases e2 with ⟨g1, g2⟩ | ⟨g1, P', g2, g3⟩
      · exact .inl ⟨g1, by rw [upd_ne (show c' ≠ a from fun z => h2 _ (by rw [← z]; exact g2))]; exact g2⟩
      · exact .inr ⟨g1, P', by rw [upd_ne (show c' ≠ a from fun z => h2 _ (by rw [← z]; exact g2))]; exact g2, g3.put h1 h2⟩⟩
def RepO (K : Frag) (H : Hp) (r : List Addr) (o : MO) (a : Addr) : Prop := match o with
  | .lst ds => ∃ xs, H a = some (.lst xs) ∧ RepVs K H r ds xs
  | .dct kvs => ∃ ks, H a = some (.dK ks) ∧ RepK K H r kvs ks
  | .fd kvs => ∃ o ks, H a = some (.frz o (.dK ks)) ∧ RepK K H r kvs ks

structure SI (K : Frag) (T : Tx) (H : Hp) (r : List Addr) (S : Sto) : Prop where
  len : r.length = S.length
  nd : r.Nodup
  obj : ∀ (n : Nat) (o : MO) (a : Addr), S[n]? = some o → r[n]? = some a → RepO K H r o a
  tab : ∀ t ∈ T.tab, TbOk H t

/-- what has grown: the places r, the abstract heap; but the objects at r all is as it was -/
structure Xt (r : List Addr) (H : Hp) (r' : List Addr) (H' : Hp) : Prop where
  new : ∃ l, r' = r ++ l ∧ ∀ a ∈ l, H a = none
  keep : ∀ a o, H a = some o → a ∉ r → (∀ ps, o ≠ .tbl ps) → H' a = some o
  there : ∀ a, H a ≠ none → H' a ≠ none
  tbl : ∀ (P : Addr) (ps : Array Value), H P = some (.tbl ps) → TriplesOk ps.toList → ∃ ps' : Array Value, H' P = some (.tbl ps') ∧ TriplesOk ps'.toList

structure RepE (K : Frag) (H : Hp) (r : List Addr) (env : Ev.Env) (σ : L2.St) : Prop where
  len : env.length = σ.length
  get : ∀ (i : Nat) (d : D), env[i]? = some (some d) → ∃ x, σ[i]? = some (some x) ∧ RepV K H r d x

section
variable {K : Frag} {T : Tx} {H H' H'' : Hp} {r r' r'' : List Addr} {S : Sto}

theorem nodup_ix' {l : List Addr} (h : l.Nodup) {i j : Nat} {a : Addr} (e : l[i]? = some a) (f : l[j]? = some a) : i = j := by
  obtain ⟨h1, e1⟩ := List.getElem?_eq_some_iff.mp e
  obtain ⟨h2, e2⟩ := List.getElem?_eq_some_iff.mp f
  exact (List.getElem_inj h).mp (e1.trans e2.symm)
theorem RepO.noTup {o : MO} {a : Addr} (h : RepO K H r o a) : NoTup H a := by
  cases o with
  | lst ds => obtain ⟨ys, e, _⟩ := h; refine ⟨?_, ?_, ?_, ?_, ?_, ?_⟩ <;> intros <;> rw [e] <;> exact fun z => by cases z
  | dct ds => obtain ⟨ys, e, _⟩ := h; refine ⟨?_, ?_, ?_, ?_, ?_, ?_⟩ <;> intros <;> rw [e] <;> exact fun z => by cases z
  | fd ds => obtain ⟨o', ys, e, _⟩ := h; refine ⟨?_, ?_, ?_, ?_, ?_, ?_⟩ <;> intros <;> rw [e] <;> exact fun z => by cases z
theorem SI.noTup (h : SI K T H r S) : ∀ a ∈ r, NoTup H a := fun a ha => by
  obtain ⟨n, hn, e⟩ := List.getElem_of_mem ha
  have hs : n < S.length := by rw [← h.len]; exact hn
  exact (h.obj n S[n] a (List.getElem?_eq_getElem hs) (by rw [List.getElem?_eq_getElem hn, e])).noTup
theorem Xt.refl (r : List Addr) (H : Hp) : Xt r H r H := ⟨⟨[], by simp, by simp⟩, fun _ _ h _ _ => h, fun _ h => h, fun _ ps h g => ⟨ps, h, g⟩⟩
theorem Xt.sqT (e : Xt r H r' H') (hr : ∀ a ∈ r, NoTup H a) {a : Addr} {xs : List V} (h : SqT K H a xs) : SqT K H' a xs := by
  rcases h with (h | ⟨o, h⟩) | h
  · exact .inl (.inl (e.keep a _ h (fun m => (hr a m).2.1 xs h) (fun ps z => by cases z)))
  · exact .inl (.inr ⟨o, e.keep a _ h (fun m => (hr a m).2.2.1 o xs h) (fun ps z => by cases z)⟩)
  · exact .inr h
theorem Xt.sqF (e : Xt r H r' H') (hr : ∀ a ∈ r, NoTup H a) {a : Addr} {xs : List V} (h : SqF K H a xs) : SqF K H' a xs := by
  rcases h with ⟨o, h⟩ | h
  · exact .inl ⟨o, e.keep a _ h (fun m => (hr a m).2.2.2.1 o xs h) (fun ps z => by cases z)⟩
  · exact .inr h
theorem Xt.get (e : Xt r H r' H') {n : Nat} {a : Addr} (h : r[n]? = some a) : r'[n]? = some a := by
  obtain ⟨l, rfl, _⟩ := e.new
  rw [List.getElem?_append_left (List.getElem?_eq_some_iff.mp h).1]; exact h
mutual
theorem RepV.ext (e : Xt r H r' H') (hr : ∀ a ∈ r, NoTup H a) : ∀ (d : D) (x : V), RepV K H r d x → RepV K H' r' d x
  | .non, _, h => by cases h; exact .non
  | .bl _, _, h => by cases h; exact .bl _
  | .int _, _, h => by cases h; exact .int _
  | .str _, _, h => by cases h; exact .str _
  | .ref _, _, h => by cases h with | ref g => exact .ref (e.get g)
  | .tup ds, _, h => by cases h with | tup g t => exact .tup (e.sqT hr g) (RepVs.ext e hr ds _ t)
  | .fl ds, _, h => by cases h with | fl g t => exact .fl (e.sqF hr g) (RepVs.ext e hr ds _ t)
theorem RepVs.ext (e : Xt r H r' H') (hr : ∀ a ∈ r, NoTup H a) : ∀ (ds : List D) (xs : List V), RepVs K H r ds xs → RepVs K H' r' ds xs
  | [], _, h => by cases h; exact .nil
  | d :: ds, _, h => by cases h with | cons a b => exact .cons (RepV.ext e hr d _ a) (RepVs.ext e hr ds _ b)
end
theorem RepK.ext (e : Xt r H r' H') (hr : ∀ a ∈ r, NoTup H a) {kvs : List (D × D)} {ks : List (Key × V)} (h : RepK K H r kvs ks) : RepK K H' r' kvs ks := by
  induction h with
  | nil => exact .nil
  | cons a b _ ih => exact .cons a (RepV.ext e hr _ _ b) ih
theorem RepE.ext (e : Xt r H r' H') (hr : ∀ a ∈ r, NoTup H a) {env : Ev.Env} {σ : L2.St} (h : RepE K H r env σ) : RepE K H' r' env σ :=
  ⟨h.len, fun i d g => let ⟨x, h1, h2⟩ := h.get i d g; ⟨x, h1, RepV.ext e hr d x h2⟩⟩
theorem Xt.trans (a : Xt r H r' H') (b : Xt r' H' r'' H'') : Xt r H r'' H'' := by
  obtain ⟨l, e1, n1⟩ := a.new
  obtain ⟨l', e2, n2⟩ := b.new
  refine ⟨⟨l ++ l', by rw [e2, e1, List.append_assoc], fun x hx => ?_⟩, fun x o h na nt => ?_, fun x h => b.there x (a.there x h), fun P ps h g => by
    obtain ⟨ps', h', g'⟩ := a.tbl P ps h g
    exact b.tbl P ps' h' g'⟩
  · rcases List.mem_append.mp hx with hx | hx
    · exact n1 x hx
    · have z := n2 x hx
      cases q : H x with
      | none => rfl
      | some o => exact absurd z (a.there x (by rw [q]; exact fun w => by cases w))
  · have h1 := a.keep x o h na nt
    refine b.keep x o h1 (fun m => ?_) nt
    rw [e1] at m
    rcases List.mem_append.mp m with m | m
    · exact na m
    · rw [n1 x m] at h; cases h

/-- a new object that is no part of the store: a tuple -/
theorem Xt.upd {p : Addr} {o : HO} (hp : H p = none) : Xt r H r (upd H p o) :=
  ⟨⟨[], by simp, by simp⟩, fun a u h _ _ => by rw [upd_ne (ne_of_none h hp)]; exact h, fun a h => by
    by_cases e : a = p
    · subst e; rw [upd_same]; exact fun z => by cases z
    · rw [upd_ne e]; exact h, fun P ps h g => ⟨ps, by rw [upd_ne (ne_of_none h hp)]; exact h, g⟩⟩
/-- objects of the store stay where another place is written -/
theorem RepO.at {a : Addr} {o : MO} (h : RepO K H r o a) (e : Xt r H r' H') (hr : ∀ a ∈ r, NoTup H a) (ha : H' a = H a) : RepO K H' r' o a := by
  cases o with
  | lst ds => obtain ⟨ys, q, t⟩ := h; exact ⟨ys, ha.trans q, RepVs.ext e hr ds ys t⟩
  | dct ds => obtain ⟨ys, q, t⟩ := h; exact ⟨ys, ha.trans q, t.ext e hr⟩
  | fd ds => obtain ⟨u, ys, q, t⟩ := h; exact ⟨u, ys, ha.trans q, t.ext e hr⟩
theorem SI.out (h : SI K T H r S) {p : Addr} (hp : H p = none) : p ∉ r := fun m => (h.noTup p m).1 hp
/-- a new object that is no part of the store: a tuple -/
theorem SI.tup (h : SI K T H r S) {p : Addr} {o : HO} (hp : H p = none) : SI K T (L2.upd H p o) r S :=
  ⟨h.len, h.nd, fun n u a e1 e2 => (h.obj n u a e1 e2).at (Xt.upd hp) h.noTup (upd_ne fun z => h.out hp (z ▸ List.mem_of_getElem? e2)), fun t ht => (h.tab t ht).mono fun a o e => by rw [upd_ne (ne_of_none e hp)]; exact e⟩
/-- a new object of the store -/
theorem Xt.neu {p : Addr} {u : HO} (hp : H p = none) : Xt r H (r ++ [p]) (L2.upd H p u) :=
  ⟨⟨[p], rfl, fun a ha => by rw [List.mem_singleton.mp ha]; exact hp⟩, (Xt.upd (r := r) hp).keep, (Xt.upd (r := r) hp).there, (Xt.upd (r := r) hp).tbl⟩
theorem SI.new (h : SI K T H r S) {p : Addr} {o : MO} {u : HO} (hp : H p = none) (ho : RepO K (L2.upd H p u) (r ++ [p]) o p) : SI K T (L2.upd H p u) (r ++ [p]) (S ++ [o]) := by
  refine ⟨by simp [h.len], ?_, fun n v a e1 e2 => ?_, fun t ht => (h.tab t ht).mono fun a o e => by rw [upd_ne (ne_of_none e hp)]; exact e⟩
  · refine List.nodup_append.mpr ⟨h.nd, by simp, fun a ha b hb z => ?_⟩
    rw [List.mem_singleton.mp hb] at z
    exact h.out hp (z ▸ ha)
  · by_cases hn : n < S.length
    · rw [List.getElem?_append_left hn] at e1
      rw [List.getElem?_append_left (by rw [h.len]; exact hn)] at e2
      exact (h.obj n v a e1 e2).at (Xt.neu hp) h.noTup (upd_ne fun z => h.out hp (z ▸ List.mem_of_getElem? e2))
    · have hn' : n = S.length := by
        have := (List.getElem?_eq_some_iff.mp e1).1
        simp at this; omega
      subst hn'
      rw [List.getElem?_concat_length] at e1
      cases e1
      rw [← h.len, List.getElem?_concat_length] at e2
      cases e2
      exact ho
/-- an object of the store is written -/
theorem Xt.put {a : Addr} {u : HO} (ha : a ∈ r) (hn : NoTup H a) : Xt r H r (L2.upd H a u) :=
  ⟨⟨[], by simp, by simp⟩, fun b o h nb _ => by rw [upd_ne (show b ≠ a from fun z => nb (by rw [z]; exact ha))]; exact h, fun b h => by
    by_cases e : b = a
    · subst e; rw [upd_same]; exact fun z => by cases z
    · rw [upd_ne e]; exact h, fun P ps h g => ⟨ps, by rw [upd_ne (show P ≠ a from fun z => hn.2.2.2.2.1 ps (by rw [← z]; exact h))]; exact h, g⟩⟩
theorem TbOk.put {a : Addr} {u : HO} (hn : NoTup H a) {t : Tb} (h : TbOk H t) : TbOk (L2.upd H a u) t := ⟨h.1.put hn.2.2.2.2.1 hn.2.2.2.2.2, fun c e => by rw [upd_ne (show c ≠ a from fun z => hn.2.2.2.2.2 _ (by rw [← z]; exact h.2 c e))]; exact h.2 c e⟩
theorem SI.put (h : SI K T H r S) {n : Nat} {a : Addr} {o : MO} {u : HO} (hn : r[n]? = some a) (ho : RepO K (L2.upd H a u) r o a) : SI K T (L2.upd H a u) r (S.set n o) := by
  have nt := h.noTup a (List.mem_of_getElem? hn)
  refine ⟨by simp [h.len], h.nd, fun m v b e1 e2 => ?_, fun t ht => (h.tab t ht).put nt⟩
  by_cases hm : m = n
  · subst hm
    rw [hn] at e2; cases e2
    have hl : m < S.length := by rw [← h.len]; exact (List.getElem?_eq_some_iff.mp hn).1
    rw [List.getElem?_set_self hl] at e1; cases e1
    exact ho
  · rw [List.getElem?_set_ne (Ne.symm hm)] at e1
    refine (h.obj m v b e1 e2).at (Xt.put (List.mem_of_getElem? hn) nt) h.noTup (upd_ne fun z => hm ?_)
    subst z
    exact nodup_ix' h.nd e2 hn
/-- the place of an object of the store -/
theorem SI.place (h : SI K T H r S) {n : Nat} {o : MO} (e : S[n]? = some o) : ∃ a, r[n]? = some a ∧ RepO K H r o a := by
  have hl : n < r.length := by rw [h.len]; exact (List.getElem?_eq_some_iff.mp e).1
  exact ⟨r[n], List.getElem?_eq_getElem hl, h.obj n o _ e (List.getElem?_eq_getElem hl)⟩
theorem RepVs.length {ds : List D} {xs : List V} (h : RepVs K H r ds xs) : ds.length = xs.length := by
  induction ds generalizing xs with
  | nil => cases h; rfl
  | cons d ds ih => cases h with | cons a b => simp [ih b]
theorem RepVs.get {ds : List D} {xs : List V} (h : RepVs K H r ds xs) {i : Nat} {d : D} (e : ds[i]? = some d) : ∃ x, xs[i]? = some x ∧ RepV K H r d x := by
  induction ds generalizing xs i with
  | nil => simp at e
  | cons a ds ih =>
    cases h with
    | cons p q =>
      cases i with
      | zero => simp at e; subst e; exact ⟨_, rfl, p⟩
      | succ i => simpa using ih q (by simpa using e)
theorem RepVs.get' {ds : List D} {xs : List V} (h : RepVs K H r ds xs) {i : Nat} {x : V} (e : xs[i]? = some x) : ∃ d, ds[i]? = some d ∧ RepV K H r d x := by
  have hl : i < ds.length := by rw [h.length]; exact (List.getElem?_eq_some_iff.mp e).1
  obtain ⟨y, e', q⟩ := h.get (List.getElem?_eq_getElem hl)
  rw [e] at e'; cases e'
  exact ⟨_, List.getElem?_eq_getElem hl, q⟩
theorem RepVs.append {ds es : List D} {xs ys : List V} (h : RepVs K H r ds xs) (g : RepVs K H r es ys) : RepVs K H r (ds ++ es) (xs ++ ys) := by
  induction ds generalizing xs with
  | nil => cases h; exact g
  | cons a ds ih => cases h with | cons p q => exact .cons p (ih q)
theorem RepVs.take {ds : List D} {xs : List V} (h : RepVs K H r ds xs) (n : Nat) : RepVs K H r (ds.take n) (xs.take n) := by
  induction ds generalizing xs n with
  | nil => cases h; simp; exact .nil
  | cons a ds ih => cases h with | cons p q => cases n with | zero => exact .nil | succ n => exact .cons p (ih q n)
theorem RepVs.drop {ds : List D} {xs : List V} (h : RepVs K H r ds xs) (n : Nat) : RepVs K H r (ds.drop n) (xs.drop n) := by
  induction ds generalizing xs n with
  | nil => cases h; simp; exact .nil
  | cons a ds ih => cases h with | cons p q => cases n with | zero => exact .cons p q | succ n => exact ih q n
theorem RepVs.set {ds : List D} {xs : List V} (h : RepVs K H r ds xs) (n : Nat) {d : D} {x : V} (g : RepV K H r d x) : RepVs K H r (ds.set n d) (xs.set n x) := by
  induction ds generalizing xs n with
  | nil => cases h; exact .nil
  | cons a ds ih => cases h with | cons p q => cases n with | zero => exact .cons g q | succ n => exact .cons p (ih q n)
theorem RepVs.dropLast {ds : List D} {xs : List V} (h : RepVs K H r ds xs) : RepVs K H r ds.dropLast xs.dropLast := by
  rw [List.dropLast_eq_take, List.dropLast_eq_take, h.length]; exact h.take _
end
end Ev
end
section
set_option maxRecDepth 100000
set_option maxHeartbeats 4000000
/-! More operators: tuple * int, str * int, tuple.count. -/
namespace Ev
open PySem PySem.Spec PyProof.Rows L2
open PySem.W (Frag)

theorem tuple_mulOne (l : Addr) (items : Array Value) (n : Nat) (dd : Option Addr) (sl : Array (Option Value)) (x : Int) (u : Tok) (c0 : (decide (x < -(2 ^ 63)) || decide (x ≥ 2 ^ 63)) = false) (c1 : (items.isEmpty || x == 1) = true) :
    Meets (Builtin.«tuple.__mul__» ⟨[.ref l, .int x u], []⟩) (fun _ R s => s.heap.get? l = some { cls := .type "tuple", dict := dd, data := .seq items n, slots := sl } ∧ R (.ok (.ret (Value.ref l))) s) :=
  .of_wp fun prog w A R s h => by
    obtain ⟨hp, g, d, tk, os⟩ := s
    obtain ⟨hl, h⟩ := h
    have f1 := AutoSeq1.idx_int
    wp_walk using wpAny_loadPart' hl
    repeat (first
      | (refine wpAny_ite_false (decide_eq_false (by rw [c0]; exact Bool.false_ne_true)) ?_; wp_walk using wpAny_loadPart' hl)
      | (refine wpAny_ite_true (decide_eq_true (by rw [c1])) ?_; wp_walk using wpAny_loadPart' hl))
    exact ⟨_, rfl, h⟩
theorem tuple_mulNo (l : Addr) (items : Array Value) (n : Nat) (dd : Option Addr) (sl : Array (Option Value)) (x : Int) (u : Tok) (c0 : (decide (x < -(2 ^ 63)) || decide (x ≥ 2 ^ 63)) = false) (c1 : (items.isEmpty || x == 1) = false) (c2 : (decide (x ≤ 0) || items.isEmpty) = true) :
    Meets (Builtin.«tuple.__mul__» ⟨[.ref l, .int x u], []⟩) (fun _ R s => s.heap.get? l = some { cls := .type "tuple", dict := dd, data := .seq items n, slots := sl } ∧
      R (.ok (.ret (Value.ref s.heap.objs.size))) { s with heap := s.heap.push { cls := Value.type "tuple", data := Data.seq #[] }, toks := s.toks }) :=
  .of_wp fun prog w A R s h => by
    obtain ⟨hp, g, d, tk, os⟩ := s
    obtain ⟨hl, h⟩ := h
    have f1 := AutoSeq1.idx_int
    wp_walk using wpAny_loadPart' hl
    repeat (first
      | (refine wpAny_ite_false (decide_eq_false (by rw [c0]; exact Bool.false_ne_true)) ?_; wp_walk using wpAny_loadPart' hl)
      | (refine wpAny_ite_false (decide_eq_false (by rw [c1]; exact Bool.false_ne_true)) ?_; wp_walk using wpAny_loadPart' hl)
      | (refine wpAny_ite_true (decide_eq_true (by rw [c2])) ?_; wp_walk using wpAny_loadPart' hl))
    exact ⟨_, rfl, h⟩
def rRepT1 (K : Frag) : R2 := fun x y H Q => ∃ l k xs, x = .ref l ∧ y = .int k ∧ SqT K H l xs ∧ -(2 ^ 63) ≤ k ∧ k < 2 ^ 63 ∧ (xs = [] ∨ k = 1) ∧ Q (.ref l) H
def rRepT0 (K : Frag) : R2 := fun x y H Q => ∃ l k xs, x = .ref l ∧ y = .int k ∧ SqT K H l xs ∧ -(2 ^ 63) ≤ k ∧ xs ≠ [] ∧ k ≤ 0 ∧ ∀ p, H p = none → Q (.ref p) (upd H p (.tup []))
section
variable {X : Cx}
theorem op_repT1 : OpR X (binaryOp .Mult) (rRepT1 X.K) := by
  intro pins s σ H x y v u Q I rx ry h
  obtain ⟨l, k, xs, rfl, rfl, hT, h1, h2, hx, q⟩ := h
  cases rx
  obtain ⟨t, rfl⟩ := ry
  obtain ⟨its, r, ⟨⟨cls, dd, data, sl⟩, ho, hc, n, hd⟩, hs⟩ := I.tuple hT
  simp only at hc hd
  subst hc hd
  have hle : its.length = xs.length := r.length.symm
  have c0 : (decide (k < -(2 ^ 63)) || decide (k ≥ 2 ^ 63)) = false := by
    rw [decide_eq_false (by omega), decide_eq_false (by omega)] <;> rfl
  have c1 : (its.toArray.isEmpty || k == 1) = true := by
    rcases hx with hx | hx
    · subst hx
      have : its = [] := List.eq_nil_of_length_eq_zero hle
      subst this; rfl
    · subst hx; simp
  refine wpAny_binaryOp_repeat_ref (T := "tuple") (U := "int") (by decide) ⟨_, ho, rfl⟩ (fun s' => typeIs_int s' k t) noFill_tuple_mul F.fills_int_mul F.slot_int_rmul repeat_tuple F.slot_int_index.lookup
    (call_meets F.slot_int_rmul (typeIs_int s k t) F.entry_int_rmul (F.args_int_rmul_2 _ _) (int_rmul_tuple k t l its.toArray n dd sl)
      ⟨ho, rfl, ⟨_, ho, rfl⟩, call_meets F.slot_tuple_mul ⟨_, ho, rfl⟩ F.entry_tuple_mul (F.args_tuple_mul_2 _ _) (tuple_mulOne l its.toArray n dd sl k t c0 c1) ⟨ho, ?_⟩⟩)
  exact ⟨.ref l, H, I, rfl, q⟩
theorem op_repT0 : OpR X (binaryOp .Mult) (rRepT0 X.K) := by
  intro pins s σ H x y v u Q I rx ry h
  obtain ⟨l, k, xs, rfl, rfl, hT, h1, hx, h2, q⟩ := h
  cases rx
  obtain ⟨t, rfl⟩ := ry
  obtain ⟨its, r, ⟨⟨cls, dd, data, sl⟩, ho, hc, n, hd⟩, hs⟩ := I.tuple hT
  simp only at hc hd
  subst hc hd
  have hle : its.length = xs.length := r.length.symm
  have c0 : (decide (k < -(2 ^ 63)) || decide (k ≥ 2 ^ 63)) = false := by
    rw [decide_eq_false (by omega), decide_eq_false (by omega)] <;> rfl
  have hi : its.toArray.isEmpty = false := by
    cases its with
    | nil => exact absurd (List.eq_nil_of_length_eq_zero hle.symm) hx
    | cons a b => rfl
  have c1 : (its.toArray.isEmpty || k == 1) = false := by
    rw [hi, Bool.false_or]
    exact beq_eq_false_iff_ne.mpr (by omega)
  have c2 : (decide (k ≤ 0) || its.toArray.isEmpty) = true := by
    rw [hi, Bool.or_false]
    exact decide_eq_true (by omega)
  refine wpAny_binaryOp_repeat_ref (T := "tuple") (U := "int") (by decide) ⟨_, ho, rfl⟩ (fun s' => typeIs_int s' k t) noFill_tuple_mul F.fills_int_mul F.slot_int_rmul repeat_tuple F.slot_int_index.lookup
    (call_meets F.slot_int_rmul (typeIs_int s k t) F.entry_int_rmul (F.args_int_rmul_2 _ _) (int_rmul_tuple k t l its.toArray n dd sl)
      ⟨ho, rfl, ⟨_, ho, rfl⟩, call_meets F.slot_tuple_mul ⟨_, ho, rfl⟩ F.entry_tuple_mul (F.args_tuple_mul_2 _ _) (tuple_mulNo l its.toArray n dd sl k t c0 c1 c2) ⟨ho, ?_⟩⟩)
  refine ⟨.ref s.heap.objs.size, _, I.laid (t' := s.toks) (o := .tup []) (fun b ob q => Heap.get?_push_of_some _ q) (Nat.le_refl _) ?_, rfl, q _ (I.hok.fresh (Nat.le_refl _))⟩
  exact ⟨Nat.zero_le _, [], .nil, IsTup.new _ _⟩
/-- str * int -/
def rRepS : R2 := fun x y H Q => ∃ z k, x = .str z ∧ y = .int k ∧ z.length ≤ 1000 ∧ -(2 ^ 63) ≤ k ∧ k ≤ 1000 ∧ Q (.str ⟨((List.replicate k.toNat z.cps.toList).flatten).toArray⟩) H
theorem foldl_app (m : Nat) (z a : Array Nat) : (List.replicate m z).foldl (· ++ ·) a = a ++ ((List.replicate m z.toList).flatten).toArray := by
  induction m generalizing a with
  | zero => simp
  | succ m ih => rw [List.replicate_succ, List.foldl_cons, ih, List.replicate_succ, List.flatten_cons, Array.append_assoc]; congr 1; apply Array.ext'; simp
theorem op_repS : OpR X (binaryOp .Mult) rRepS := by
  intro pins s σ H x y v u Q I rx ry h
  obtain ⟨z, k, rfl, rfl, hz, h1, h2, q⟩ := h
  obtain ⟨t, rfl⟩ := rx
  obtain ⟨t2, rfl⟩ := ry
  have hzl : (z.length : Int) ≤ 1000 := by exact_mod_cast hz
  refine PySem.P.mul_str (by rw [decide_eq_false (by omega), decide_eq_false (by omega)] <;> rfl) (fun a b c => ?_) (fun a b => ?_) ?_
  · have hk : 0 < k := by omega
    have h3 : (1000 : Int) ≤ (2 ^ 63 - 1) / k := (Int.le_ediv_iff_mul_le hk).mpr (by omega)
    omega
  · unfold Builtin.Str.tooLong
    rw [sizeLine_eq]
    refine decide_eq_false ?_
    have : z.length * k.toNat ≤ 1000 * 1000 := Nat.mul_le_mul hz (by omega)
    omega
  · have same : ∀ a, Q (.str a) H → (∃ tk', EP X pins σ Q (.str a tk') { s with toks := s.toks + 1 }) := fun a h => ⟨s.toks, .str a, H, I.tok _, ⟨_, rfl⟩, h⟩
    split
    · rename_i hk
      have e : k.toNat = 0 := by omega
      rw [e] at q
      exact ⟨Nat.zero_le _, .str Str.empty, H, I.tok _, ⟨_, rfl⟩, q⟩
    · rename_i hk
      split
      · rename_i he
        show EP X pins σ Q (.str z t) s
        refine ⟨.str z, H, I, ⟨_, rfl⟩, ?_⟩
        rw [Bool.or_eq_true, beq_iff_eq, beq_iff_eq] at he
        have e : (⟨((List.replicate k.toNat z.cps.toList).flatten).toArray⟩ : Str) = z := by
          rcases he with he | he
          · rw [he]; simp
          · have : z.cps = #[] := Array.eq_empty_of_size_eq_zero he
            obtain ⟨zc⟩ := z
            simp only at this
            subst this
            congr 1
            have : (List.replicate k.toNat ([] : List Nat)).flatten = [] := by simp
            simp
        rw [e] at q; exact q
      · have e : (List.replicate k.toNat z.cps).foldl (· ++ ·) #[] = ((List.replicate k.toNat z.cps.toList).flatten).toArray := by rw [foldl_app]; simp
        refine ⟨?_, .str _, H, I.tok _, ⟨_, rfl⟩, ?_⟩
        · rw [e]
          show Array.size _ ≤ sizeLine
          rw [List.size_toArray, PyProof.Rows.lm_len_rep_flat, sizeLine_eq]
          have : k.toNat * z.cps.toList.length ≤ 1000 * 1000 := Nat.mul_le_mul (by omega) (by simpa [Str.length] using hz)
          omega
        · rw [e]; exact q

/-- (..).count(an int), all ints -/
def rTCnt (K : Frag) : V → List V → Hp → VK → Prop := fun x xs H Q => ∃ (p : Addr) (ns : List Int) (k : Int), x = .ref p ∧ xs = [.int k] ∧ SqT K H p (ns.map V.int) ∧ Q (.int (ns.count k : Nat)) H
end
end Ev
end
section
/-! The readings; operators. -/
namespace Ev
open PySem L2 PyProof.Rows
open PySem.W (Frag)

/-- an exception of the evaluator's and one of the machine's; T: the classes by number -/
def ExR (K : Frag) (T : Tx) (H : Hp) (r : List Addr) (e : Ex) (cls : Value) (dd : Option Addr) : Prop :=
  ∃ C, T.cls[e.cls]? = some C ∧ cls = .ref C ∧ match e.fld with
    | none => dd = none
    | some d => ∃ p nm x, dd = some p ∧ H p = some (.xd [(nm, x)]) ∧ RepV K H r d x

def GoodG {α β : Type} (R : Hp → List Addr → α → β → Prop) (K : Frag) (T : Tx) (W : WX) (r : List Addr) (σ : L2.St) (H : Hp) (x : Res α) (Q : β → Hp → Prop) : Prop := match x with
  | .ok a S => ∀ r' b H', Xt r H r' H' → R H' r' a b → SI K T H' r' S → Q b H'
  | .exc e S => ∀ r' H' cls dd, Xt r H r' H' → SI K T H' r' S → ExR K T H' r' e cls dd → W cls dd σ H'
  | .bad => False
/-- the reading of what the evaluator makes -/
def REG {α β : Type} (R : Hp → List Addr → α → β → Prop) (K : Frag) (T : Tx) (W : WX) (f : Ev.Env → Sto → Res α) : L2.St → Hp → (β → Hp → Prop) → Prop := fun σ H Q => ∃ r env S, RepE K H r env σ ∧ SI K T H r S ∧ GoodG R K T W r σ H (f env S) Q
abbrev Good (K : Frag) (T : Tx) (W : WX) (r : List Addr) (σ : L2.St) (H : Hp) (x : Res D) (Q : VK) : Prop := GoodG (fun H r => RepV K H r) K T W r σ H x Q
abbrev RE (K : Frag) (T : Tx) (W : WX) (f : Ev.Env → Sto → Res D) : TE := REG (fun H r => RepV K H r) K T W f
/-- without an exception -/
def GoodN (K : Frag) (T : Tx) (r : List Addr) (H : Hp) (x : Res D) (Q : VK) : Prop := match x with
  | .ok d S => ∀ r' v H', Xt r H r' H' → RepV K H' r' d v → SI K T H' r' S → Q v H'
  | _ => False
section
variable {K : Frag} {T : Tx} {W : WX} {r r1 : List Addr} {σ : L2.St} {H H1 : Hp} {Q Q' : VK}
theorem GoodG.shift {α β : Type} {R : Hp → List Addr → α → β → Prop} {Q : β → Hp → Prop} {x : Res α} (e : Xt r H r1 H1) (h : GoodG R K T W r σ H x Q) : GoodG R K T W r1 σ H1 x Q := by
  cases x with
  | ok d S => exact fun r' v H' e' => h r' v H' (e.trans e')
  | exc ex S => exact fun r' H' cls dd e' => h r' H' cls dd (e.trans e')
  | bad => exact h
theorem GoodG.bind {α β γ δ : Type} {R : Hp → List Addr → α → β → Prop} {R' : Hp → List Addr → γ → δ → Prop} {Q : δ → Hp → Prop} {Q' : β → Hp → Prop} {x : Res α} {k : α → Sto → Res γ} (h : GoodG R' K T W r σ H (x.bind k) Q)
    (hk : ∀ d S r1 v H1, x = .ok d S → Xt r H r1 H1 → R H1 r1 d v → SI K T H1 r1 S → GoodG R' K T W r1 σ H1 (k d S) Q → Q' v H1) : GoodG R K T W r σ H x Q' := by
  cases x with
  | ok d S => exact fun r1 v H1 e rv si => hk d S r1 v H1 rfl e rv si (h.shift e)
  | exc ex S => exact h
  | bad => exact h
theorem GoodG.noexc {x : Res D} (h : Good K T W r σ H x Q) (hx : ∀ e S, x ≠ .exc e S) : GoodN K T r H x Q := by
  cases x with
  | ok d S => exact h
  | exc e S => exact absurd rfl (hx e S)
  | bad => exact h
/-- a value that needs nothing new -/
theorem GoodN.same {d : D} {S : Sto} {v : V} (h : GoodN K T r H (.ok d S) Q) (rv : RepV K H r d v) (si : SI K T H r S) : Q v H := h r v H (Xt.refl _ _) rv si
theorem GoodN.tup {ds : List D} {S : Sto} {xs : List V} (h : GoodN K T r H (.ok (.tup ds) S) Q) (rv : RepVs K H r ds xs) (si : SI K T H r S) : ∀ p, H p = none → Q (.ref p) (upd H p (.tup xs)) := fun p hp =>
  h r _ _ (Xt.upd hp) (.tup (.inl (.inl upd_same)) (RepVs.ext (Xt.upd hp) si.noTup _ _ rv)) (si.tup hp)
theorem GoodN.lst {ds : List D} {S : Sto} {xs : List V} (h : GoodN K T r H (alloc (.lst ds) S) Q) (rv : RepVs K H r ds xs) (si : SI K T H r S) : ∀ p, H p = none → Q (.ref p) (upd H p (.lst xs)) := fun p hp => by
  refine h (r ++ [p]) _ _ (Xt.neu hp) (.ref ?_) (si.new hp ⟨xs, upd_same, RepVs.ext (Xt.neu hp) si.noTup _ _ rv⟩)
  rw [← si.len, List.getElem?_concat_length]
end

section
variable {X : Cx} {T : Tx} {pins : List (Addr × Obj)} {s : Shared}
theorem big_eq : big = sizeLine := by rw [sizeLine_eq]
theorem sv_append (a b : List Nat) : sv a ++ sv b = sv (a ++ b) := by
  show (⟨_⟩ : Str) = ⟨_⟩
  congr 1
  simp [sv]
/-- the list at a place -/
theorem SI.lst {K : Frag} {T : Tx} {H : Hp} {r : List Addr} {S : Sto} (si : SI K T H r S) {n : Nat} {a : Addr} {ds : List D} (e : items S n = some ds) (g : r[n]? = some a) : ∃ xs, H a = some (.lst xs) ∧ RepVs K H r ds xs := by
  unfold items at e
  split at e
  · rename_i xs q
    cases e
    exact si.obj n _ a q g
  · cases e
theorem SI.lst' {K : Frag} {T : Tx} {H : Hp} {r : List Addr} {S : Sto} (si : SI K T H r S) {n : Nat} {a : Addr} {ds : List D} (e : S[n]? = some (.lst ds)) (g : r[n]? = some a) : ∃ xs, H a = some (.lst xs) ∧ RepVs K H r ds xs := si.obj n _ a e g
theorem SI.dct {K : Frag} {T : Tx} {H : Hp} {r : List Addr} {S : Sto} (si : SI K T H r S) {n : Nat} {a : Addr} {ds : List (D × D)} (e : S[n]? = some (.dct ds)) (g : r[n]? = some a) : ∃ ks, H a = some (.dK ks) ∧ RepK K H r ds ks := si.obj n _ a e g

/-! ### two-place operators -/
/-- the reading of a two-place operation: what f makes -/
def rB (K : Frag) (T : Tx) (f : D → D → Sto → Res D) : R2 := fun x y H Q => ∃ r S d d2, RepV K H r d x ∧ RepV K H r d2 y ∧ SI K T H r S ∧ GoodN K T r H (f d d2 S) Q
theorem op_addD : OpR X (binaryOp .Add) (rB X.K T (binD .add)) := by
  intro pins s σ H x y v u Q I rx ry ⟨r, S, d, d2, hx, hy, si, g⟩
  cases hx <;> cases hy <;> try exact False.elim g
  · exact op_add pins s σ H _ _ v u Q I rx ry ⟨_, _, rfl, rfl, g.same (.int _) si⟩
  · rename_i a b
    simp only [binD] at g
    split at g
    · rename_i hl
      refine op_add_str pins s σ H _ _ v u Q I rx ry ⟨_, _, rfl, rfl, ?_, ?_⟩
      · rw [sv_len, sv_len, ← big_eq]; exact hl
      · rw [sv_append]; exact g.same (.str _) si
    · exact False.elim g
  · rename_i n a ga m b gb
    simp only [binD] at g
    split at g
    · rename_i ds es e1 e2
      split at g
      · rename_i hl
        obtain ⟨xs, h1, q1⟩ := si.lst' e1 ga
        obtain ⟨ys, h2, q2⟩ := si.lst' e2 gb
        refine op_cat pins s σ H _ _ v u Q I rx ry ⟨a, b, xs, ys, rfl, rfl, h1, h2, ?_, g.lst (q1.append q2) si⟩
        rw [← q1.length, ← q2.length, ← big_eq]; exact hl
      · exact False.elim g
    · exact False.elim g
  · rename_i ds a xs h1 q1 es b ys h2 q2
    simp only [binD] at g
    split at g
    · rename_i hl
      refine op_catA pins s σ H _ _ v u Q I rx ry ⟨a, b, xs, ys, rfl, rfl, h1, h2, ?_, fun e => ?_, fun e e' => ?_, fun _ _ => g.tup (q1.append q2) si⟩
      · rw [← q1.length, ← q2.length, ← big_eq]; exact hl
      · subst e
        cases q1
        exact g.same (.tup h2 q2) si
      · subst e'
        cases q2
        rw [List.append_nil] at g
        exact g.same (.tup h1 q1) si
    · exact False.elim g
theorem op_subD : OpR X (binaryOp .Sub) (rB X.K T (binD .sub)) := by
  intro pins s σ H x y v u Q I rx ry ⟨r, S, d, d2, hx, hy, si, g⟩
  cases hx <;> cases hy <;> try exact False.elim g
  exact op_sub pins s σ H _ _ v u Q I rx ry ⟨_, _, rfl, rfl, g.same (.int _) si⟩
theorem cmul_of {i j : Int} (h : (small i || small j) = true) : CMul i j := by
  simp only [small, Bool.or_eq_true, Bool.and_eq_true, decide_eq_true_eq] at h
  exact h
theorem RepVs.rep {K : Frag} {H : Hp} {r : List Addr} {ds : List D} {xs : List V} (h : RepVs K H r ds xs) : ∀ m : Nat, RepVs K H r (List.replicate m ds).flatten (List.replicate m xs).flatten
  | 0 => .nil
  | m + 1 => by rw [List.replicate_succ, List.replicate_succ, List.flatten_cons, List.flatten_cons]; exact h.append (h.rep m)
theorem few_of {n : Nat} {k : Int} (h : few n k = true) : n ≤ 1000 ∧ -(2 ^ 63) ≤ k ∧ k ≤ 1000 := by
  simp only [few, Bool.and_eq_true, decide_eq_true_eq] at h
  exact ⟨h.1.1, h.1.2, h.2⟩
theorem op_mulD : OpR X (binaryOp .Mult) (rB X.K T (binD .mul)) := by
  intro pins s σ H x y v u Q I rx ry ⟨r, S, d, d2, hx, hy, si, g⟩
  cases hx <;> cases hy <;> try exact False.elim g
  · simp only [binD] at g
    split at g
    · rename_i hc
      exact op_mul pins s σ H _ _ v u Q I rx ry ⟨_, _, rfl, rfl, cmul_of hc, g.same (.int _) si⟩
    · exact False.elim g
  · simp only [binD] at g
    split at g
    · rename_i z k hc
      obtain ⟨h1, h2, h3⟩ := few_of hc
      refine op_repS pins s σ H _ _ v u Q I rx ry ⟨sv z, k, rfl, rfl, by rw [sv_len]; exact h1, h2, h3, ?_⟩
      have q := g.same (.str _) si
      rw [sv_list]
      exact q
    · exact False.elim g
  · rename_i n a ga k
    simp only [binD] at g
    split at g
    · rename_i ds e1
      split at g
      · rename_i hc
        obtain ⟨h1, h2, h3⟩ := few_of hc
        obtain ⟨xs, e2, q1⟩ := si.lst e1 ga
        refine op_rep pins s σ H _ _ v u Q I rx ry ⟨_, k, xs, rfl, rfl, e2, h2, by omega, ?_, g.lst (q1.rep _) si⟩
        rw [← q1.length, sizeLine_eq]
        have : ds.length * k.toNat ≤ 1000 * 1000 := Nat.mul_le_mul h1 (by omega)
        omega
      · exact False.elim g
    · exact False.elim g
  · rename_i ds a xs h1 q1 k
    simp only [binD] at g
    split at g
    · rename_i hc
      obtain ⟨f1, f2, f3⟩ := few_of hc
      by_cases hk : xs = [] ∨ k = 1
      · refine op_repT1 pins s σ H _ _ v u Q I rx ry ⟨_, k, xs, rfl, rfl, h1, f2, by omega, hk, ?_⟩
        have e : Ev.rep k ds = ds := by
          rcases hk with hk | hk
          · subst hk; cases q1; simp [Ev.rep]
          · subst hk; simp [Ev.rep]
        rw [e] at g
        exact g.same (.tup h1 q1) si
      · simp only [not_or] at hk
        by_cases hk0 : k ≤ 0
        · refine op_repT0 pins s σ H _ _ v u Q I rx ry ⟨_, k, xs, rfl, rfl, h1, f2, hk.1, hk0, ?_⟩
          have e : Ev.rep k ds = [] := by
            have : k.toNat = 0 := by omega
            simp [Ev.rep, this]
          rw [e] at g
          exact g.tup .nil si
        · refine op_repT pins s σ H _ _ v u Q I rx ry ⟨_, k, xs, rfl, rfl, h1, hk.1, by omega, f3, by rw [← q1.length]; exact f1, g.tup (q1.rep _) si⟩
    · exact False.elim g
theorem op_fdivD : OpR X (binaryOp .FloorDiv) (rB X.K T (binD .fdiv)) := by
  intro pins s σ H x y v u Q I rx ry ⟨r, S, d, d2, hx, hy, si, g⟩
  cases hx <;> cases hy <;> try exact False.elim g
  simp only [binD] at g
  split at g
  · rename_i hc
    simp only [Bool.and_eq_true, decide_eq_true_eq] at hc
    exact op_fdiv pins s σ H _ _ v u Q I rx ry ⟨_, _, rfl, rfl, hc, g.same (.int _) si⟩
  · exact False.elim g
theorem op_modD : OpR X (binaryOp .Mod) (rB X.K T (binD .mod)) := by
  intro pins s σ H x y v u Q I rx ry ⟨r, S, d, d2, hx, hy, si, g⟩
  cases hx <;> cases hy <;> try exact False.elim g
  simp only [binD] at g
  split at g
  · rename_i hc
    exact op_mod pins s σ H _ _ v u Q I rx ry ⟨_, _, rfl, rfl, hc, g.same (.int _) si⟩
  · exact False.elim g
theorem op_powD : OpR X (binaryOp .Pow) (rB X.K T (binD .pow)) := by
  intro pins s σ H x y v u Q I rx ry ⟨r, S, d, d2, hx, hy, si, g⟩
  cases hx <;> cases hy <;> try exact False.elim g
  simp only [binD] at g
  split at g
  · rename_i hc
    simp only [Bool.and_eq_true, decide_eq_true_eq] at hc
    exact op_pow pins s σ H _ _ v u Q I rx ry ⟨_, _, rfl, rfl, ⟨hc.1.1, by have := hc.1.2; omega, hc.2⟩, g.same (.int _) si⟩
  · exact False.elim g
theorem opD {o : PySem.Operator} {b : BOp} (h : bop o = some b) : OpR X (binaryOp o) (rB X.K T (binD b)) := by
  cases o <;> first | (cases h; first | exact op_addD | exact op_subD | exact op_mulD | exact op_fdivD | exact op_modD | exact op_powD) | exact absurd h (by simp [bop])
/-- the same in place; no list -/
theorem iopD {o : PySem.Operator} {b : BOp} (h : bop o = some b) (hb : b ≠ .pow) : OpR X (inplaceOp o) (rB X.K T (augD b)) := by
  intro pins s σ H x y v u Q I rx ry ⟨r, S, d, d2, hx, hy, si, g⟩
  cases o <;> first | (cases h) | exact absurd h (by simp [bop])
  all_goals first | exact absurd rfl hb | skip
  · cases hx <;> cases hy <;> try exact False.elim g
    · exact iop_add pins s σ H _ _ v u Q I rx ry ⟨_, _, rfl, rfl, g.same (.int _) si⟩
    · simp only [augD, binD] at g
      split at g
      · rename_i hl
        refine iop_add_str pins s σ H _ _ v u Q I rx ry ⟨_, _, rfl, rfl, ?_, ?_⟩
        · rw [sv_len, sv_len, ← big_eq]; exact hl
        · rw [sv_append]; exact g.same (.str _) si
      · exact False.elim g
  · cases hx <;> cases hy <;> try exact False.elim g
    exact iop_sub pins s σ H _ _ v u Q I rx ry ⟨_, _, rfl, rfl, g.same (.int _) si⟩
  · cases hx <;> cases hy <;> try exact False.elim g
    simp only [augD, binD] at g
    split at g
    · rename_i hc
      exact iop_mul pins s σ H _ _ v u Q I rx ry ⟨_, _, rfl, rfl, cmul_of hc, g.same (.int _) si⟩
    · exact False.elim g
  · cases hx <;> cases hy <;> try exact False.elim g
    simp only [augD, binD] at g
    split at g
    · rename_i hc
      exact iop_mod pins s σ H _ _ v u Q I rx ry ⟨_, _, rfl, rfl, hc, g.same (.int _) si⟩
    · exact False.elim g
  · cases hx <;> cases hy <;> try exact False.elim g
    simp only [augD, binD] at g
    split at g
    · rename_i hc
      simp only [Bool.and_eq_true, decide_eq_true_eq] at hc
      exact iop_fdiv pins s σ H _ _ v u Q I rx ry ⟨_, _, rfl, rfl, hc, g.same (.int _) si⟩
    · exact False.elim g
end
end Ev
end
section
/-! Truth, comparisons, index, slice. -/
namespace Ev
open PySem L2 PyProof.Rows
open PySem.W (Frag)
section
variable {X : Cx} {pins : List (Addr × Obj)} {s : Shared} {K : Frag} {T : Tx} {H : Hp} {r : List Addr} {S : Sto}

/-! ### truth -/
theorem truth_ok {d : D} {x : V} {b : Bool} (hx : RepV K H r d x) (si : SI K T H r S) (h : truth S d = some b) : TruV K x H b := by
  cases hx with
  | non => simp [truth] at h; subst h; rfl
  | bl k => simp [truth] at h; subst h; rfl
  | int i => simp [truth] at h; subst h; rfl
  | str t =>
    simp only [truth] at h
    split at h
    · rename_i hl
      cases h
      refine ⟨by rw [sv_len, ← big_eq]; exact hl, ?_⟩
      rw [sv_len]
      cases t <;> simp; omega
    · cases h
  | tup hs hr =>
    simp only [truth, Option.some.injEq] at h; subst h
    refine .inr (.inl ⟨_, hs, ?_⟩)
    cases hr <;> rfl
  | ref g =>
    simp only [truth] at h
    split at h
    · rename_i ds e
      obtain ⟨xs, e1, q⟩ := si.lst e g
      cases h
      refine .inl ⟨xs, .inl (.inl e1), ?_⟩
      cases q <;> rfl
    · split at h
      · rename_i kvs e
        obtain ⟨ks, e1, q⟩ := si.dct e g
        cases h
        refine .inr (.inr ⟨ks, e1, ?_⟩)
        cases q <;> rfl
      · cases h
  | fl hs hr => simp [truth] at h

/-! ### == -/
mutual
def pd : D → PyData
  | .non => .none
  | .bl b => .bool b
  | .int i => .int i
  | .str s => .str (sv s)
  | .tup ds => .tuple (pds ds)
  | .ref _ => .none
  | .fl _ => .none
def pds : List D → List PyData
  | [] => []
  | d :: ds => pd d :: pds ds
end
theorem le_of_shal {n : Nat} {o : Option Nat} (h : shal n o = true) : ∃ k, o = some k ∧ k ≤ n := by
  cases o with
  | none => simp [shal] at h
  | some k => exact ⟨k, rfl, by simpa [shal] using h⟩
mutual
theorem pd_of : ∀ (d : D) (x : V) (k : Nat), dep d = some k → RepV K H r d x → Dp K H x (pd d) ∧ (pd d).depth = k ∧ (pd d).canLay0 = true
  | .non, _, _, e, h => by cases h; simp [dep] at e; exact ⟨.non, by simp [pd, PyData.depth, e], by simp [pd, PyData.canLay0]⟩
  | .bl _, _, _, e, h => by cases h; simp [dep] at e; exact ⟨.bl _, by simp [pd, PyData.depth, e], by simp [pd, PyData.canLay0]⟩
  | .int _, _, _, e, h => by cases h; simp [dep] at e; exact ⟨.int _, by simp [pd, PyData.depth, e], by simp [pd, PyData.canLay0]⟩
  | .str _, _, _, e, h => by
    cases h
    simp only [dep] at e
    split at e
    · rename_i hc
      cases e
      refine ⟨.str _, by simp [pd, PyData.depth], ?_⟩
      simp only [pd, PyData.canLay0, PyData.strOk, sv]
      simpa using hc
    · cases e
  | .ref _, _, _, e, h => by simp [dep] at e
  | .fl _, _, _, e, h => by simp [dep] at e
  | .tup ds, _, k, e, h => by
    cases h with
    | tup hs hr =>
      simp only [dep, Option.map_eq_some_iff] at e
      obtain ⟨j, e, rfl⟩ := e
      obtain ⟨a, b, c⟩ := pds_of ds _ j e hr
      exact ⟨.tup hs a, by simp [pd, PyData.depth, b], by simp [pd, PyData.canLay0, c]⟩
theorem pds_of : ∀ (ds : List D) (xs : List V) (k : Nat), deps ds = some k → RepVs K H r ds xs → DpAll K H xs (pds ds) ∧ PyData.depthAll (pds ds) = k ∧ PyData.canLayAll0 (pds ds) = true
  | [], _, _, e, h => by cases h; simp [deps] at e; exact ⟨.nil, by simp [pds, PyData.depthAll, e], by simp [pds, PyData.canLayAll0]⟩
  | d :: ds, _, k, e, h => by
    cases h with
    | cons h1 h2 =>
      simp only [deps] at e
      split at e
      · rename_i a b e1 e2
        cases e
        obtain ⟨p1, q1, c1⟩ := pd_of d _ a e1 h1
        obtain ⟨p2, q2, c2⟩ := pds_of ds _ b e2 h2
        exact ⟨.cons p1 p2, by simp [pds, PyData.depthAll, q1, q2], by simp [pds, PyData.canLayAll0, c1, c2]⟩
      · cases e
end
mutual
theorem eqv_pd : ∀ (a b : D) (i j : Nat), dep a = some i → dep b = some j → PyData.eqv (pd a) (pd b) = eqv a b
  | .ref _, _, _, _, h, _ => by simp [dep] at h
  | .fl _, _, _, _, h, _ => by simp [dep] at h
  | .tup xs, .tup ys, i, j, h, g => by
    simp only [dep, Option.map_eq_some_iff] at h g
    obtain ⟨i', h, _⟩ := h
    obtain ⟨j', g, _⟩ := g
    simp [pd, PyData.eqv, eqv, eqvs_pd xs ys i' j' h g]
  | a, .ref _, _, _, _, h => by simp [dep] at h
  | a, .fl _, _, _, _, h => by simp [dep] at h
  | .non, .non, _, _, _, _ => by simp [pd, PyData.eqv, eqv]
  | .non, .bl _, _, _, _, _ => by simp [pd, PyData.eqv, eqv]
  | .non, .int _, _, _, _, _ => by simp [pd, PyData.eqv, eqv]
  | .non, .str _, _, _, _, _ => by simp [pd, PyData.eqv, eqv]
  | .non, .tup _, _, _, _, _ => by simp [pd, PyData.eqv, eqv]
  | .bl _, .non, _, _, _, _ => by simp [pd, PyData.eqv, eqv]
  | .bl _, .bl _, _, _, _, _ => by simp [pd, PyData.eqv, eqv]
  | .bl _, .int _, _, _, _, _ => by simp [pd, PyData.eqv, eqv]
  | .bl _, .str _, _, _, _, _ => by simp [pd, PyData.eqv, eqv]
  | .bl _, .tup _, _, _, _, _ => by simp [pd, PyData.eqv, eqv]
  | .int _, .non, _, _, _, _ => by simp [pd, PyData.eqv, eqv]
  | .int _, .bl _, _, _, _, _ => by simp [pd, PyData.eqv, eqv]
  | .int _, .int _, _, _, _, _ => by simp [pd, PyData.eqv, eqv]
  | .int _, .str _, _, _, _, _ => by simp [pd, PyData.eqv, eqv]
  | .int _, .tup _, _, _, _, _ => by simp [pd, PyData.eqv, eqv]
  | .str _, .non, _, _, _, _ => by simp [pd, PyData.eqv, eqv]
  | .str _, .bl _, _, _, _, _ => by simp [pd, PyData.eqv, eqv]
  | .str _, .int _, _, _, _, _ => by simp [pd, PyData.eqv, eqv]
  | .str s, .str t, _, _, _, _ => by
    simp only [pd, PyData.eqv, eqv]
    rw [Bool.eq_iff_iff, beq_iff_eq, beq_iff_eq]
    exact sv_inj
  | .str _, .tup _, _, _, _, _ => by simp [pd, PyData.eqv, eqv]
  | .tup _, .non, _, _, _, _ => by simp [pd, PyData.eqv, eqv]
  | .tup _, .bl _, _, _, _, _ => by simp [pd, PyData.eqv, eqv]
  | .tup _, .int _, _, _, _, _ => by simp [pd, PyData.eqv, eqv]
  | .tup _, .str _, _, _, _, _ => by simp [pd, PyData.eqv, eqv]
theorem eqvs_pd : ∀ (as bs : List D) (i j : Nat), deps as = some i → deps bs = some j → PyData.eqvAll (pds as) (pds bs) = eqvs as bs
  | [], [], _, _, _, _ => by simp [pds, PyData.eqvAll, eqvs]
  | [], _ :: _, _, _, _, _ => by simp [pds, PyData.eqvAll, eqvs]
  | _ :: _, [], _, _, _, _ => by simp [pds, PyData.eqvAll, eqvs]
  | a :: as, b :: bs, i, j, h, g => by
    simp only [deps] at h g
    split at h
    · rename_i p q e1 e2
      split at g
      · rename_i p' q' f1 f2
        simp [pds, PyData.eqvAll, eqvs, eqv_pd a b p p' e1 f1, eqvs_pd as bs q q' e2 f2]
      · cases g
    · cases h
end
theorem shal_dep {d : D} {x : V} (h : shal 60 (dep d) = true) (hx : RepV K H r d x) : ∃ k, dep d = some k ∧ Dp K H x (pd d) ∧ SeqAt.shaped (pd d) = true := by
  obtain ⟨k, e, hk⟩ := le_of_shal h
  obtain ⟨a, b, c⟩ := pd_of d x k e hx
  exact ⟨k, e, a, by simp [SeqAt.shaped, b, c]; omega⟩
theorem shal_deps {ds : List D} {a : Addr} {xs : List V} (h : shal 60 (deps ds) = true) (hl : SqL K H a xs) (hx : RepVs K H r ds xs) : ∃ k, deps ds = some k ∧ Dp K H (.ref a) (.list (pds ds)) ∧ SeqAt.shaped (.list (pds ds)) = true := by
  obtain ⟨k, e, hk⟩ := le_of_shal h
  obtain ⟨p, b, c⟩ := pds_of ds xs k e hx
  exact ⟨k, e, .lst hl p, by simp [SeqAt.shaped, PyData.depth, PyData.canLay0, b, c]; omega⟩
theorem list_ne : ∀ (ds : List PyData) (d : D) (k : Nat), dep d = some k → PyData.eqv (.list ds) (pd d) = false ∧ PyData.eqv (pd d) (.list ds) = false := by
  intro ds d k h
  cases d <;> simp [pd, PyData.eqv, dep] at h ⊢
/-- what eqD tells -/
theorem eqD_ok {d e : D} {x y : V} {b : Bool} (hx : RepV K H r d x) (hy : RepV K H r e y) (si : SI K T H r S) (h : eqD S d e = some b) :
    ∃ p q, Dp K H x p ∧ Dp K H y q ∧ SeqAt.shaped p = true ∧ SeqAt.shaped q = true ∧ PyData.eqv p q = b := by
  have two : ∀ {d e : D} {x y : V}, RepV K H r d x → RepV K H r e y → (if (shal 60 (dep d) && shal 60 (dep e)) = true then some (eqv d e) else none) = some b →
      ∃ p q, Dp K H x p ∧ Dp K H y q ∧ SeqAt.shaped p = true ∧ SeqAt.shaped q = true ∧ PyData.eqv p q = b := by
    intro d e x y hx hy h
    split at h
    · rename_i hc
      rw [Bool.and_eq_true] at hc
      cases h
      obtain ⟨k, e1, p1, s1⟩ := shal_dep hc.1 hx
      obtain ⟨j, e2, p2, s2⟩ := shal_dep hc.2 hy
      exact ⟨_, _, p1, p2, s1, s2, eqv_pd _ _ k j e1 e2⟩
    · cases h
  have left : ∀ {n : Nat} {a : Addr} {e : D} {y : V}, r[n]? = some a → RepV K H r e y → (match items S n with
      | some xs => if (shal 60 (deps xs) && shal 60 (dep e)) = true then some false else none
      | none => none) = some b → ∃ p q, Dp K H (.ref a) p ∧ Dp K H y q ∧ SeqAt.shaped p = true ∧ SeqAt.shaped q = true ∧ PyData.eqv p q = b := by
    intro n a e y g hy h
    split at h
    · rename_i ds ei
      split at h
      · rename_i hc
        rw [Bool.and_eq_true] at hc
        cases h
        obtain ⟨xs, e1, q⟩ := si.lst ei g
        obtain ⟨k, _, p1, s1⟩ := shal_deps hc.1 (.inl (.inl e1)) q
        obtain ⟨j, e2, p2, s2⟩ := shal_dep hc.2 hy
        exact ⟨_, _, p1, p2, s1, s2, (list_ne _ _ _ e2).1⟩
      · cases h
    · cases h
  have right : ∀ {n : Nat} {a : Addr} {e : D} {y : V}, r[n]? = some a → RepV K H r e y → (match items S n with
      | some xs => if (shal 60 (dep e) && shal 60 (deps xs)) = true then some false else none
      | none => none) = some b → ∃ p q, Dp K H y p ∧ Dp K H (.ref a) q ∧ SeqAt.shaped p = true ∧ SeqAt.shaped q = true ∧ PyData.eqv p q = b := by
    intro n a e y g hy h
    split at h
    · rename_i ds ei
      split at h
      · rename_i hc
        rw [Bool.and_eq_true] at hc
        cases h
        obtain ⟨xs, e1, q⟩ := si.lst ei g
        obtain ⟨k, _, p1, s1⟩ := shal_deps hc.2 (.inl (.inl e1)) q
        obtain ⟨j, e2, p2, s2⟩ := shal_dep hc.1 hy
        exact ⟨_, _, p2, p1, s2, s1, (list_ne _ _ _ e2).2⟩
      · cases h
    · cases h
  cases hx with
  | ref g1 =>
    cases hy with
    | ref g2 =>
      simp only [eqD] at h
      split at h
      · rename_i ds es e1 e2
        split at h
        · rename_i hc
          rw [Bool.and_eq_true] at hc
          cases h
          obtain ⟨xs, f1, q1⟩ := si.lst e1 g1
          obtain ⟨ys, f2, q2⟩ := si.lst e2 g2
          obtain ⟨k, i1, p1, s1⟩ := shal_deps hc.1 (.inl (.inl f1)) q1
          obtain ⟨j, i2, p2, s2⟩ := shal_deps hc.2 (.inl (.inl f2)) q2
          exact ⟨_, _, p1, p2, s1, s2, by simp only [PyData.eqv]; exact eqvs_pd _ _ _ _ i1 i2⟩
        · cases h
      · cases h
    | non => exact left g1 .non h
    | bl => exact left g1 (.bl _) h
    | int => exact left g1 (.int _) h
    | str => exact left g1 (.str _) h
    | tup a b => exact left g1 (.tup a b) h
    | fl a b => exact left g1 (.fl a b) h
  | non => cases e <;> first | exact two .non hy h | (cases hy; exact right (by assumption) .non h)
  | bl => cases e <;> first | exact two (.bl _) hy h | (cases hy; exact right (by assumption) (.bl _) h)
  | int => cases e <;> first | exact two (.int _) hy h | (cases hy; exact right (by assumption) (.int _) h)
  | str => cases e <;> first | exact two (.str _) hy h | (cases hy; exact right (by assumption) (.str _) h)
  | tup a b => cases e <;> first | exact two (.tup a b) hy h | (cases hy; exact right (by assumption) (.tup a b) h)
  | fl a b => cases e <;> first | exact two (.fl a b) hy h | (cases hy; exact right (by assumption) (.fl a b) h)

/-! ### in -/
theorem flat_V {d : D} {x : V} (h : flat d = true) (hx : RepV K H r d x) : flatV x = true := by
  cases hx <;> first | rfl | simp [flat] at h
theorem flat_Vs {ds : List D} {xs : List V} (h : ds.all flat = true) (hx : RepVs K H r ds xs) : xs.all flatV = true := by
  induction ds generalizing xs with
  | nil => cases hx; rfl
  | cons d ds ih =>
    cases hx with
    | cons a b =>
      simp only [List.all_cons, Bool.and_eq_true] at h ⊢
      exact ⟨flat_V h.1 a, ih h.2 b⟩
theorem eqv_V {d e : D} {x y : V} (h : flat d = true) (g : flat e = true) (hx : RepV K H r d x) (hy : RepV K H r e y) : eqV x y = eqv d e := by
  cases hx <;> cases hy <;> first | rfl | (simp [flat] at h; done) | (simp [flat] at g; done) | skip
  simp only [eqV, eqv]
  rw [Bool.eq_iff_iff, beq_iff_eq, beq_iff_eq]
  exact sv_inj
theorem inD_V {d : D} {ds : List D} {x : V} {xs : List V} (h : flat d = true) (g : ds.all flat = true) (hx : RepV K H r d x) (hy : RepVs K H r ds xs) : inV x xs = inD d ds := by
  unfold inV inD
  induction ds generalizing xs with
  | nil => cases hy; rfl
  | cons e ds ih =>
    cases hy with
    | cons a b =>
      simp only [List.all_cons, Bool.and_eq_true] at g
      simp only [List.any_cons, eqv_V g.1 h a hx, ih g.2 b]
/-! ### dicts -/
theorem keyD_some {k : D} (h : keyOk k = true) : ∃ q, keyD k = some q := by
  cases k <;> first | exact ⟨_, rfl⟩ | simp [keyOk] at h
theorem keyD_V {k : D} {q : Key} {x : V} (h : keyD k = some q) (hx : RepV K H r k x) : x = kV q := by
  cases hx <;> simp [keyD] at h <;> subst h <;> rfl
theorem deq_key {a b : D} {p q : Key} (h : keyD a = some p) (g : keyD b = some q) : deq a b = decide (p = q) := by
  cases a <;> simp [keyD] at h <;> cases b <;> simp [keyD] at g <;> subst h g <;> simp [deq, sv_inj] <;> (rw [Bool.eq_iff_iff]; simp)
theorem RepK.get {kvs : List (D × D)} {ks : List (Key × V)} (h : RepK K H r kvs ks) {k : D} {q : Key} (hk : keyD k = some q) :
    (∀ d, dget kvs k = some d → ∃ x, valV ks q = some x ∧ RepV K H r d x) ∧ (dget kvs k = none → valV ks q = none) := by
  induction h with
  | nil => exact ⟨fun d e => by simp [dget] at e, fun _ => rfl⟩
  | @cons k' v kv q' x qs e1 e2 _ ih =>
    simp only [dget, valV, List.find?_cons]
    rw [deq_key e1 hk]
    cases c : decide (q' = q) with
    | true => simp; exact e2
    | false => simpa [valV] using ih
theorem RepK.len {kvs : List (D × D)} {ks : List (Key × V)} (h : RepK K H r kvs ks) : kvs.length = ks.length := by
  induction h with
  | nil => rfl
  | cons _ _ _ ih => simp [ih]
theorem RepK.any {kvs : List (D × D)} {ks : List (Key × V)} (h : RepK K H r kvs ks) {k : D} {q : Key} (hk : keyD k = some q) : kvs.any (fun p => deq p.1 k) = ks.any fun kv => decide (kv.1 = q) := by
  induction h with
  | nil => rfl
  | cons e1 _ _ ih => simp [ih, deq_key e1 hk]
theorem RepK.map {kvs : List (D × D)} {ks : List (Key × V)} (h : RepK K H r kvs ks) {k v : D} {q : Key} {x : V} (hk : keyD k = some q) (hv : RepV K H r v x) :
    RepK K H r (kvs.map fun p => if deq p.1 k then (p.1, v) else p) (ks.map fun kv => if kv.1 = q then (kv.1, x) else kv) := by
  induction h with
  | nil => exact .nil
  | @cons k' v' kv q' x' qs e1 e2 _ ih =>
    simp only [List.map_cons]
    by_cases c : q' = q
    · rw [if_pos (by rw [deq_key e1 hk]; simpa using c), if_pos c]; exact .cons e1 hv ih
    · rw [if_neg (by rw [deq_key e1 hk]; simpa using c), if_neg c]; exact .cons e1 e2 ih
theorem RepK.snoc {kvs : List (D × D)} {ks : List (Key × V)} (h : RepK K H r kvs ks) {k v : D} {q : Key} {x : V} (hk : keyD k = some q) (hv : RepV K H r v x) : RepK K H r (kvs ++ [(k, v)]) (ks ++ [(q, x)]) := by
  induction h with
  | nil => exact .cons hk hv .nil
  | cons e1 e2 _ ih => exact .cons e1 e2 ih
theorem RepK.put {kvs : List (D × D)} {ks : List (Key × V)} (h : RepK K H r kvs ks) {k v : D} {q : Key} {x : V} (hk : keyD k = some q) (hv : RepV K H r v x) : RepK K H r (dput kvs k v) (putK ks q x) := by
  unfold dput putK
  rw [h.any hk]
  split
  · exact h.map hk hv
  · exact h.snoc hk hv
theorem RepK.merge {more kvs : List (D × D)} {ms ks : List (Key × V)} (g : RepK K H r more ms) : RepK K H r kvs ks → RepK K H r (dmerge kvs more) (mergeK ks ms) := by
  induction g generalizing kvs ks with
  | nil => exact fun h => h
  | cons e1 e2 _ ih => exact fun h => ih (h.put e1 e2)
end
end Ev
end
section
/-! Comparisons, index, slice, store by values. -/
namespace Ev
open PySem L2 PyProof.Rows
open PySem.W (Frag)
section
variable {X : Cx} {pins : List (Addr × Obj)} {s : Shared} {K : Frag} {T : Tx} {H : Hp} {r : List Addr} {S : Sto}

/-- the reading of a comparison -/
def rC (K : Frag) (T : Tx) (o : COp) : R2 := fun x y H Q => ∃ r S d d2 b, RepV K H r d x ∧ RepV K H r d2 y ∧ SI K T H r S ∧ cmpD o d d2 S = some b ∧ Q (.bl b) H
theorem op_eqE (hu : X.A.units + 64 < cLine) : OpR X (compareOp .Eq) (rC X.K T .eq) := by
  intro pins s σ H x y v u Q I rx ry ⟨r, S, d, d2, b, hx, hy, si, h, q⟩
  obtain ⟨p, p2, h1, h2, h3, h4, h5⟩ := eqD_ok hx hy si h
  exact op_eqD hu pins s σ H x y v u Q I rx ry ⟨p, p2, h1, h2, h3, h4, by rw [h5]; exact q⟩
theorem op_neE (hu : X.A.units + 64 < cLine) : OpR X (compareOp .NotEq) (rC X.K T .ne) := by
  intro pins s σ H x y v u Q I rx ry ⟨r, S, d, d2, b, hx, hy, si, h, q⟩
  simp only [cmpD, Option.map_eq_some_iff] at h
  obtain ⟨c, h, rfl⟩ := h
  obtain ⟨p, p2, h1, h2, h3, h4, h5⟩ := eqD_ok hx hy si h
  exact op_neD hu pins s σ H x y v u Q I rx ry ⟨p, p2, h1, h2, h3, h4, by rw [h5]; exact q⟩
theorem op_ordE {o : COp} {f : Value → Value → Sem Value} {g : Int → Int → Bool} (op : OpR X f (rI0 fun i j => .bl (g i j)))
    (hg : ∀ d d2 b, cmpD o d d2 S = some b → ∃ i j, d = .int i ∧ d2 = .int j ∧ b = g i j) {σ : L2.St} {x y : V} {v u : Value} {Q : VK} (I : Inv X pins σ H s) (rx : RelV x v) (ry : RelV y u) {d d2 : D} {b : Bool} (hx : RepV X.K H r d x) (hy : RepV X.K H r d2 y)
    (h : cmpD o d d2 S = some b) (q : Q (.bl b) H) : wpAny (model X.prog X.w) X.A (f v u) (EP X pins σ Q) X.xe s := by
  obtain ⟨i, j, rfl, rfl, rfl⟩ := hg _ _ _ h
  cases hx; cases hy
  exact op pins s σ H _ _ v u Q I rx ry ⟨_, _, rfl, rfl, q⟩
theorem cmp_lt {d d2 : D} {b : Bool} (h : cmpD .lt d d2 S = some b) : ∃ i j, d = .int i ∧ d2 = .int j ∧ b = decide (i < j) := by
  cases d <;> cases d2 <;> simp [cmpD] at h; exact ⟨_, _, rfl, rfl, h.symm⟩
theorem cmp_le {d d2 : D} {b : Bool} (h : cmpD .le d d2 S = some b) : ∃ i j, d = .int i ∧ d2 = .int j ∧ b = decide (i ≤ j) := by
  cases d <;> cases d2 <;> simp [cmpD] at h; exact ⟨_, _, rfl, rfl, h.symm⟩
theorem cmp_gt {d d2 : D} {b : Bool} (h : cmpD .gt d d2 S = some b) : ∃ i j, d = .int i ∧ d2 = .int j ∧ b = decide (j < i) := by
  cases d <;> cases d2 <;> simp [cmpD] at h; exact ⟨_, _, rfl, rfl, h.symm⟩
theorem cmp_ge {d d2 : D} {b : Bool} (h : cmpD .ge d d2 S = some b) : ∃ i j, d = .int i ∧ d2 = .int j ∧ b = decide (j ≤ i) := by
  cases d <;> cases d2 <;> simp [cmpD] at h; exact ⟨_, _, rfl, rfl, h.symm⟩
theorem op_ltE : OpR X (compareOp .Lt) (rC X.K T .lt) := by
  intro pins s σ H x y v u Q I rx ry ⟨r, S, d, d2, b, hx, hy, si, h, q⟩
  exact op_ordE op_lt (fun _ _ _ => cmp_lt) I rx ry hx hy h q
theorem op_leE : OpR X (compareOp .LtE) (rC X.K T .le) := by
  intro pins s σ H x y v u Q I rx ry ⟨r, S, d, d2, b, hx, hy, si, h, q⟩
  exact op_ordE op_le (fun _ _ _ => cmp_le) I rx ry hx hy h q
theorem op_gtE : OpR X (compareOp .Gt) (rC X.K T .gt) := by
  intro pins s σ H x y v u Q I rx ry ⟨r, S, d, d2, b, hx, hy, si, h, q⟩
  exact op_ordE op_gt (fun _ _ _ => cmp_gt) I rx ry hx hy h q
theorem op_geE : OpR X (compareOp .GtE) (rC X.K T .ge) := by
  intro pins s σ H x y v u Q I rx ry ⟨r, S, d, d2, b, hx, hy, si, h, q⟩
  exact op_ordE op_ge (fun _ _ _ => cmp_ge) I rx ry hx hy h q
theorem RepV.isNon {d : D} {x : V} (h : RepV K H r d x) : decide (x = .non) = (match d with | .non => true | _ => false) := by
  cases h <;> simp
theorem op_isNE : OpR X (compareOp .Is) (rC X.K T .isN) := by
  intro pins s σ H x y v u Q I rx ry ⟨r, S, d, d2, b, hx, hy, si, h, q⟩
  cases d2 <;> simp [cmpD] at h
  subst h
  cases hy
  refine op_isN pins s σ H x _ v u Q I rx ry ⟨rfl, ?_⟩
  rw [hx.isNon]
  cases d <;> exact q
theorem op_notNE : OpR X (compareOp .IsNot) (rC X.K T .notN) := by
  intro pins s σ H x y v u Q I rx ry ⟨r, S, d, d2, b, hx, hy, si, h, q⟩
  cases d2 <;> simp [cmpD] at h
  subst h
  cases hy
  refine op_notN pins s σ H x _ v u Q I rx ry ⟨rfl, ?_⟩
  rw [hx.isNon]
  cases d <;> exact q
/-- what memD tells -/
theorem memD_ok {d d2 : D} {x y : V} {b : Bool} (hx : RepV K H r d x) (hy : RepV K H r d2 y) (si : SI K T H r S) (h : cmpD.memD d d2 S = some b) :
    (∃ p xs, y = .ref p ∧ (SqL K H p xs ∨ SqT K H p xs) ∧ flatV x = true ∧ xs.all flatV = true ∧ inV x xs = b) ∨ (∃ a o, y = .ref a ∧ DGet H a x o ∧ o.isSome = b) ∨
      ∃ (c : Nat) (z : Str), x = .str ⟨#[c]⟩ ∧ y = .str z ∧ decide (c ∈ z.cps.toList) = b := by
  cases hy with
  | tup hs hr =>
    simp only [cmpD.memD] at h
    split at h
    · rename_i hc
      rw [Bool.and_eq_true] at hc
      cases h
      exact .inl ⟨_, _, rfl, .inr hs, flat_V hc.1 hx, flat_Vs hc.2 hr, inD_V hc.1 hc.2 hx hr⟩
    · cases h
  | ref g =>
    simp only [cmpD.memD] at h
    split at h
    · rename_i ds e
      obtain ⟨xs, e1, hr⟩ := si.lst e g
      split at h
      · rename_i hc
        rw [Bool.and_eq_true] at hc
        cases h
        exact .inl ⟨_, _, rfl, .inl (.inl (.inl e1)), flat_V hc.1 hx, flat_Vs hc.2 hr, inD_V hc.1 hc.2 hx hr⟩
      · cases h
    · split at h
      · rename_i kvs e
        obtain ⟨ks, e1, hr⟩ := si.dct e g
        split at h
        · rename_i hc
          cases h
          obtain ⟨q, hq⟩ := keyD_some hc
          have hxq := keyD_V hq hx
          subst hxq
          refine .inr (.inl ⟨_, valV ks q, rfl, DGet.k e1, ?_⟩)
          obtain ⟨g1, g2⟩ := hr.get hq
          cases z : dget kvs d with
          | none => rw [g2 z]; rfl
          | some w => obtain ⟨xv, e, _⟩ := g1 w z; rw [e]; rfl
        · cases h
      · cases h
  | str t =>
    cases hx with
    | str c =>
      simp only [cmpD.memD] at h
      split at h
      · rename_i c' e
        cases h
        cases e
        exact .inr (.inr ⟨_, _, rfl, rfl, by simp⟩)
      · cases h
    | _ => simp [cmpD.memD] at h
  | non => simp [cmpD.memD] at h
  | bl => simp [cmpD.memD] at h
  | int => simp [cmpD.memD] at h
  | fl a b => simp [cmpD.memD] at h
theorem op_inE (hu : X.A.units + 1 < cLine) : OpR X (compareOp .In) (rC X.K T .isin) := by
  intro pins s σ H x y v u Q I rx ry ⟨r, S, d, d2, b, hx, hy, si, h, q⟩
  rcases memD_ok hx hy si h with ⟨p, xs, e, h1, h2, h3, h4⟩ | ⟨a, o, e, h1, h2⟩ | ⟨c, z, e1, e2, h1⟩
  · exact op_in_seq pins s σ H x y v u Q I rx ry ⟨p, xs, e, h1, h2, h3, by rw [if_neg Bool.false_ne_true, h4]; exact q⟩
  · subst e
    obtain rfl : u = Value.ref a := ry
    exact d_in hu I h1 rx fun s3 I3 => ⟨.bl o.isSome, H, I3, rfl, by rw [h2]; exact q⟩
  · exact op_in_sign pins s σ H x y v u Q I rx ry ⟨c, z, e1, e2, by rw [h1]; exact q⟩
theorem op_notinE (hu : X.A.units + 1 < cLine) : OpR X (compareOp .NotIn) (rC X.K T .notin) := by
  intro pins s σ H x y v u Q I rx ry ⟨r, S, d, d2, b, hx, hy, si, h, q⟩
  simp only [cmpD, Option.map_eq_some_iff] at h
  obtain ⟨c, h, rfl⟩ := h
  rcases memD_ok hx hy si h with ⟨p, xs, e, h1, h2, h3, h4⟩ | ⟨a, o, e, h1, h2⟩ | ⟨c, z, e1, e2, h1⟩
  · exact op_notIn_seq pins s σ H x y v u Q I rx ry ⟨p, xs, e, h1, h2, h3, by rw [if_pos rfl, h4]; exact q⟩
  · subst e
    obtain rfl : u = Value.ref a := ry
    exact d_notIn hu I h1 rx fun s3 I3 => ⟨.bl (!o.isSome), H, I3, rfl, by rw [h2]; exact q⟩
  · exact op_notIn_sign pins s σ H x y v u Q I rx ry ⟨c, z, e1, e2, by rw [h1]; exact q⟩
theorem copE (hu : X.A.units + 64 < cLine) {o : CmpOp} {n : Bool} {c : COp} (h : cop n o = some c) : OpR X (compareOp o) (rC X.K T c) := by
  have hu1 : X.A.units + 1 < cLine := by omega
  cases o <;> simp only [cop] at h
  all_goals first
    | (cases h; first | exact op_eqE hu | exact op_neE hu | exact op_ltE | exact op_leE | exact op_gtE | exact op_geE | exact op_inE hu1 | exact op_notinE hu1)
    | (split at h <;> cases h; first | exact op_isNE | exact op_notNE)

/-! ### index -/
theorem atI_V {ds : List D} {xs : List V} (hr : RepVs K H r ds xs) {i : Int} {d : D} (e : atI ds i = some d) : ∃ x, L2.atI xs i = some x ∧ RepV K H r d x := by
  unfold atI at e
  unfold L2.atI
  rw [Option.bind_eq_some_iff] at e
  obtain ⟨j, e1, e2⟩ := e
  obtain ⟨x, e3, q⟩ := hr.get e2
  refine ⟨x, ?_, q⟩
  rw [← hr.length]
  show (ixN ds.length i).bind _ = _
  rw [e1]
  exact e3
theorem ixE (hu : X.A.units + 1 < cLine) : IxR X (rB X.K T ixD) := by
  intro value slice pins s σ H x y v u Q I rx ry ⟨r, S, d, d2, hx, hy, si, g⟩ hs
  cases hx with
  | tup hq hr =>
    cases hy <;> try exact False.elim g
    rename_i ds a xs k
    simp only [ixD, getD'] at g
    split at g
    · rename_i d e
      obtain ⟨x, e1, q1⟩ := atI_V hr e
      exact ix_seq value slice pins s σ H _ _ v u Q I rx ry (.inr (.inl ⟨_, _, _, _, rfl, rfl, hq, e1, g.same q1 si⟩)) hs
    · exact False.elim g
  | str t =>
    cases hy <;> try exact False.elim g
    simp only [ixD] at g
    split at g
    · rename_i hl
      simp only [getD'] at g
      split at g
      · rename_i d e
        rw [Option.map_eq_some_iff] at e
        obtain ⟨c, e, rfl⟩ := e
        refine ix_seq value slice pins s σ H _ _ v u Q I rx ry (.inr (.inr ⟨_, _, c, rfl, rfl, by rw [sv_len, ← big_eq]; exact hl, ?_, g.same (.str [c]) si⟩)) hs
        rw [sv_list]; exact e
      · exact False.elim g
    · exact False.elim g
  | ref gp =>
    simp only [ixD] at g
    split at g
    · rename_i ds e
      obtain ⟨xs, e1, hr⟩ := si.lst e gp
      cases hy <;> try exact False.elim g
      simp only [getD'] at g
      split at g
      · rename_i d e
        obtain ⟨x, e2, q1⟩ := atI_V hr e
        exact ix_seq value slice pins s σ H _ _ v u Q I rx ry (.inl ⟨_, _, _, _, rfl, rfl, .inl (.inl e1), e2, g.same q1 si⟩) hs
      · exact False.elim g
    · split at g
      · rename_i kvs e
        obtain ⟨ks, e1, hr⟩ := si.dct e gp
        split at g
        · rename_i hc
          simp only [getD'] at g
          split at g
          · rename_i w e2
            obtain ⟨q, hq⟩ := keyD_some hc
            have hyq := keyD_V hq hy
            subst hyq
            obtain ⟨xv, e3, q1⟩ := (hr.get hq).1 w e2
            obtain rfl := (show v = Value.ref _ from rx)
            have dg := DGet.k (k := q) e1
            rw [e3] at dg
            exact tail_any (dict_typeIs I dg) PySem.F.slot_dict_getitem.lookup (d_getItem hu I dg ry fun w' s3 I3 rw' => ⟨xv, H, I3, rw', g.same q1 si⟩) hs
          · exact False.elim g
        · exact False.elim g
      · exact False.elim g
  | non => exact False.elim g
  | bl => exact False.elim g
  | int => exact False.elim g
  | fl a b => exact False.elim g

/-! ### slices -/
theorem sIx_eq (n d : Nat) (o : Option Int) : sIx n d o = HT.sIx n d o := by cases o <;> rfl
theorem cut_V {ds : List D} {xs : List V} (hr : RepVs K H r ds xs) (lo hi : Option Int) : RepVs K H r (cut ds lo hi) (cutV xs lo hi) := by
  unfold cut cutV
  rw [sIx_eq, sIx_eq, hr.length]
  exact (hr.drop _).take _
theorem cut_all {ds : List D} {xs : List V} (hr : RepVs K H r ds xs) {lo hi : Option Int} (h : HT.sIx xs.length 0 lo = 0 ∧ HT.sIx xs.length xs.length hi = xs.length) : cut ds lo hi = ds := by
  unfold cut
  rw [sIx_eq, sIx_eq, hr.length, h.1, h.2]
  rw [List.drop_zero, Nat.sub_zero, ← hr.length, List.take_length]
/-- the reading of a slice -/
def rS (K : Frag) (T : Tx) : V → Option Int → Option Int → Hp → VK → Prop := fun x lo hi H Q => ∃ r S d, RepV K H r d x ∧ SI K T H r S ∧ GoodN K T r H (slD d lo hi S) Q
theorem cut_sv (t : List Nat) (lo hi : Option Int) : cutS (sv t) lo hi = sv (cut t lo hi) := by
  unfold cutS cut
  simp only [sv_len, sIx_eq]
  try rfl
theorem slE : SlR X (rS X.K T) := by
  intro pins s σ H x v vl vu lo hi sl Q I rx hs pl pu ⟨r, S, d, hx, si, g⟩
  cases hx with
  | tup hq hr =>
    refine sl_tupA pins s σ H _ v vl vu lo hi sl Q I rx hs pl pu ⟨_, _, rfl, hq, fun h => ?_, fun _ => g.tup (cut_V hr lo hi) si⟩
    simp only [slD] at g
    rw [cut_all hr h] at g
    exact g.same (.tup hq hr) si
  | str t =>
    simp only [slD] at g
    split at g
    · rename_i hl
      refine sl_str pins s σ H _ v vl vu lo hi sl Q I rx hs pl pu ⟨_, rfl, by rw [sv_len, ← big_eq]; exact hl, ?_⟩
      rw [cut_sv]
      exact g.same (.str _) si
    · exact False.elim g
  | ref gp =>
    simp only [slD] at g
    split at g
    · rename_i ds e
      obtain ⟨xs, e1, hr⟩ := si.lst e gp
      exact sl_list pins s σ H _ v vl vu lo hi sl Q I rx hs pl pu ⟨_, _, rfl, .inl (.inl e1), g.lst (cut_V hr lo hi) si⟩
    · exact False.elim g
  | fl hq hr => exact sl_list pins s σ H _ v vl vu lo hi sl Q I rx hs pl pu ⟨_, _, rfl, hq.sq, g.lst (cut_V hr lo hi) si⟩
  | non => exact False.elim g
  | bl => exact False.elim g
  | int => exact False.elim g

/-! ### stores -/
def rP (K : Frag) (T : Tx) : TSet := fun o i v H Q => ∃ r S d1 d2 d3 S', RepV K H r d1 o ∧ RepV K H r d2 i ∧ RepV K H r d3 v ∧ SI K T H r S ∧ setD d1 d2 d3 S = some S' ∧ ∀ H', Xt r H r H' → SI K T H' r S' → Q H'
theorem ixN_eq (n : Nat) (i : Int) : ixN n i = L2.ixN n i := rfl
theorem setE (hu : X.A.units + 1 < cLine) : PSet X (rP X.K T) := by
  intro pins s σ H o i v ov iv u Q I ro ri rv ⟨r, S, d1, d2, d3, S', h1, h2, h3, si, e, q⟩
  cases h1 with
  | ref g =>
    simp only [setD] at e
    split at e
    · rename_i ds es
      obtain ⟨xs, e1, hr⟩ := si.lst' es g
      cases h2 <;> try (simp at e; done)
      simp only at e
      split at e
      · rename_i j ej
        cases e
        refine set_list pins s σ H _ _ v ov iv u Q I ro ri rv ⟨_, xs, _, j, rfl, rfl, e1, by rw [← hr.length]; exact ej, ?_⟩
        have ex := Xt.put (H := H) (u := .lst (xs.set j v)) (List.mem_of_getElem? g) (si.noTup _ (List.mem_of_getElem? g))
        exact q _ ex (si.put g ⟨_, upd_same, RepVs.set (RepVs.ext ex si.noTup _ _ hr) j (RepV.ext ex si.noTup _ _ h3)⟩)
      · cases e
    · rename_i kvs es
      obtain ⟨ks, e1, hr⟩ := si.dct es g
      split at e
      · rename_i hc
        rw [Bool.and_eq_true, decide_eq_true_eq] at hc
        cases e
        obtain ⟨k, hk⟩ := keyD_some hc.1
        have hik := keyD_V hk h2
        subst hik
        obtain rfl := (show ov = Value.ref _ from ro)
        have hl : ks.length < sizeLine := by rw [← hr.len, ← big_eq]; exact hc.2
        refine d_setItem hu I (DPut.k e1 hl) ri rv fun s3 I3 => ⟨_, I3, ?_⟩
        have ex := Xt.put (H := H) (u := .dK (putK ks k v)) (List.mem_of_getElem? g) (si.noTup _ (List.mem_of_getElem? g))
        exact q _ ex (si.put g ⟨_, upd_same, RepK.put (hr.ext ex si.noTup) hk (RepV.ext ex si.noTup _ _ h3)⟩)
      · cases e
    · cases e
  | non => simp [setD] at e
  | bl => simp [setD] at e
  | int => simp [setD] at e
  | str => simp [setD] at e
  | tup a b => simp [setD] at e
  | fl a b => simp [setD] at e
end
end Ev
end
section
/-! Built-in functions and methods. -/
namespace Ev
open PySem L2 PyProof.Rows
open PySem.W (Frag)

theorem sum_rawT {prog : Program} {w : World} {A : Around} {E : Value → Shared → Prop} {s : Shared} {t : Addr} {its : List Value} {ns : List Int} {Q : Value → Shared → Prop} (hh : A.handled = none) (hl : IsTup s.heap t its.toArray) (hi : IntsAre its ns)
    (h : ∀ h' tk t', (∀ b o, s.heap.get? b = some o → h'.get? b = some o) → Q (.int ns.sum t') { s with heap := h', toks := tk }) : wpAny (model prog w) A (call (.builtin "sum") [.ref t]) Q E s := by
  obtain ⟨xs, e⟩ := hi.allInts.items
  have hn : numsOf (intItems xs).toList = ns := by rw [← e]; exact hi.numsOf
  rw [nums_intItems] at hn
  rw [e] at hl
  refine PySem.W.ktm_sumG hh hl fun h' tk t' hk => ?_
  have := h h' tk t' hk
  rw [preSum_eq, List.take_of_length_le (by simp), hn]; exact this
/-- sum of a tuple of ints -/
def rSumT (K : PySem.W.Frag) : List V → Hp → VK → Prop := fun vs H Q => ∃ (a : Addr) (ns : List Int), vs = [V.ref a] ∧ SqT K H a (ns.map V.int) ∧ Q (.int ns.sum) H
theorem cr_sumT {X : Cx} (hc : X.calm = true) : CallR X (.builtin "sum") (rSumT X.K) := by
  intro pins s σ H vs us Q I r h
  obtain ⟨a, ns, rfl, hs, q⟩ := h
  obtain ⟨its, rv, hl, _⟩ := I.tuple hs
  rw [Vals.ref1 r]
  exact sum_rawT (I.ok.hd hc) hl rv.ints fun h' tk t' hk => ⟨.int _, H, I.kept hk, ⟨_, rfl⟩, q⟩

/-- the reading of a call of what is built in -/
def rN (K : Frag) (T : Tx) (f : List D → Sto → Res D) : List V → Hp → VK → Prop := fun xs H Q => ∃ r S ds, RepVs K H r ds xs ∧ SI K T H r S ∧ GoodN K T r H (f ds S) Q
def rM (K : Frag) (T : Tx) (f : D → List D → Sto → Res D) : V → List V → Hp → VK → Prop := fun x xs H Q => ∃ r S d ds, RepV K H r d x ∧ RepVs K H r ds xs ∧ SI K T H r S ∧ GoodN K T r H (f d ds S) Q

section
variable {K : Frag} {T : Tx} {H : Hp} {r : List Addr}
theorem RepVs.one {d : D} {xs : List V} (h : RepVs K H r [d] xs) : ∃ x, xs = [x] ∧ RepV K H r d x := by
  cases h with | cons a b => cases b; exact ⟨_, rfl, a⟩
theorem RepVs.two {d e : D} {xs : List V} (h : RepVs K H r [d, e] xs) : ∃ x y, xs = [x, y] ∧ RepV K H r d x ∧ RepV K H r e y := by
  cases h with | cons a b => cases b with | cons b c => cases c; exact ⟨_, _, rfl, a, b⟩
theorem ints_V : ∀ {ds : List D} {is : List Int} {xs : List V}, intsD ds = some is → RepVs K H r ds xs → xs = is.map V.int
  | [], is, _, h, .nil => by simp [intsD] at h; subst h; rfl
  | d :: ds, is, _, h, .cons a b => by
    cases a <;> try (simp [intsD] at h)
    obtain ⟨js, h1, rfl⟩ := h
    rw [ints_V h1 b]; rfl
theorem strs_V : ∀ {ds : List D} {ss : List (List Nat)} {xs : List V}, strsD ds = some ss → RepVs K H r ds xs → xs = (ss.map sv).map V.str
  | [], is, _, h, .nil => by simp [strsD] at h; subst h; rfl
  | d :: ds, is, _, h, .cons a b => by
    cases a <;> try (simp [strsD] at h)
    obtain ⟨js, h1, rfl⟩ := h
    rw [strs_V h1 b]; rfl
theorem V_ints : ∀ (is : List Int), RepVs K H r (is.map .int) (is.map V.int)
  | [] => .nil
  | i :: is => .cons (.int i) (V_ints is)
theorem V_strs : ∀ (ss : List (List Nat)), RepVs K H r (ss.map .str) ((ss.map sv).map V.str)
  | [] => .nil
  | i :: is => .cons (.str i) (V_strs is)
theorem ints_len : ∀ {ds : List D} {is : List Int}, intsD ds = some is → is.length = ds.length
  | [], is, h => by simp [intsD] at h; subst h; rfl
  | d :: ds, is, h => by
    cases d <;> try (simp [intsD] at h)
    obtain ⟨js, h1, rfl⟩ := h
    simp [ints_len h1]
theorem strs_len : ∀ {ds : List D} {ss : List (List Nat)}, strsD ds = some ss → ss.length = ds.length
  | [], is, h => by simp [strsD] at h; subst h; rfl
  | d :: ds, is, h => by
    cases d <;> try (simp [strsD] at h)
    obtain ⟨js, h1, rfl⟩ := h
    simp [strs_len h1]
end

/-! ### sorting -/
theorem insI_perm (x : Int) : ∀ l, (insI x l).Perm (x :: l)
  | [] => .refl _
  | y :: r => by
    unfold insI; split
    · exact ((insI_perm x r).cons y).trans (.swap _ _ _)
    · exact .refl _
theorem sortI_perm : ∀ l, (sortI l).Perm l
  | [] => .refl _
  | x :: r => (insI_perm x _).trans ((sortI_perm r).cons x)
theorem insI_sorted (x : Int) : ∀ l, l.Pairwise (· ≤ ·) → (insI x l).Pairwise (· ≤ ·)
  | [], _ => by simp [insI]
  | y :: r, h => by
    have h' := List.pairwise_cons.mp h
    unfold insI; split
    · rename_i hy
      refine List.pairwise_cons.mpr ⟨fun a ha => ?_, insI_sorted x r h'.2⟩
      rcases List.mem_cons.mp ((insI_perm x r).mem_iff.mp ha) with rfl | ha
      · omega
      · exact h'.1 a ha
    · rename_i hy
      refine List.pairwise_cons.mpr ⟨fun a ha => ?_, h⟩
      rcases List.mem_cons.mp ha with rfl | ha
      · omega
      · have := h'.1 a ha; omega
theorem sortI_sorted : ∀ l, (sortI l).Pairwise (· ≤ ·)
  | [] => .nil
  | x :: r => insI_sorted x _ (sortI_sorted r)
theorem sortI_eq {l ns : List Int} (hp : ns.Perm l) (hs : ns.Pairwise (· ≤ ·)) : ns = sortI l :=
  List.Perm.eq_of_pairwise (le := (· ≤ ·)) (fun a b _ _ h1 h2 => by omega) hs (sortI_sorted l) (hp.trans (sortI_perm l).symm)

theorem ltS_eq : ∀ a b, PySem.Spec.ltCps a b = ltS a b
  | [], [] => rfl
  | [], _ :: _ => rfl
  | _ :: _, [] => rfl
  | a :: r, b :: s => by
    simp only [PySem.Spec.ltCps, ltS, ltS_eq r s]
    rw [show (a == b) = decide (a = b) from Bool.beq_eq_decide_eq a b]
theorem ltS_irrefl : ∀ a, ltS a a = false
  | [] => rfl
  | a :: r => by simp [ltS, ltS_irrefl r]
theorem ltS_trans : ∀ a b c, ltS a b = true → ltS b c = true → ltS a c = true
  | [], [], _, h, _ => by simp [ltS] at h
  | [], _ :: _, [], _, h => by simp [ltS] at h
  | [], _ :: _, _ :: _, _, _ => rfl
  | _ :: _, [], _, h, _ => by simp [ltS] at h
  | _ :: _, _ :: _, [], _, h => by simp [ltS] at h
  | a :: r, b :: s, c :: t, h, g => by
    simp only [ltS, Bool.or_eq_true, Bool.and_eq_true, decide_eq_true_eq] at h g ⊢
    rcases h with h | ⟨h, h'⟩ <;> rcases g with g | ⟨g, g'⟩
    · exact .inl (by omega)
    · exact .inl (by omega)
    · exact .inl (by omega)
    · exact .inr ⟨by omega, ltS_trans r s t h' g'⟩
theorem ltS_tri : ∀ a b, ltS a b = false → ltS b a = false → a = b
  | [], [], _, _ => rfl
  | [], _ :: _, h, _ => by simp [ltS] at h
  | _ :: _, [], _, h => by simp [ltS] at h
  | a :: r, b :: s, h, g => by
    simp only [ltS, Bool.or_eq_false_iff, Bool.and_eq_false_iff, decide_eq_false_iff_not] at h g
    have e : a = b := by omega
    subst e
    have h' := h.2.resolve_left (by simp)
    have g' := g.2.resolve_left (by simp)
    rw [ltS_tri r s h' g']
/-- not after -/
def leS (a b : List Nat) : Prop := ltS b a = false
theorem leS_trans {a b c : List Nat} (h : leS a b) (g : leS b c) : leS a c := by
  unfold leS at *
  cases e : ltS c a with
  | false => rfl
  | true =>
    cases e2 : ltS a b with
    | true => rw [ltS_trans c a b e e2] at g; cases g
    | false => rw [ltS_tri b a h e2] at g; rw [e] at g; cases g
theorem leS_total (a b : List Nat) (h : ltS a b = true) : leS a b := by
  unfold leS
  cases e : ltS b a with
  | false => rfl
  | true => rw [← ltS_irrefl a]; exact (ltS_trans a b a h e).symm
theorem insS_perm (x : List Nat) : ∀ l, (insS x l).Perm (x :: l)
  | [] => .refl _
  | y :: r => by
    unfold insS; split
    · exact ((insS_perm x r).cons y).trans (.swap _ _ _)
    · exact .refl _
theorem sortS_perm : ∀ l, (sortS l).Perm l
  | [] => .refl _
  | x :: r => (insS_perm x _).trans ((sortS_perm r).cons x)
theorem insS_sorted (x : List Nat) : ∀ l, l.Pairwise leS → (insS x l).Pairwise leS
  | [], _ => by simp [insS]
  | y :: r, h => by
    have h' := List.pairwise_cons.mp h
    unfold insS; split
    · rename_i hy
      refine List.pairwise_cons.mpr ⟨fun a ha => ?_, insS_sorted x r h'.2⟩
      rcases List.mem_cons.mp ((insS_perm x r).mem_iff.mp ha) with rfl | ha
      · exact leS_total _ _ hy
      · exact h'.1 a ha
    · rename_i hy
      have hy' : leS x y := by unfold leS; simpa using hy
      refine List.pairwise_cons.mpr ⟨fun a ha => ?_, h⟩
      rcases List.mem_cons.mp ha with rfl | ha
      · exact hy'
      · exact leS_trans hy' (h'.1 a ha)
theorem sortS_sorted : ∀ l, (sortS l).Pairwise leS
  | [] => .nil
  | x :: r => insS_sorted x _ (sortS_sorted r)
theorem rising_pair : ∀ (p : Str) (l : List Str), risingS p l = true → (p :: l).Pairwise (fun a b => leS a.cps.toList b.cps.toList)
  | p, [], _ => by simp
  | p, x :: r, h => by
    simp only [risingS, Bool.and_eq_true, Bool.not_eq_true'] at h
    have ih := rising_pair x r h.2
    have h1 : leS p.cps.toList x.cps.toList := by unfold leS; rw [← ltS_eq]; exact h.1
    refine List.pairwise_cons.mpr ⟨fun a ha => ?_, ih⟩
    rcases List.mem_cons.mp ha with rfl | ha
    · exact h1
    · exact leS_trans h1 ((List.pairwise_cons.mp ih).1 a ha)
theorem sortedS_pair : ∀ (l : List Str), sortedS l = true → l.Pairwise (fun a b => leS a.cps.toList b.cps.toList)
  | [], _ => .nil
  | x :: r, h => rising_pair x r h
theorem sortS_eq {l : List (List Nat)} {ys : List Str} (hp : ys.Perm (l.map sv)) (hs : sortedS ys = true) : ys = (sortS l).map sv := by
  have h1 : (ys.map (fun a => a.cps.toList)).Pairwise leS := List.pairwise_map.mpr (sortedS_pair ys hs)
  have h2 : (ys.map (fun a => a.cps.toList)).Perm l := by
    have := hp.map (fun a => a.cps.toList)
    rw [List.map_map] at this
    rwa [show ((fun a : Str => a.cps.toList) ∘ sv) = id from funext fun a => sv_list a, List.map_id] at this
  have h3 : ys.map (fun a => a.cps.toList) = sortS l := List.Perm.eq_of_pairwise (le := leS) (fun a b _ _ h1 h2 => ltS_tri a b h2 h1) h1 (sortS_sorted l) (h2.trans (sortS_perm l).symm)
  rw [← h3, List.map_map, show (sv ∘ (fun a : Str => a.cps.toList)) = id from funext fun a => sv_cps a, List.map_id]

theorem maxI_spec : ∀ (l : List Int) (m : Int), maxI m l ∈ m :: l ∧ ∀ y ∈ m :: l, y ≤ maxI m l
  | [], m => by simp [maxI]
  | x :: r, m => by
    have h := maxI_spec r (if x > m then x else m)
    unfold maxI
    constructor
    · rcases List.mem_cons.mp h.1 with e | e
      · rw [e]; split <;> simp
      · exact List.mem_cons_of_mem _ (List.mem_cons_of_mem _ e)
    · intro y hy
      have h0 := h.2 _ (List.mem_cons_self ..)
      rcases List.mem_cons.mp hy with rfl | hy
      · by_cases c : x > y
        · rw [if_pos c] at h0 ⊢; omega
        · rw [if_neg c] at h0 ⊢; exact h0
      · rcases List.mem_cons.mp hy with rfl | hy
        · by_cases c : y > m
          · rw [if_pos c] at h0 ⊢; exact h0
          · rw [if_neg c] at h0 ⊢; omega
        · exact h.2 y (List.mem_cons_of_mem _ hy)
theorem minI_spec : ∀ (l : List Int) (m : Int), minI m l ∈ m :: l ∧ ∀ y ∈ m :: l, minI m l ≤ y
  | [], m => by simp [minI]
  | x :: r, m => by
    have h := minI_spec r (if x < m then x else m)
    unfold minI
    constructor
    · rcases List.mem_cons.mp h.1 with e | e
      · rw [e]; split <;> simp
      · exact List.mem_cons_of_mem _ (List.mem_cons_of_mem _ e)
    · intro y hy
      have h0 := h.2 _ (List.mem_cons_self ..)
      rcases List.mem_cons.mp hy with rfl | hy
      · by_cases c : x < y
        · rw [if_pos c] at h0 ⊢; omega
        · rw [if_neg c] at h0 ⊢; exact h0
      · rcases List.mem_cons.mp hy with rfl | hy
        · by_cases c : y < m
          · rw [if_pos c] at h0 ⊢; exact h0
          · rw [if_neg c] at h0 ⊢; omega
        · exact h.2 y (List.mem_cons_of_mem _ hy)

/-! ### functions -/
def biV : BI → Value
  | .len => .builtin "len" | .abs => .builtin "abs" | .int => .type "int" | .max2 => .builtin "max" | .min2 => .builtin "min" | .tuple => .type "tuple"
  | .list => .type "list" | .sorted => .builtin "sorted" | .sum => .builtin "sum" | .maxl => .builtin "max" | .minl => .builtin "min"
section
variable {X : Cx} {T : Tx}
theorem biE (hc : X.calm = true) (f : BI) : CallR X (biV f) (rN X.K T (biD f)) := by
  intro pins s σ H xs us Q I rv ⟨r, S, ds, hr, si, g⟩
  cases f with
  | len =>
    cases hr with
    | nil => exact False.elim g
    | cons a b =>
      cases b with
      | cons _ _ => exact False.elim g
      | nil =>
        refine call_len pins s σ H _ us Q I rv ?_
        simp only [biD] at g
        cases a with
        | str t =>
          simp only at g
          split at g
          · rename_i h
            exact ⟨_, _, rfl, ⟨by rw [sv_len, ← big_eq]; exact h, rfl⟩, by rw [sv_len]; exact g.same (.int _) si⟩
          · exact False.elim g
        | tup q q2 => exact ⟨_, _, rfl, .inr ⟨_, q, rfl⟩, by rw [← q2.length]; exact g.same (.int _) si⟩
        | ref q =>
          simp only at g
          split at g
          · rename_i ys e
            obtain ⟨zs, e1, hz⟩ := si.lst e q
            exact ⟨_, _, rfl, .inl ⟨_, SqL.of e1, rfl⟩, by rw [← hz.length]; exact g.same (.int _) si⟩
          · exact False.elim g
        | non => exact False.elim g
        | bl => exact False.elim g
        | int => exact False.elim g
        | fl => exact False.elim g
  | abs =>
    cases hr with
    | nil => exact False.elim g
    | cons a b =>
      cases b with
      | cons _ _ => cases a <;> exact False.elim g
      | nil =>
        cases a <;> try exact False.elim g
        exact call_abs pins s σ H _ us Q I rv ⟨_, rfl, g.same (.int _) si⟩
  | int =>
    cases hr with
    | nil => exact False.elim g
    | cons a b =>
      cases b with
      | cons _ _ => cases a <;> exact False.elim g
      | nil =>
        cases a <;> try exact False.elim g
        · exact call_int1 pins s σ H _ us Q I rv (.inr ⟨_, rfl, g.same (.int _) si⟩)
        · exact call_int1 pins s σ H _ us Q I rv (.inl ⟨_, rfl, g.same (.int _) si⟩)
  | max2 =>
    cases hr with
    | nil => exact False.elim g
    | cons a b =>
      cases b with
      | nil => cases a <;> exact False.elim g
      | cons b c =>
        cases c with
        | cons _ _ => cases a <;> cases b <;> exact False.elim g
        | nil =>
          cases a <;> cases b <;> try exact False.elim g
          exact call_max2 hc pins s σ H _ us Q I rv ⟨_, _, rfl, g.same (.int _) si⟩
  | min2 =>
    cases hr with
    | nil => exact False.elim g
    | cons a b =>
      cases b with
      | nil => cases a <;> exact False.elim g
      | cons b c =>
        cases c with
        | cons _ _ => cases a <;> cases b <;> exact False.elim g
        | nil =>
          cases a <;> cases b <;> try exact False.elim g
          exact call_min2 hc pins s σ H _ us Q I rv ⟨_, _, rfl, g.same (.int _) si⟩
  | tuple =>
    cases hr with
    | nil => exact False.elim g
    | cons a b =>
      cases b with
      | cons _ _ => exact False.elim g
      | nil =>
        simp only [biD] at g
        cases a with
        | tup q q2 => exact call_tuple_of pins s σ H _ us Q I rv ⟨_, _, rfl, .inr ⟨q, g.same (.tup q q2) si⟩⟩
        | ref q =>
          simp only at g
          split at g
          · rename_i ys e
            obtain ⟨zs, e1, hz⟩ := si.lst e q
            exact call_tuple_of pins s σ H _ us Q I rv ⟨_, _, rfl, .inl ⟨SqL.of e1, g.tup hz si⟩⟩
          · exact False.elim g
        | non => exact False.elim g
        | bl => exact False.elim g
        | int => exact False.elim g
        | str => exact False.elim g
        | fl => exact False.elim g
  | list =>
    cases hr with
    | nil => exact False.elim g
    | cons a b =>
      cases b with
      | cons _ _ => exact False.elim g
      | nil =>
        simp only [biD] at g
        cases a with
        | tup q q2 => exact call_list_of pins s σ H _ us Q I rv ⟨_, _, rfl, .inr q, g.lst q2 si⟩
        | ref q =>
          simp only at g
          split at g
          · rename_i ys e
            obtain ⟨zs, e1, hz⟩ := si.lst e q
            exact call_list_of pins s σ H _ us Q I rv ⟨_, _, rfl, .inl (SqL.of e1), g.lst hz si⟩
          · exact False.elim g
        | non => exact False.elim g
        | bl => exact False.elim g
        | int => exact False.elim g
        | str => exact False.elim g
        | fl => exact False.elim g
  | sorted =>
    cases hr with
    | nil => exact False.elim g
    | cons a b =>
      cases b with
      | cons _ _ => cases a <;> exact False.elim g
      | nil =>
        cases a <;> try exact False.elim g
        rename_i n p q
        simp only [biD] at g
        split at g
        · rename_i ys e
          obtain ⟨zs, e1, hz⟩ := si.lst e q
          unfold sortedD at g
          split at g
          · rename_i h64
            split at g
            · rename_i ss e2
              have ez := strs_V e2 hz
              subst ez
              refine cr_sortedS pins s σ H _ us Q I rv ⟨_, _, rfl, SqL.of e1, by rw [List.length_map, strs_len e2]; exact h64, fun ys p h1 h2 h3 => ?_⟩
              rw [sortS_eq h1 h2]
              exact g.lst (V_strs _) si p h3
            · split at g
              · rename_i is e2
                have ez := ints_V e2 hz
                subst ez
                refine cr_sorted pins s σ H _ us Q I rv ⟨_, _, rfl, SqL.of e1, by rw [ints_len e2]; exact h64, fun ys p h1 h2 h3 => ?_⟩
                rw [sortI_eq h1 h2]
                exact g.lst (V_ints _) si p h3
              · exact False.elim g
          · exact False.elim g
        · split at g
          · rename_i kvs e
            obtain ⟨ks, e1, hk⟩ := si.dct e q
            split at g
            · rename_i ss e2
              split at g
              · rename_i h64
                have hks : ∀ {kvs : List (D × D)} {ks : List (Key × V)} {ss : List (List Nat)}, strsD (kvs.map (·.1)) = some ss → RepK X.K H r kvs ks → ks.map (·.1) = (ss.map sv).map Sum.inr := by
                  intro kvs
                  induction kvs with
                  | nil => intro ks ss e h; cases h; simp [strsD] at e; subst e; rfl
                  | cons a kvs ih =>
                    intro ks ss e h
                    cases h with
                    | cons hk hv hr =>
                      rename_i k v q x qs
                      cases k <;> simp [strsD] at e
                      obtain ⟨js, h1, rfl⟩ := e
                      simp only [keyD, Option.some.injEq] at hk
                      subst hk
                      simp only [List.map_cons, ih h1 hr]
                refine call_sortedD hc pins s σ H _ us Q I rv ⟨_, _, _, rfl, .inl e1, hks e2 hk, by rw [List.length_map]; exact h64, fun ys p h1 h2 h3 => ?_⟩
                rw [sortS_eq h1 h2]
                exact g.lst (V_strs _) si p h3
              · exact False.elim g
            · exact False.elim g
          · exact False.elim g
  | sum =>
    cases hr with
    | nil => exact False.elim g
    | cons a b =>
      cases b with
      | cons _ _ => cases a <;> exact False.elim g
      | nil =>
        cases a <;> try exact False.elim g
        rotate_left
        · rename_i ds a xs ht hz
          simp only [biD] at g
          split at g
          · rename_i is e2
            have ez := ints_V e2 hz
            subst ez
            exact cr_sumT hc pins s σ H _ us Q I rv ⟨_, _, rfl, ht, g.same (.int _) si⟩
          · exact False.elim g
        rename_i n p q
        simp only [biD] at g
        split at g
        · rename_i ys e
          obtain ⟨zs, e1, hz⟩ := si.lst e q
          split at g
          · rename_i is e2
            have ez := ints_V e2 hz
            subst ez
            exact cr_sum hc pins s σ H _ us Q I rv ⟨_, _, rfl, SqL.of e1, g.same (.int _) si⟩
          · exact False.elim g
        · exact False.elim g
  | maxl =>
    cases hr with
    | nil => exact False.elim g
    | cons a b =>
      cases b with
      | cons _ _ => cases a <;> exact False.elim g
      | nil =>
        cases a <;> try exact False.elim g
        rename_i n p q
        simp only [biD] at g
        split at g
        · rename_i ys e
          obtain ⟨zs, e1, hz⟩ := si.lst e q
          split at g
          · rename_i i is e2
            have ez := ints_V e2 hz
            subst ez
            refine cr_max hc pins s σ H _ us Q I rv ⟨_, _, rfl, SqL.of e1, by simp, fun m h1 h2 => ?_⟩
            obtain ⟨h3, h4⟩ := maxI_spec is i
            rw [show m = maxI i is from Int.le_antisymm (h4 m h1) (h2 _ h3)]
            exact g.same (.int _) si
          · exact False.elim g
        · exact False.elim g
  | minl =>
    cases hr with
    | nil => exact False.elim g
    | cons a b =>
      cases b with
      | cons _ _ => cases a <;> exact False.elim g
      | nil =>
        cases a <;> try exact False.elim g
        rename_i n p q
        simp only [biD] at g
        split at g
        · rename_i ys e
          obtain ⟨zs, e1, hz⟩ := si.lst e q
          split at g
          · rename_i i is e2
            have ez := ints_V e2 hz
            subst ez
            refine cr_min hc pins s σ H _ us Q I rv ⟨_, _, rfl, SqL.of e1, by simp, fun m h1 h2 => ?_⟩
            obtain ⟨h3, h4⟩ := minI_spec is i
            rw [show m = minI i is from Int.le_antisymm (h2 _ h3) (h4 m h1)]
            exact g.same (.int _) si
          · exact False.elim g
        · exact False.elim g

/-! ### methods -/
theorem idx_spec (c : Nat) : ∀ (s : List Nat) (j : Nat), idx c s = some j → s[j]? = some c ∧ ∀ k, k < j → s[k]? ≠ some c
  | [], j, h => by simp [idx] at h
  | a :: r, j, h => by
    unfold idx at h
    split at h
    · rename_i e; cases h; exact ⟨by simp [e], fun k hk => by omega⟩
    · rename_i e
      cases hj : idx c r with
      | none => rw [hj] at h; simp at h
      | some i =>
        rw [hj] at h; simp at h; subst h
        obtain ⟨h1, h2⟩ := idx_spec c r i hj
        refine ⟨by simpa using h1, fun k hk => ?_⟩
        cases k with
        | zero => simpa using e
        | succ k => simpa using h2 k (by omega)
theorem occ_idx {c j : Nat} {s : List Nat} (h : idx c s = some j) : ∃ rest, Builtin.Str.occurrences (sv s) (sv [c]) 0 (sv s).length 1 = j :: rest := by
  obtain ⟨h1, h2⟩ := idx_spec c s j h
  have at_iff : ∀ i, StrLaws.At (sv s) (sv [c]) (sv s).length i ↔ s[i]? = some c := fun i => by
    have := StrLaws.subAt_one (sv s) c i
    rw [sv_list] at this
    exact this
  rcases StrLaws.occ_head (sv s) (sv [c]) 1 (Nat.le_refl _) with ⟨h0, hn⟩ | ⟨i, rest, e, ha, hl⟩
  · exact absurd ((at_iff j).mpr h1) (hn j)
  · have hi := (at_iff i).mp ha
    have : i = j := by
      rcases Nat.lt_trichotomy i j with q | q | q
      · exact absurd hi (h2 i q)
      · exact q
      · exact absurd ((at_iff j).mpr h1) (hl j q)
    subst this
    exact ⟨rest, e⟩
theorem idxD_V {K : Frag} {H : Hp} {r : List Addr} {d : D} {x : V} (hd : flat d = true) (hx : RepV K H r d x) : ∀ {ds : List D} {xs : List V} {j : Nat}, ds.all flat = true → RepVs K H r ds xs → idxD d ds = some j →
    ∃ z, xs[j]? = some z ∧ eqV z x = true ∧ ∀ (m : Nat) (z' : V), m < j → xs[m]? = some z' → eqV z' x = false
  | [], _, j, _, _, h => by simp [idxD] at h
  | a :: ds, _, j, hf, .cons ha hr, h => by
    have hf' := hf
    simp only [List.all_cons, Bool.and_eq_true] at hf'
    unfold idxD at h
    have e0 := eqv_V hf'.1 hd ha hx
    split at h
    · rename_i e; cases h; exact ⟨_, rfl, by rw [e0]; exact e, fun m z' hm => by omega⟩
    · rename_i e
      cases hj : idxD d ds with
      | none => rw [hj] at h; simp at h
      | some i =>
        rw [hj] at h; simp at h; subst h
        obtain ⟨z, h1, h2, h3⟩ := idxD_V hd hx hf'.2 hr hj
        refine ⟨z, by simpa using h1, h2, fun m z' hm q => ?_⟩
        cases m with
        | zero => simp at q; subst q; rw [e0]; simpa using e
        | succ m => exact h3 m z' (by omega) (by simpa using q)

theorem me_append : MtR X "list.append" (rM X.K T (meD .append)) := by
  intro pins s σ H x xs v us Q I rx rv ⟨r, S, d, ds, hd, hr, si, g⟩
  cases hd with
  | ref q =>
    cases hr with
    | nil => exact False.elim g
    | cons a b =>
      cases b with
      | cons _ _ => exact False.elim g
      | nil =>
        simp only [meD] at g
        split at g
        · rename_i ys e
          split at g
          · rename_i hl
            obtain ⟨zs, e1, hz⟩ := si.lst' e q
            have hm := List.mem_of_getElem? q
            refine mt_append pins s σ H _ _ v us Q I rx rv ⟨_, zs, _, rfl, rfl, e1, by rw [← hz.length, ← big_eq]; exact hl, g r _ _ (Xt.put hm (si.noTup _ hm)) .non (si.put q ⟨_, upd_same, ?_⟩)⟩
            exact (RepVs.ext (Xt.put hm (si.noTup _ hm)) si.noTup _ _ hz).append (.cons (RepV.ext (Xt.put hm (si.noTup _ hm)) si.noTup _ _ a) .nil)
          · exact False.elim g
        · exact False.elim g
  | non => exact False.elim g
  | bl => exact False.elim g
  | int => exact False.elim g
  | str => exact False.elim g
  | tup => exact False.elim g
  | fl => exact False.elim g
theorem me_sindex : MtR X "str.index" (fun x xs H Q => (∃ s, x = .str s) ∧ rM X.K T (meD .index) x xs H Q) := by
  intro pins s σ H x xs v us Q I rx rv ⟨⟨t, et⟩, r, S, d, ds, hd, hr, si, g⟩
  subst et
  cases hd with
  | str s' =>
    cases hr with
    | nil => exact False.elim g
    | cons a b =>
      cases b with
      | cons _ _ => cases a <;> first | exact False.elim g | (rename_i t; match t with | [] => exact False.elim g | [_] => exact False.elim g | _ :: _ :: _ => exact False.elim g)
      | nil =>
        cases a with
        | str t =>
          match t, g, rv with
          | [], g, _ => exact False.elim g
          | _ :: _ :: _, g, _ => exact False.elim g
          | [c], g, rv =>
            simp only [meD] at g
            split at g
            · rename_i j e
              obtain ⟨rest, e'⟩ := occ_idx e
              exact mt_sindex pins s σ H _ _ v us Q I rx rv ⟨_, _, j, rest, rfl, rfl, e', g.same (.int _) si⟩
            · exact False.elim g
        | non => exact False.elim g
        | bl => exact False.elim g
        | int => exact False.elim g
        | ref => exact False.elim g
        | tup => exact False.elim g
        | fl => exact False.elim g
theorem me_lindex : MtR X "list.index" (fun x xs H Q => (∃ a, x = .ref a) ∧ rM X.K T (meD .index) x xs H Q) := by
  intro pins s σ H x xs v us Q I rx rv ⟨⟨t, et⟩, r, S, d, ds, hd, hr, si, g⟩
  subst et
  cases hd with
  | ref q =>
    cases hr with
    | nil => exact False.elim g
    | cons a b =>
      cases b with
      | cons _ _ => exact False.elim g
      | nil =>
        simp only [meD] at g
        split at g
        · rename_i ys e
          obtain ⟨zs, e1, hz⟩ := si.lst e q
          split at g
          · rename_i hf
            simp only [Bool.and_eq_true] at hf
            split at g
            · rename_i j ej
              obtain ⟨z, h1, h2, h3⟩ := idxD_V hf.1 a hf.2 hz ej
              exact mt_index pins s σ H _ _ v us Q I rx rv ⟨_, _, _, j, z, rfl, rfl, SqL.of e1, flat_V hf.1 a, flat_Vs hf.2 hz, h1, h2, h3, g.same (.int _) si⟩
            · exact False.elim g
          · exact False.elim g
        · exact False.elim g
  | tup => simp only [meD] at g; exact False.elim g
  | fl => simp only [meD] at g; exact False.elim g
end
end Ev
end
section
/-! enumerate of a tuple. -/
namespace Ev
open PySem L2 PyProof.Rows
open PySem.W (Frag)

set_option maxHeartbeats 1000000 in
theorem meets_enum1 {v : Value} {o : Obj} {H : Heap → Prop} (B : Begins v o H) :
    Meets (Builtin.«enumerate.__new__» ⟨[.type "enumerate", v], []⟩) (fun _ R s => H s.heap ∧
      R (.ok (.ret (.ref (s.heap.push o).objs.size))) { s with heap := (s.heap.push o).push { cls := .type "enumerate", data := .fields #[.none, .bool false, .ref s.heap.objs.size, rawInt 0, .none, .none] } }) :=
  .of_wp fun prog w A R s h => by
    obtain ⟨hp, g, d, tk, os⟩ := s; obtain ⟨h1, h⟩ := h
    have hsub := sub_enumerate
    have q1 : ∀ {A' : Around} {E : Value → Shared → Prop} {Q : Value → Shared → Prop}, Q (.ref hp.objs.size) ⟨hp.push o, g, d, tk, os⟩ → wpAny (model prog w) A' (pyIter v) Q E ⟨hp, g, d, tk, os⟩ :=
      fun q => B.iter prog w _ _ ⟨hp, g, d, tk, os⟩ _ h1 q
    wp_walk using q1
    refine wpAny_stack_any fun st => wpAny_pure ?_
    split
    · rename_i c _ _ _ _ _
      cases (c == Value.type "enumerate")
      · wp_walk using q1
        exact ⟨_, rfl, h⟩
      · wp_walk using q1
        exact ⟨_, rfl, h⟩
    · wp_walk using q1
      exact ⟨_, rfl, h⟩
section
variable {prog : Program} {w : World} {A : Around} {E : Value → Shared → Prop} {s : Shared}
theorem enum1_begins {v : Value} {o : Obj} {H : Heap → Prop} {Q : Value → Shared → Prop} (B : Begins v o H) (h1 : H s.heap)
    (h : ∀ h', IsEnum h' (s.heap.objs.size + 1) s.heap.objs.size 0 .none → h'.get? s.heap.objs.size = some o → h'.objs.size = s.heap.objs.size + 2 →
      (∀ b o, s.heap.get? b = some o → h'.get? b = some o) → Q (.ref (s.heap.objs.size + 1)) { s with heap := h' }) :
    wpAny (model prog w) A (call (.type "enumerate") [v]) Q E s := by
  refine callType_new F.called_enumerate (by decide) (F.typeCall_enumerate_1 _) (F.newCall_enumerate_1 _) (fun obj => F.args_object_init_2 obj _) F.entry_enumerate_new
    (meets_enum1 B) ⟨h1, ?_⟩
  have hz : (s.heap.push o).objs.size = s.heap.objs.size + 1 := Heap.size_push ..
  show _ ∧ _
  rw [hz]
  have he : IsEnum ((s.heap.push o).push { cls := .type "enumerate", data := .fields #[.none, .bool false, .ref s.heap.objs.size, rawInt 0, .none, .none] }) (s.heap.objs.size + 1) s.heap.objs.size 0 .none := by
    have := Heap.get?_push_size (s.heap.push o) (o := { cls := .type "enumerate", data := .fields #[.none, .bool false, .ref s.heap.objs.size, rawInt 0, .none, .none] }) rfl
    rw [hz] at this; exact this
  refine ⟨⟨_, he, rfl⟩, h _ he (Heap.get?_push_of_some _ (Heap.get?_push_size _ B.free)) (by rw [Heap.size_push, hz]) fun b o x => Heap.get?_push_of_some _ (Heap.get?_push_of_some _ x)⟩
end
/-- the tuple at a as it stands at each turn, each item in a new pair -/
def Itet (K : Frag) (a : Addr) : It :=
  ⟨fun i H => ∃ (xs : List V) (x : V), SqT K H a xs ∧ xs[i]? = some x, fun i H v H' => ∃ T x, v = .ref T ∧ H T = none ∧ H' = upd H T (.tup [.int (i : Nat), x]) ∧ ∀ xs, SqT K H a xs → xs[i]? = some x, fun i H => ∃ xs : List V, SqT K H a xs ∧ xs.length ≤ i⟩
theorem turn_enumT {P : Program} {w : World} {K : Frag} {elts : List Expr} {kk : Nat} {tpos : Pos} (a e it : Addr) (ne : e ≠ it ∧ e ≠ a ∧ a ≠ it) :
    Turn P w K (.Tuple elts kk tpos) (Itet K a) [e, it] e (fun i h => (∃ old, IsEnum h e it (i : Int) old) ∧ h.IsTupleIter it a i) where
  mem := List.mem_cons_self ..
  obj := by
    rintro i h ⟨⟨_, h1⟩, o, h2, _, h3⟩ b hb
    simp only [List.mem_cons, List.not_mem_nil, or_false] at hb
    rcases hb with rfl | rfl
    · exact ⟨_, h1, fun _ z => by cases z⟩
    · exact ⟨o, h2, fun _ z => by rw [h3] at z; cases z⟩
  keep := by
    rintro i h h' ⟨⟨old, h1⟩, h2⟩ k
    exact ⟨⟨old, k e (List.mem_cons_self ..) _ h1⟩, h2.at fun o q => k it (by simp) o q⟩
  item := by
    rintro X rfl rfl rfl hc i pins s σ H E I hf ⟨h1, h2⟩ ⟨xs, x, hq, hx⟩
    obtain ⟨its, rv, tp, _⟩ := I.tuple hq
    have tp' : s.heap.IsTuple a its.toArray := tp
    obtain ⟨u, hu, ru⟩ := rv.get hx
    have le : ∀ b ∈ [e, it], b < s.heap.objs.size := fun b hb => by
      simp only [List.mem_cons, List.not_mem_nil, or_false] at hb
      rcases hb with rfl | rfl
      · obtain ⟨_, z⟩ := h1; exact Heap.lt_size z
      · obtain ⟨_, z, _⟩ := h2; exact Heap.lt_size z
    have W := WalksT.enumerateD (Draws.tuple (prog := X.prog) (w := X.w) (A := X.A.in1) (I.ok.hd hc) it a ne.2.2 its.toArray) e ne.1 (by simp [ne.1, ne.2.1]) (by simp)
    have lt : i < its.toArray.size := by simpa using (List.getElem?_eq_some_iff.mp hu).1
    refine W.item i s _ _ lt ⟨h1, h2, tp'⟩ fun T vals h' tk pv hT isT mid k1 => ⟨_, rfl, W.go elts kk tpos i T { s with heap := h', toks := tk } _ _ mid fun h'' st k2 => ?_⟩
    obtain ⟨t, z, hz, rfl⟩ := pv
    obtain rfl : z = u := by
      have z1 : its[i]? = some z := by simpa using hz
      rw [hu] at z1; exact (Option.some.inj z1).symm
    obtain ⟨ob, ho, hcl, nn, hd⟩ := isT
    have hne : T ∉ [e, it] := fun m => Nat.lt_irrefl _ (Nat.lt_of_lt_of_le (le T m) hT)
    have new : ObjOk X.prog X.w (upd H T (.tup [.int (i : Nat), x])) h'' T (.tup [.int (i : Nat), x]) :=
      ⟨by show 2 ≤ sizeLine; decide, [.int i t, z], .cons ⟨t, rfl⟩ (.cons ru .nil), ⟨ob, k2 T ob hne ho, hcl, nn, hd⟩⟩
    refine ⟨.ref T, upd H T (.tup [.int (i : Nat), x]), I.turnedNew (ch := [e, it]) (fun b o hb q => k2 b o hb (k1 b o hb q)) hf hT new, rfl, ?_, ⟨?_, st.2.1⟩, fun b hb => ?_⟩
    · exact ⟨T, x, rfl, I.hok.fresh hT, rfl, fun ys hy => by rw [I.tuple_inj hy hq]; exact hx⟩
    · obtain ⟨old, z⟩ := st.1; exact ⟨old, z⟩
    · rw [upd_ne (Nat.ne_of_lt (Nat.lt_of_lt_of_le (le b hb) hT))]; exact (hf b hb).1
  done := by
    rintro X rfl rfl rfl hc i pins s σ H E I hf ⟨⟨old, h1⟩, h2⟩ ⟨xs, hq, hx⟩
    obtain ⟨its, rv, tp, _⟩ := I.tuple hq
    have tp' : s.heap.IsTuple a its.toArray := tp
    have fi := hf it (by simp)
    have ty : s.TypeIs (.ref e) "enumerate" := ⟨_, h1, rfl⟩
    have no : its.toArray[i]? = none := by have := rv.length; simp; omega
    unfold pyNext
    refine wpAny_bind (wpAny_attempt (wpAny_callSpecial?_slot (name := Str.ofString "__next__") ty PySem.F.slot_enumerate_next (wpAny_call_entry PySem.F.slot_enumerate_next ty PySem.F.entry_enumerate_next ?_ (PySem.F.args_enumerate_next_1 _))))
    show wpAny _ _ (field (.ref e) 2 >>= _) _ _ _
    refine wpAny_bind (wpAny_field h1 rfl (x := .ref it) rfl (wpAny_bind (wpAny_nextOf_tuple_end (I.ok.hd hc) h2 tp' no fun h' x eb isx => ?_)))
    obtain ⟨o, ho, hcl⟩ := isx
    refine wpAny_bind (wpAny_isInstance (T := "StopIteration") (b := true) ⟨o, ho, hcl⟩ isSubtype_stop (wpAny_pure ⟨rfl, ?_⟩))
    exact I.turned (t' := s.toks) (fun b o hb q => eb b o hb q) fi.1 fi.2.1 fi.2.2.2.1 fi.2.2.2.2.1 fi.2.2.2.2.2
  self := fun A i s Q E st h => by obtain ⟨⟨_, z⟩, _⟩ := st; exact wpAny_pyIter_enum z h
def iEnumT (K : Frag) (ta : TA) : TI := fun σ H R => ta σ H fun vs H1 => ∃ a xs, vs = [.ref a] ∧ SqT K H1 a xs ∧ R (Itet K a) H1
theorem pi_enumT {X : Cx} {e : Expr} {ta : TA} {p pos tpos : Pos} {elts : List Expr} {kk : Nat} (hg : Gl X "enumerate") (hm : X.mg "enumerate" = none) (ha : PA X [e] ta) (hs : starEach [e] X.env = [(false, eval e X.env)] := by rfl) :
    PI X (.Tuple elts kk tpos) (.Call (.Name "enumerate" p) [e] [] pos) (iEnumT X.K ta) := by
  refine ⟨fun pins s σ H R I h => ?_⟩
  refine Call_ (ld_blt I hg hm boot_enumerate (PyProof.Rows.callWith_type1 (thn (ha.run pos pins s σ H _ I h) fun us s1 ⟨vs, H1, I1, r1, q1⟩ => ?_) hs rfl))
  obtain ⟨a, xs, ex, hq, q⟩ := q1
  subst ex
  cases r1 with
  | cons r rr =>
    cases rr
    cases r
    obtain ⟨its, rv, p', hz⟩ := I1.tuple hq
    have hal : a < s1.heap.objs.size := by obtain ⟨_, q, _⟩ := p'; exact Heap.lt_size q
    refine enum1_begins (begins_tuple a its.toArray) p' fun h' he hit hsz hk => wpAny_pyIter_enum he ?_
    have I2 : Inv X pins σ H1 { s1 with heap := h' } := I1.kept (t' := s1.toks) hk
    refine ⟨s1.heap.objs.size + 1, [s1.heap.objs.size + 1, s1.heap.objs.size], _, _, H1, rfl, I2, turn_enumT a (s1.heap.objs.size + 1) s1.heap.objs.size ⟨Nat.succ_ne_self _, Nat.ne_of_gt (Nat.lt_succ_of_lt hal), Nat.ne_of_lt hal⟩, ⟨⟨.none, he⟩, ⟨_, hit, rfl, rfl⟩⟩, fun b hb => ?_, q⟩
    have e' : b = s1.heap.objs.size + 1 ∨ b = s1.heap.objs.size := by simpa using hb
    have hle : s1.heap.objs.size ≤ b := by
      rcases e' with z | z
      · rw [z]; exact Nat.le_add_right _ _
      · rw [z]; exact Nat.le_refl _
    exact I1.fpOk hle (I1.hok.fresh hle)
end Ev
end
section
/-! From the evaluator's readings to the rules' readings. -/
namespace Ev
open PySem L2 PyProof.Rows
open PySem.W (Frag)

/-! ### no exception -/
def NoX {α : Type} (x : Res α) : Prop := ∀ e S, x ≠ .exc e S
theorem alloc_nx (o : MO) (S : Sto) : NoX (alloc o S) := fun _ _ h => by cases h
theorem getD_nx (o : Option D) (S : Sto) : NoX (getD' o S) := fun _ _ h => by unfold getD' at h; split at h <;> cases h
theorem binD_nx (o : BOp) (x y : D) (S : Sto) : NoX (binD o x y S) := fun _ _ h => by
  cases o <;> simp only [binD] at h <;> (split at h <;> first | (cases h; done) | (split at h <;> first | (cases h; done) | (split at h <;> first | (cases h; done) | (split at h <;> cases h))))
theorem augD_nx (o : BOp) (x y : D) (S : Sto) : NoX (augD o x y S) := by
  unfold augD; split
  · exact fun _ _ h => by cases h
  · exact fun _ _ h => by cases h
  · exact fun _ _ h => by cases h
  · split
    · exact binD_nx _ _ _ _
    · exact fun _ _ h => by cases h
  · exact binD_nx _ _ _ _
theorem ixD_nx (x i : D) (S : Sto) : NoX (ixD x i S) := fun _ _ h => by
  unfold ixD at h
  split at h
  · split at h
    · exact getD_nx _ _ _ _ h
    · cases h
  · split at h
    · split at h
      · exact getD_nx _ _ _ _ h
      · cases h
    · cases h
  · split at h
    · split at h
      · exact getD_nx _ _ _ _ h
      · cases h
    · split at h
      · split at h
        · exact getD_nx _ _ _ _ h
        · cases h
      · cases h
  · cases h
theorem slD_nx (x : D) (lo hi : Option Int) (S : Sto) : NoX (slD x lo hi S) := fun _ _ h => by
  unfold slD at h
  split at h
  · cases h
  · split at h <;> cases h
  · cases h
  · split at h <;> cases h
  · cases h
theorem sortedD_nx (xs : List D) (S : Sto) : NoX (sortedD xs S) := fun _ _ h => by
  unfold sortedD at h
  split at h
  · split at h
    · cases h
    · split at h <;> cases h
  · cases h
theorem biD_nx (f : BI) (xs : List D) (S : Sto) : NoX (biD f xs S) := fun _ _ h => by
  unfold biD at h
  split at h <;> first | cases h | (split at h <;> first | cases h | exact sortedD_nx _ _ _ _ h | (split at h <;> first | cases h | (split at h <;> first | cases h | (split at h <;> cases h))))
theorem meD_nx (m : ME) (o : D) (xs : List D) (S : Sto) : NoX (meD m o xs S) := fun _ _ h => by
  unfold meD at h
  split at h <;> first | (cases h; done) | (split at h <;> first | (cases h; done) | (split at h <;> first | (cases h; done) | (split at h <;> first | (cases h; done) | (split at h <;> first | (cases h; done) | (split at h <;> first | (cases h; done) | (split at h <;> cases h))))))

/-! ### relations -/
abbrev RV (K : Frag) : Hp → List Addr → D → V → Prop := fun H r => RepV K H r
abbrev RVs (K : Frag) : Hp → List Addr → List D → List V → Prop := fun H r => RepVs K H r
abbrev REq (α : Type) : Hp → List Addr → α → α → Prop := fun _ _ a b => a = b
/-- an iterator -/
def RepI (K : Frag) (T : Tx) (H : Hp) (r : List Addr) (v : ItV) (J : It) : Prop := ∀ (r' : List Addr) (H' : Hp) (S' : Sto) (i : Nat) (o : Option D), Xt r H r' H' → SI K T H' r' S' → turn v i S' = some o → match o with
  | none => J.stop i H'
  | some d => J.go i H' ∧ ∀ x H'', J.yld i H' x H'' → Xt r' H' r' H'' ∧ RepV K H'' r' d x ∧ SI K T H'' r' S'
abbrev RA (K : Frag) (T : Tx) (W : WX) (f : Ev.Env → Sto → Res (List D)) : TA := REG (RVs K) K T W f
abbrev RT (K : Frag) (T : Tx) (W : WX) (f : Ev.Env → Sto → Res Bool) : TT := REG (REq Bool) K T W f
abbrev RO (K : Frag) (T : Tx) (W : WX) (f : Ev.Env → Sto → Res (Option Int)) : TO := REG (REq (Option Int)) K T W f
abbrev RI (K : Frag) (T : Tx) (W : WX) (f : Ev.Env → Sto → Res ItV) : TI := REG (RepI K T) K T W f
/-- the truth of a value -/
def tru (f : Ev.Env → Sto → Res D) (env : Ev.Env) (S : Sto) : Res Bool := (f env S).bind fun d S' => match truth S' d with
  | some b => .ok b S'
  | none => .bad

section
variable {K : Frag} {T : Tx} {W : WX} {σ : L2.St} {H : Hp} {Q : VK} {fa fb fc : Ev.Env → Sto → Res D}
theorem RepE.at {r : List Addr} {H' : Hp} {r' : List Addr} {S : Sto} {env : Ev.Env} (h : RepE K H r env σ) (si : SI K T H r S) (e : Xt r H r' H') : RepE K H' r' env σ := h.ext e si.noTup
theorem RepV.at {r : List Addr} {H' : Hp} {r' : List Addr} {S : Sto} {d : D} {x : V} (h : RepV K H r d x) (si : SI K T H r S) (e : Xt r H r' H') : RepV K H' r' d x := RepV.ext e si.noTup _ _ h
theorem RepVs.at {r : List Addr} {H' : Hp} {r' : List Addr} {S : Sto} {d : List D} {x : List V} (h : RepVs K H r d x) (si : SI K T H r S) (e : Xt r H r' H') : RepVs K H' r' d x := RepVs.ext e si.noTup _ _ h
theorem re_var {i : Nat} {C : CallS} (h : RE K T W (evE C (.var i)) σ H Q) : tVar i σ H Q := by
  obtain ⟨r, env, S, he, si, g⟩ := h
  rw [evE] at g
  split at g
  · rename_i d e
    obtain ⟨x, h1, h2⟩ := he.get i d e
    exact ⟨x, h1, g r x H (Xt.refl _ _) h2 si⟩
  · exact False.elim g
theorem re_c {d : D} {v : V} (h : RE K T W (fun _ S => .ok d S) σ H Q) (hv : ∀ r, RepV K H r d v) : tC v σ H Q := by
  obtain ⟨r, env, S, he, si, g⟩ := h
  exact g r v H (Xt.refl _ _) (hv r) si
theorem re_op {g : D → D → Sto → Res D} (hg : ∀ x y S, NoX (g x y S)) (h : RE K T W (fun env S => (fa env S).bind fun x S1 => (fb env S1).bind fun y S2 => g x y S2) σ H Q) : tOp (rB K T g) (RE K T W fa) (RE K T W fb) σ H Q := by
  obtain ⟨r, env, S, he, si, h⟩ := h
  exact ⟨r, env, S, he, si, h.bind fun x S1 r1 v H1 _ e1 rv si1 h1 => ⟨r1, env, S1, he.at si e1, si1, h1.bind fun y S2 r2 w H2 _ e2 rw si2 h2 =>
    ⟨r2, S2, x, y, rv.at si1 e2, rw, si2, h2.noexc (hg _ _ _)⟩⟩⟩
theorem re_neg (h : RE K T W (fun env S => (fa env S).bind fun x S1 => match x with | .int i => .ok (.int (-i)) S1 | _ => .bad) σ H Q) : tUn (rU fun i => .int (-i)) (RE K T W fa) σ H Q := by
  obtain ⟨r, env, S, he, si, h⟩ := h
  refine ⟨r, env, S, he, si, h.bind fun x S1 r1 v H1 _ e1 rv si1 h1 => ?_⟩
  cases rv <;> try exact False.elim h1
  exact ⟨_, rfl, h1 r1 _ H1 (Xt.refl _ _) (.int _) si1⟩
theorem re_not (h : RE K T W (fun env S => (fa env S).bind fun x S1 => boolR ((truth S1 x).map (!·)) S1) σ H Q) : tNotT K (RE K T W fa) σ H Q := by
  obtain ⟨r, env, S, he, si, h⟩ := h
  refine ⟨r, env, S, he, si, h.bind fun x S1 r1 v H1 _ e1 rv si1 h1 => ?_⟩
  cases ht : truth S1 x with
  | none => rw [ht] at h1; exact False.elim h1
  | some b => rw [ht] at h1; exact ⟨b, truth_ok rv si1 ht, h1 r1 _ H1 (Xt.refl _ _) (.bl _) si1⟩
theorem re_and (h : RE K T W (fun env S => (fa env S).bind fun x S1 => match truth S1 x with | some true => fb env S1 | some false => .ok x S1 | none => .bad) σ H Q) : tAndT K (RE K T W fa) (RE K T W fb) σ H Q := by
  obtain ⟨r, env, S, he, si, h⟩ := h
  refine ⟨r, env, S, he, si, h.bind fun x S1 r1 v H1 _ e1 rv si1 h1 => ?_⟩
  cases ht : truth S1 x with
  | none => rw [ht] at h1; exact False.elim h1
  | some b =>
    refine ⟨b, truth_ok rv si1 ht, ?_⟩
    rw [ht] at h1
    cases b
    · exact h1 r1 _ H1 (Xt.refl _ _) rv si1
    · exact ⟨r1, env, S1, he.at si e1, si1, h1⟩
theorem re_or (h : RE K T W (fun env S => (fa env S).bind fun x S1 => match truth S1 x with | some false => fb env S1 | some true => .ok x S1 | none => .bad) σ H Q) : tOrT K (RE K T W fa) (RE K T W fb) σ H Q := by
  obtain ⟨r, env, S, he, si, h⟩ := h
  refine ⟨r, env, S, he, si, h.bind fun x S1 r1 v H1 _ e1 rv si1 h1 => ?_⟩
  cases ht : truth S1 x with
  | none => rw [ht] at h1; exact False.elim h1
  | some b =>
    refine ⟨b, truth_ok rv si1 ht, ?_⟩
    rw [ht] at h1
    cases b
    · exact ⟨r1, env, S1, he.at si e1, si1, h1⟩
    · exact h1 r1 _ H1 (Xt.refl _ _) rv si1
theorem re_cmp {o : COp} (h : RE K T W (fun env S => (fa env S).bind fun x S1 => (fb env S1).bind fun y S2 => boolR (cmpD o x y S2) S2) σ H Q) : tOp (rC K T o) (RE K T W fa) (RE K T W fb) σ H Q := by
  obtain ⟨r, env, S, he, si, h⟩ := h
  refine ⟨r, env, S, he, si, h.bind fun x S1 r1 v H1 _ e1 rv si1 h1 => ⟨r1, env, S1, he.at si e1, si1, h1.bind fun y S2 r2 w H2 _ e2 rw si2 h2 => ?_⟩⟩
  cases ht : cmpD o x y S2 with
  | none => rw [ht] at h2; exact False.elim h2
  | some b => rw [ht] at h2; exact ⟨r2, S2, x, y, b, rv.at si1 e2, rw, si2, ht, h2 r2 _ H2 (Xt.refl _ _) (.bl _) si2⟩
theorem re_cmp2 {o o' : COp} (h : RE K T W (fun env S => (fa env S).bind fun x S1 => (fb env S1).bind fun y S2 => match cmpD o x y S2 with
    | some true => (fc env S2).bind fun z S3 => boolR (cmpD o' y z S3) S3
    | some false => .ok (.bl false) S2
    | none => .bad) σ H Q) : tChain (rC K T o) (rC K T o') (RE K T W fa) (RE K T W fb) (RE K T W fc) σ H Q := by
  obtain ⟨r, env, S, he, si, h⟩ := h
  refine ⟨r, env, S, he, si, h.bind fun x S1 r1 v H1 _ e1 rv si1 h1 => ⟨r1, env, S1, he.at si e1, si1, h1.bind fun y S2 r2 w H2 _ e2 rw si2 h2 => ?_⟩⟩
  cases ht : cmpD o x y S2 with
  | none => rw [ht] at h2; exact False.elim h2
  | some b =>
    rw [ht] at h2
    refine ⟨r2, S2, x, y, b, rv.at si1 e2, rw, si2, ht, b, rfl, ?_⟩
    cases b
    · exact h2 r2 _ H2 (Xt.refl _ _) (.bl _) si2
    · refine ⟨r2, env, S2, (he.at si e1).at si1 e2, si2, h2.bind fun z S3 r3 u H3 _ e3 ru si3 h3 => ?_⟩
      cases ht' : cmpD o' y z S3 with
      | none => rw [ht'] at h3; exact False.elim h3
      | some b => rw [ht'] at h3; exact ⟨r3, S3, y, z, b, rw.at si2 e3, ru, si3, ht', h3 r3 _ H3 (Xt.refl _ _) (.bl _) si3⟩

/-! ### tests -/
variable {QB : Bool → Hp → Prop}
theorem rt_truth (h : RT K T W (tru fa) σ H QB) : RE K T W fa σ H fun x H' => ∃ k, TruV K x H' k ∧ QB k H' := by
  obtain ⟨r, env, S, he, si, h⟩ := h
  refine ⟨r, env, S, he, si, GoodG.bind h fun x S1 r1 v H1 _ e1 rv si1 h1 => ?_⟩
  cases ht : truth S1 x with
  | none => rw [ht] at h1; exact False.elim h1
  | some b => rw [ht] at h1; exact ⟨b, truth_ok rv si1 ht, h1 r1 b H1 (Xt.refl _ _) rfl si1⟩
/-- where the value is a bool -/
theorem rt_bool (hb : ∀ env S d S', fa env S = .ok d S' → ∃ b, d = .bl b) (h : RT K T W (tru fa) σ H QB) : RE K T W fa σ H fun x H' => ∃ k, x = .bl k ∧ QB k H' := by
  obtain ⟨r, env, S, he, si, h⟩ := h
  refine ⟨r, env, S, he, si, GoodG.bind h fun x S1 r1 v H1 e0 e1 rv si1 h1 => ?_⟩
  obtain ⟨b, rfl⟩ := hb _ _ _ _ e0
  cases rv
  exact ⟨b, rfl, h1 r1 b H1 (Xt.refl _ _) rfl si1⟩
theorem rt_not (h : RT K T W (tru fun env S => (fa env S).bind fun x S1 => boolR ((truth S1 x).map (!·)) S1) σ H QB) : tNot (RT K T W (tru fa)) σ H QB := by
  obtain ⟨r, env, S, he, si, h⟩ := h
  refine ⟨r, env, S, he, si, ?_⟩
  simp only [tru] at h ⊢
  cases hx : fa env S with
  | bad => rw [hx] at h; exact False.elim h
  | exc e S1 => rw [hx] at h; exact h
  | ok x S1 =>
    rw [hx] at h
    simp only [Res.bind] at h ⊢
    cases ht : truth S1 x with
    | none => rw [ht] at h; exact False.elim h
    | some b => rw [ht] at h; exact fun r' b' H' e eb si' => by cases eb; exact h r' _ H' e rfl si'
theorem rt_and (h : RT K T W (tru fun env S => (fa env S).bind fun x S1 => match truth S1 x with | some true => fb env S1 | some false => .ok x S1 | none => .bad) σ H QB) : tAnd (RT K T W (tru fa)) (RT K T W (tru fb)) σ H QB := by
  obtain ⟨r, env, S, he, si, h⟩ := h
  refine ⟨r, env, S, he, si, ?_⟩
  simp only [tru] at h ⊢
  cases hx : fa env S with
  | bad => rw [hx] at h; exact False.elim h
  | exc e S1 => rw [hx] at h; exact h
  | ok x S1 =>
    rw [hx] at h
    simp only [Res.bind] at h ⊢
    cases ht : truth S1 x with
    | none => rw [ht] at h; exact False.elim h
    | some b =>
      rw [ht] at h
      cases b
      · simp only [ht] at h
        exact fun r' b' H' e eb si' => by cases eb; exact h r' _ H' e rfl si'
      · exact fun r' b' H' e eb si' => by cases eb; exact ⟨r', env, S1, he.at si e, si', GoodG.shift e h⟩
theorem rt_or (h : RT K T W (tru fun env S => (fa env S).bind fun x S1 => match truth S1 x with | some false => fb env S1 | some true => .ok x S1 | none => .bad) σ H QB) : tOr (RT K T W (tru fa)) (RT K T W (tru fb)) σ H QB := by
  obtain ⟨r, env, S, he, si, h⟩ := h
  refine ⟨r, env, S, he, si, ?_⟩
  simp only [tru] at h ⊢
  cases hx : fa env S with
  | bad => rw [hx] at h; exact False.elim h
  | exc e S1 => rw [hx] at h; exact h
  | ok x S1 =>
    rw [hx] at h
    simp only [Res.bind] at h ⊢
    cases ht : truth S1 x with
    | none => rw [ht] at h; exact False.elim h
    | some b =>
      rw [ht] at h
      cases b
      · exact fun r' b' H' e eb si' => by cases eb; exact ⟨r', env, S1, he.at si e, si', GoodG.shift e h⟩
      · simp only [ht] at h
        exact fun r' b' H' e eb si' => by cases eb; exact h r' _ H' e rfl si'
theorem re_ife (h : RE K T W (fun env S => (fc env S).bind fun x S1 => match truth S1 x with | some true => fa env S1 | some false => fb env S1 | none => .bad) σ H Q) : tIf (RT K T W (tru fc)) (RE K T W fa) (RE K T W fb) σ H Q := by
  obtain ⟨r, env, S, he, si, h⟩ := h
  refine ⟨r, env, S, he, si, ?_⟩
  simp only [tru]
  dsimp only at h
  cases hx : fc env S with
  | bad => rw [hx] at h; exact False.elim h
  | exc e S1 => rw [hx] at h; exact h
  | ok x S1 =>
    rw [hx] at h
    simp only [Res.bind] at h ⊢
    cases ht : truth S1 x with
    | none => rw [ht] at h; exact False.elim h
    | some b =>
      rw [ht] at h
      cases b
      · exact fun r' b' H' e eb si' => by cases eb; exact ⟨r', env, S1, he.at si e, si', GoodG.shift e h⟩
      · exact fun r' b' H' e eb si' => by cases eb; exact ⟨r', env, S1, he.at si e, si', GoodG.shift e h⟩

/-! ### lists of expressions -/
variable {QA : List V → Hp → Prop} {fs : Ev.Env → Sto → Res (List D)}
theorem ra_nil (h : RA K T W (fun _ S => .ok [] S) σ H QA) : tNil σ H QA := by
  obtain ⟨r, env, S, he, si, g⟩ := h
  exact g r [] H (Xt.refl _ _) .nil si
theorem ra_cons (h : RA K T W (fun env S => (fa env S).bind fun x S1 => (fs env S1).bind fun xs S2 => .ok (x :: xs) S2) σ H QA) : tCons (RE K T W fa) (RA K T W fs) σ H QA := by
  obtain ⟨r, env, S, he, si, h⟩ := h
  exact ⟨r, env, S, he, si, h.bind fun x S1 r1 v H1 _ e1 rv si1 h1 => ⟨r1, env, S1, he.at si e1, si1, h1.bind fun xs S2 r2 w H2 _ e2 rw si2 h2 =>
    h2 r2 _ H2 (Xt.refl _ _) (.cons (rv.at si1 e2) rw) si2⟩⟩
theorem re_tup (h : RE K T W (fun env S => (fs env S).bind fun ds S1 => if ds.length ≤ big then .ok (.tup ds) S1 else .bad) σ H Q) : tTup (RA K T W fs) σ H Q := by
  obtain ⟨r, env, S, he, si, h⟩ := h
  refine ⟨r, env, S, he, si, h.bind fun ds S1 r1 xs H1 _ e1 rv si1 h1 => ?_⟩
  split at h1
  · rename_i hl
    exact ⟨by rw [← rv.length, ← big_eq]; exact hl, GoodN.tup (S := S1) h1 rv si1⟩
  · exact False.elim h1
theorem re_lst (h : RE K T W (fun env S => (fs env S).bind fun ds S1 => if ds.length ≤ big then alloc (.lst ds) S1 else .bad) σ H Q) : tLst (RA K T W fs) σ H Q := by
  obtain ⟨r, env, S, he, si, h⟩ := h
  refine ⟨r, env, S, he, si, h.bind fun ds S1 r1 xs H1 _ e1 rv si1 h1 => ?_⟩
  split at h1
  · rename_i hl
    exact ⟨by rw [← rv.length, ← big_eq]; exact hl, GoodN.lst (S := S1) h1 rv si1⟩
  · exact False.elim h1
theorem re_bi {f : List D → Sto → Res D} (hf : ∀ ds S, NoX (f ds S)) (h : RE K T W (fun env S => (fs env S).bind fun ds S1 => f ds S1) σ H Q) : tCB (rN K T f) (RA K T W fs) σ H Q := by
  obtain ⟨r, env, S, he, si, h⟩ := h
  exact ⟨r, env, S, he, si, h.bind fun ds S1 r1 xs H1 _ e1 rv si1 h1 => ⟨r1, S1, ds, rv, si1, h1.noexc (hf _ _)⟩⟩
/-- what a call of the text's own functions comes to -/
def spD (K : Frag) (T : Tx) (n : Nat) (f : List D → Sto → Res D) : Sp := fun vs H Q E => ∃ r S ds, RepVs K H r ds vs ∧ SI K T H r S ∧ ds.length = n ∧ GoodG (RV K) K T (fun cls dd _ H' => E cls dd H') r [] H (f ds S) Q
theorem re_call {n : Nat} {f : List D → Sto → Res D} (hn : ∀ ds S, f ds S ≠ .bad → ds.length = n) (h : RE K T W (fun env S => (fs env S).bind fun ds S1 => f ds S1) σ H Q) : tCallS (spD K T n f) (WE W) (RA K T W fs) σ H Q := by
  obtain ⟨r, env, S, he, si, h⟩ := h
  refine ⟨r, env, S, he, si, h.bind fun ds S1 r1 xs H1 _ e1 rv si1 h1 => ⟨r1, S1, ds, rv, si1, hn ds S1 ?_, ?_⟩⟩
  · intro z; rw [z] at h1; exact h1
  · cases hx : f ds S1 with
    | bad => rw [hx] at h1; exact h1
    | ok d S2 => rw [hx] at h1; exact h1
    | exc e S2 => rw [hx] at h1; exact h1

/-! ### methods -/
theorem re_append (h : RE K T W (fun env S => (fa env S).bind fun x S1 => if meOk .append x S1 then (fs env S1).bind fun ds S2 => meD .append x ds S2 else .bad) σ H Q) : tBM K "list" (rM K T (meD .append)) (RE K T W fa) (RA K T W fs) σ H Q := by
  obtain ⟨r, env, S, he, si, h⟩ := h
  refine ⟨r, env, S, he, si, h.bind fun x S1 r1 v H1 _ e1 rv si1 h1 => ?_⟩
  split at h1
  · rename_i ok
    refine ⟨?_, r1, env, S1, he.at si e1, si1, h1.bind fun ds S2 r2 ws H2 _ e2 rw si2 h2 => ⟨r2, S2, x, ds, rv.at si1 e2, rw, si2, h2.noexc (meD_nx _ _ _ _)⟩⟩
    cases rv with
    | ref q =>
      simp only [meOk, Option.isSome_iff_exists] at ok
      obtain ⟨ds, e⟩ := ok
      obtain ⟨xs, e2, _⟩ := si1.lst e q
      exact .inl ⟨rfl, xs, SqL.of e2⟩
    | str => cases ok
    | non => cases ok
    | bl => cases ok
    | int => cases ok
    | tup => cases ok
    | fl => cases ok
  · exact False.elim h1
abbrev rSIx (K : Frag) (T : Tx) : V → List V → Hp → VK → Prop := fun x xs H Q => (∃ s, x = .str s) ∧ rM K T (meD .index) x xs H Q
abbrev rLIx (K : Frag) (T : Tx) : V → List V → Hp → VK → Prop := fun x xs H Q => (∃ a, x = .ref a) ∧ rM K T (meD .index) x xs H Q
theorem re_index (h : RE K T W (fun env S => (fa env S).bind fun x S1 => if meOk .index x S1 then (fs env S1).bind fun ds S2 => meD .index x ds S2 else .bad) σ H Q) :
    tBM K "str" (rSIx K T) (RE K T W fa) (RA K T W fs) σ H Q ∨ tBM K "list" (rLIx K T) (RE K T W fa) (RA K T W fs) σ H Q := by
  obtain ⟨r, env, S, he, si, h⟩ := h
  dsimp only at h
  cases hx : fa env S with
  | bad => rw [hx] at h; exact False.elim h
  | exc e S1 =>
    refine .inl ⟨r, env, S, he, si, ?_⟩
    rw [hx] at h ⊢; exact h
  | ok x S1 =>
    cases hk : meOk .index x S1 with
    | false => rw [hx] at h; simp only [Res.bind, hk] at h; exact False.elim h
    | true =>
      have key : ∀ {r1 : List Addr} {v : V} {H1 : Hp}, Xt r H r1 H1 → RepV K H1 r1 x v → SI K T H1 r1 S1 → RA K T W fs σ H1 fun xs H2 => rM K T (meD .index) v xs H2 Q := fun e1 rv si1 => by
        rw [hx] at h
        simp only [Res.bind, hk, if_true] at h
        exact ⟨_, env, S1, he.at si e1, si1, GoodG.bind (GoodG.shift e1 h) fun ds S2 r2 ws H2 _ e2 rw si2 h2 => ⟨r2, S2, x, ds, rv.at si1 e2, rw, si2, h2.noexc (meD_nx _ _ _ _)⟩⟩
      have imp : ∀ {P P' : List V → Hp → Prop} {H1 : Hp}, (∀ xs H2, P xs H2 → P' xs H2) → RA K T W fs σ H1 P → RA K T W fs σ H1 P' := fun hp ⟨r, env, S, he, si, g⟩ => ⟨r, env, S, he, si, by
        cases q : fs env S with
        | bad => rw [q] at g; exact g
        | exc e S1 => rw [q] at g; exact g
        | ok d S1 => rw [q] at g; exact fun r' b H' a b' c => hp _ _ (g r' b H' a b' c)⟩
      cases x with
      | str s =>
        refine .inl ⟨r, env, S, he, si, ?_⟩
        rw [hx]
        intro r1 v H1 e1 rv si1
        have k := key e1 rv si1
        cases rv
        exact ⟨rfl, imp (fun xs H2 q => ⟨⟨_, rfl⟩, q⟩) k⟩
      | ref n =>
        refine .inr ⟨r, env, S, he, si, ?_⟩
        rw [hx]
        intro r1 v H1 e1 rv si1
        have k := key e1 rv si1
        cases rv with
        | ref q =>
          simp only [meOk, Option.isSome_iff_exists] at hk
          obtain ⟨ds, e⟩ := hk
          obtain ⟨xs, e2, _⟩ := si1.lst e q
          exact ⟨.inl ⟨rfl, xs, SqL.of e2⟩, imp (fun xs H2 q => ⟨⟨_, rfl⟩, q⟩) k⟩
      | non => cases hk
      | bl => cases hk
      | int => cases hk
      | tup => cases hk
      | fl => cases hk

/-! ### slices -/
theorem ro_none {QO : Option Int → Hp → Prop} (h : RO K T W (fun _ S => .ok none S) σ H QO) : tNoPart σ H QO := by
  obtain ⟨r, env, S, he, si, g⟩ := h
  exact g r none H (Xt.refl _ _) rfl si
theorem ro_some {QO : Option Int → Hp → Prop} (h : RO K T W (fun env S => (fa env S).bind fun x S1 => match x with
    | .int i => .ok (some i) S1
    | _ => .bad) σ H QO) : tPart (RE K T W fa) σ H QO := by
  obtain ⟨r, env, S, he, si, h⟩ := h
  refine ⟨r, env, S, he, si, h.bind fun x S1 r1 v H1 _ e1 rv si1 h1 => ?_⟩
  cases rv <;> try exact False.elim h1
  exact ⟨_, rfl, h1 r1 _ H1 (Xt.refl _ _) rfl si1⟩
theorem re_sl {fl fh : Ev.Env → Sto → Res (Option Int)} (h : RE K T W (fun env S => (fa env S).bind fun x S1 => (fl env S1).bind fun l S2 => (fh env S2).bind fun h S3 => slD x l h S3) σ H Q) :
    tSl (rS K T) (RE K T W fa) (RO K T W fl) (RO K T W fh) σ H Q := by
  obtain ⟨r, env, S, he, si, h⟩ := h
  exact ⟨r, env, S, he, si, h.bind fun x S1 r1 v H1 _ e1 rv si1 h1 => ⟨r1, env, S1, he.at si e1, si1, h1.bind fun l S2 r2 l' H2 _ e2 el si2 h2 =>
    ⟨r2, env, S2, (he.at si e1).at si1 e2, si2, h2.bind fun u S3 r3 u' H3 _ e3 eu si3 h3 => by
      cases el; cases eu
      exact ⟨r3, S3, x, (rv.at si1 e2).at si2 e3, si3, h3.noexc (slD_nx _ _ _ _)⟩⟩⟩⟩
end
end Ev
end
section
/-! Readings of dict displays, targets, iterators, comprehensions. -/
namespace Ev
open PySem L2 PyProof.Rows
open PySem.W (Frag)

section
variable {K : Frag} {T : Tx} {W : WX} {σ : L2.St} {H : Hp} {Q : VK} {fa fb fc : Ev.Env → Sto → Res D} {C : CallS}

/-! ### dict displays -/
abbrev RPs (K : Frag) : Hp → List Addr → List (D × D) → List (V × V) → Prop := fun H r kv ps => RepVs K H r (kv.map (·.1)) (ps.map (·.1)) ∧ RepVs K H r (kv.map (·.2)) (ps.map (·.2))
def trsOf (K : Frag) (T : Tx) (W : WX) (C : CallS) : IPs → List (TE × TE)
  | .nil => []
  | .cons k v ps => (RE K T W (evE C k), RE K T W (evE C v)) :: trsOf K T W C ps
theorem rp_pairs : ∀ (ps : IPs) {H : Hp} {QP : List (V × V) → Hp → Prop}, REG (RPs K) K T W (evPs C ps) σ H QP → tPairs (trsOf K T W C ps) σ H QP
  | .nil, H, QP, h => by
    obtain ⟨r, env, S, he, si, g⟩ := h
    rw [evPs] at g
    exact g r [] H (Xt.refl _ _) ⟨.nil, .nil⟩ si
  | .cons k v ps, H, QP, h => by
    obtain ⟨r, env, S, he, si, h⟩ := h
    rw [evPs] at h
    exact ⟨r, env, S, he, si, h.bind fun x S1 r1 u H1 _ e1 rv si1 h1 => ⟨r1, env, S1, he.at si e1, si1, h1.bind fun y S2 r2 w H2 _ e2 rw si2 h2 =>
      rp_pairs ps ⟨r2, env, S2, (he.at si e1).at si1 e2, si2, h2.bind fun kv S3 r3 qs H3 _ e3 rq si3 h3 =>
        h3 r3 _ H3 (Xt.refl _ _) ⟨.cons ((rv.at si1 e2).at si2 e3) rq.1, .cons (rw.at si2 e3) rq.2⟩ si3⟩⟩⟩
theorem repK_of {r : List Addr} : ∀ {kvs : List (D × D)} {ps : List (V × V)}, kvs.all (fun p => keyOk p.1) = true → RPs K H r kvs ps → ∃ qs : List (Key × V), ps = qs.map (fun kv => (kV kv.1, kv.2)) ∧ RepK K H r kvs qs
  | [], [], _, _ => ⟨[], rfl, .nil⟩
  | [], _ :: _, _, h => nomatch h.1
  | _ :: _, [], _, h => nomatch h.1
  | (k, v) :: kvs, (x, y) :: ps, ha, h => by
    simp only [List.all_cons, Bool.and_eq_true] at ha
    obtain ⟨h1, h2⟩ := h
    cases h1 with
    | cons a b =>
      cases h2 with
      | cons c d =>
        obtain ⟨qs, e, hk⟩ := repK_of ha.2 ⟨b, d⟩
        obtain ⟨q, hq⟩ := keyD_some ha.1
        obtain rfl : x = kV q := keyD_V hq a
        exact ⟨(q, y) :: qs, by rw [List.map_cons, ← e], .cons hq c hk⟩
theorem last_ix {r : List Addr} {S : Sto} (si : SI K T H r S) (p : Addr) : (r ++ [p])[S.length]? = some p := by rw [← si.len, List.getElem?_concat_length]
theorem re_dct {ps : IPs} (h : RE K T W (evE C (.dct ps)) σ H Q) : tDisp (trsOf K T W C ps) σ H Q := by
  obtain ⟨r, env, S, he, si, h⟩ := h
  rw [evE] at h
  intro p hp
  have sn : SI K T (upd H p (.dK [])) (r ++ [p]) (S ++ [.dct []]) := si.new hp ⟨[], upd_same, .nil⟩
  refine rp_pairs ps ⟨r ++ [p], env, S ++ [.dct []], he.at si (Xt.neu hp), sn, GoodG.bind (GoodG.shift (Xt.neu hp) h) fun kvs S1 r1 qs H1 _ e1 rq si1 h1 => ?_⟩
  split at h1
  · rename_i eS
    have hr : r1[S.length]? = some p := e1.get (last_ix si p)
    obtain ⟨ks, hk, hn⟩ := si1.dct eS hr
    cases hn
    split at h1
    · rename_i ok
      simp only [Bool.and_eq_true, decide_eq_true_eq] at ok
      obtain ⟨zs, ez, rz⟩ := repK_of ok.1 rq
      refine ⟨hk, zs, ez, by rw [← rz.len]; exact ok.2, ?_⟩
      have hm := List.mem_of_getElem? hr
      exact h1 r1 _ _ (Xt.put hm (si1.noTup _ hm)) (.ref hr) (si1.put hr ⟨_, upd_same, RepK.merge (rz.ext (Xt.put hm (si1.noTup _ hm)) si1.noTup) .nil⟩)
    · exact False.elim h1
  · exact False.elim h1
theorem re_dct0 (h : RE K T W (evE C (.dct .nil)) σ H Q) : tDNewK σ H Q := fun p hp => by
  obtain ⟨_, kvs, e, _, q⟩ := re_dct h p hp
  have e' : kvs = [] := by cases kvs with | nil => rfl | cons _ _ => cases e
  subst e'
  have e3 : upd (upd H p (.dK [])) p (.dK (mergeK [] [])) = upd H p (.dK []) := by
    funext b
    by_cases c : b = p
    · subst c; rw [upd_same, upd_same]; rfl
    · rw [upd_ne c]
  rw [e3] at q
  exact q

/-! ### targets -/
/-- nothing but the slots vs has changed -/
def Same (vs : List Nat) (σ σ' : L2.St) : Prop := σ'.length = σ.length ∧ ∀ j, j ∉ vs → σ'[j]? = σ[j]?
theorem Same.refl (vs : List Nat) (σ : L2.St) : Same vs σ σ := ⟨rfl, fun _ _ => rfl⟩
theorem Same.trans {vs ws : List Nat} {σ σ' σ'' : L2.St} (a : Same vs σ σ') (b : Same ws σ' σ'') : Same (vs ++ ws) σ σ'' := ⟨b.1.trans a.1, fun j hj => by
  rw [List.mem_append, not_or] at hj
  exact (b.2 j hj.2).trans (a.2 j hj.1)⟩
theorem Same.sub {vs ws : List Nat} {σ σ' : L2.St} (a : Same vs σ σ') (h : ∀ i ∈ vs, i ∈ ws) : Same ws σ σ' := ⟨a.1, fun j hj => a.2 j fun m => hj (h j m)⟩
def RG (K : Frag) (T : Tx) (C : CallS) (g : IG) : TG := fun v σ H Q => ∃ r env S d env2 S2, RepE K H r env σ ∧ SI K T H r S ∧ RepV K H r d v ∧ evG C g d env S = some (env2, S2) ∧
  ∀ r' σ' H', Xt r H r' H' → RepE K H' r' env2 σ' → SI K T H' r' S2 → Same (gslots g) σ σ' → Q σ' H'
def RGs (K : Frag) (T : Tx) (C : CallS) (gs : IGs) : TGs := fun vs σ H Q => ∃ r env S ds env2 S2, RepE K H r env σ ∧ SI K T H r S ∧ RepVs K H r ds vs ∧ evGs C gs ds env S = some (env2, S2) ∧
  ∀ r' σ' H', Xt r H r' H' → RepE K H' r' env2 σ' → SI K T H' r' S2 → Same (gslots.gslotss gs) σ σ' → Q σ' H'
variable {v : V} {QG : L2.St → Hp → Prop}
theorem RepE.set {r : List Addr} {env : Ev.Env} (h : RepE K H r env σ) (i : Nat) {d : D} {x : V} (hx : RepV K H r d x) : RepE K H r (env.set i (some d)) (σ.set i (some x)) := by
  refine ⟨by simp [h.len], fun j e g => ?_⟩
  by_cases hj : i = j
  · subst hj
    rw [List.getElem?_set] at g ⊢
    simp only [if_true] at g ⊢
    split at g
    · rename_i hl
      rw [if_pos (by rw [← h.len]; exact hl)]
      cases g; exact ⟨x, rfl, hx⟩
    · cases g
  · rw [List.getElem?_set_ne hj] at g ⊢
    exact h.get j e g
theorem rg_var {i : Nat} (h : RG K T C (.var i) v σ H QG) : gName i v σ H QG := by
  obtain ⟨r, env, S, d, env2, S2, he, si, rv, e, q⟩ := h
  rw [evG] at e
  cases e
  exact q r _ H (Xt.refl _ _) (he.set i rv) si ⟨by simp, fun j hj => by
    have : i ≠ j := fun z => hj (by simp [gslots, z])
    rw [List.getElem?_set_ne this]⟩
theorem rgs_nil {vs : List V} (h : RGs K T C .nil vs σ H QG) : gNil vs σ H QG := by
  obtain ⟨r, env, S, d, env2, S2, he, si, rv, e, q⟩ := h
  cases rv with
  | nil => rw [evGs] at e; cases e; exact ⟨rfl, q r _ H (Xt.refl _ _) he si (Same.refl _ _)⟩
  | cons a b => simp [evGs] at e
theorem rgs_cons {vs : List V} {g : IG} {gs : IGs} (h : RGs K T C (.cons g gs) vs σ H QG) : gCons (RG K T C g) (RGs K T C gs) vs σ H QG := by
  obtain ⟨r, env, S, d, env2, S2, he, si, rv, e, q⟩ := h
  cases rv with
  | nil => simp [evGs] at e
  | cons a b =>
    rw [evGs] at e
    split at e
    · rename_i env1 S1 e1
      refine ⟨_, _, rfl, r, env, S, _, env1, S1, he, si, a, e1, fun r1 σ1 H1 x1 he1 si1 sm1 => ⟨r1, env1, S1, _, env2, S2, he1, si1, b.at si x1, e, fun r2 σ2 H2 x2 he2 si2 sm2 => ?_⟩⟩
      exact q r2 σ2 H2 (x1.trans x2) he2 si2 (sm1.trans sm2)
    · cases e
def glen : IGs → Nat
  | .nil => 0
  | .cons _ gs => glen gs + 1
theorem evGs_len : ∀ {gs : IGs} {ds : List D} {env : Ev.Env} {S : Sto} {p : Ev.Env × Sto}, evGs C gs ds env S = some p → ds.length = glen gs
  | .nil, [], _, _, _, _ => rfl
  | .nil, _ :: _, _, _, _, h => by simp [evGs] at h
  | .cons _ _, [], _, _, _, h => by simp [evGs] at h
  | .cons g gs, d :: ds, env, S, p, h => by
    rw [evGs] at h
    split at h
    · rw [List.length_cons, evGs_len h]; rfl
    · cases h
theorem rg_tup {gs : IGs} (h : RG K T C (.tup gs) v σ H QG) : gTup K (glen gs) (RGs K T C gs) v σ H QG := by
  obtain ⟨r, env, S, d, env2, S2, he, si, rv, e, q⟩ := h
  cases rv <;> simp only [evG] at e <;> try (cases e)
  rename_i ds a xs hq hs
  exact ⟨_, _, rfl, hq, by rw [← hs.length]; exact evGs_len e, r, env, S, _, env2, S2, he, si, hs, e, q⟩
theorem rg_sub {o i : IE} (h : RG K T C (.sub o i) v σ H QG) : gSub (RE K T W (evE C o)) (RE K T W (evE C i)) (rP K T) v σ H QG := by
  obtain ⟨r, env, S, d, env2, S2, he, si, rv, e, q⟩ := h
  rw [evG] at e
  split at e
  · rename_i x S1 e1
    split at e
    · rename_i y S3 e2
      cases hs : setD x y d S3 with
      | none => rw [hs] at e; cases e
      | some S4 =>
        rw [hs] at e
        cases e
        refine ⟨r, env, S, he, si, ?_⟩
        rw [e1]
        intro r1 xv H1 x1 rx si1
        refine ⟨r1, env, S1, he.at si x1, si1, ?_⟩
        rw [e2]
        intro r2 yv H2 x2 ry si2
        exact ⟨r2, S3, x, y, d, _, rx.at si1 x2, ry, (rv.at si x1).at si1 x2, si2, hs, fun H3 x3 si3 => q r2 σ H3 ((x1.trans x2).trans x3) (((he.at si x1).at si1 x2).at si2 x3) si3 (Same.refl _ _)⟩
    · cases e
  · cases e

/-! ### iterators -/
variable {R : It → Hp → Prop}
theorem repI_tup {r : List Addr} {S : Sto} {a : Addr} {ds : List D} {xs : List V} (si : SI K T H r S) (hq : SqT K H a xs) (hx : RepVs K H r ds xs) : RepI K T H r (.tup ds) (Itt K a) := by
  intro r' H' S' i o e si' ht
  simp only [turn, Option.some.injEq] at ht
  subst ht
  have hq' := e.sqT si.noTup hq
  have hx' := hx.at si e
  cases h : ds[i]? with
  | none => exact ⟨xs, hq', by rw [← hx'.length]; exact List.getElem?_eq_none_iff.mp h⟩
  | some d =>
    obtain ⟨x, h1, h2⟩ := hx'.get h
    exact ⟨⟨xs, x, hq', h1⟩, fun y H2 ⟨eH, hy⟩ => by
      subst eH
      have := hy xs hq'
      rw [h1] at this; cases this
      exact ⟨Xt.refl _ _, h2, si'⟩⟩
theorem repI_lst {r : List Addr} {a : Addr} {n : Nat} (hn : r[n]? = some a) : RepI K T H r (.lst n) (Itl K a) := by
  intro r' H' S' i o e si' ht
  simp only [turn] at ht
  cases hi : items S' n with
  | none => rw [hi] at ht; cases ht
  | some ds =>
    rw [hi] at ht
    simp only [Option.map_some, Option.some.injEq] at ht
    subst ht
    obtain ⟨xs, e1, hx'⟩ := si'.lst hi (e.get hn)
    have hq' : SqL K H' a xs := SqL.of e1
    cases h : ds[i]? with
    | none => exact ⟨xs, hq', by rw [← hx'.length]; exact List.getElem?_eq_none_iff.mp h⟩
    | some d =>
      obtain ⟨x, h1, h2⟩ := hx'.get h
      exact ⟨⟨xs, x, hq', h1⟩, fun y H2 ⟨eH, hy⟩ => by
        subst eH
        have := hy xs hq'
        rw [h1] at this; cases this
        exact ⟨Xt.refl _ _, h2, si'⟩⟩
theorem repI_str {r : List Addr} {s : List Nat} : RepI K T H r (.str s) (Its (sv s)) := by
  intro r' H' S' i o e si' ht
  simp only [turn, Option.some.injEq] at ht
  subst ht
  have hc : (sv s).cps[i]? = s[i]? := by simp [sv]
  cases h : s[i]? with
  | none =>
    have := List.getElem?_eq_none_iff.mp h
    show (sv s).cps.size ≤ i
    simpa [sv] using this
  | some c =>
    have hl := (List.getElem?_eq_some_iff.mp h).1
    refine ⟨show i < (sv s).cps.size by simpa [sv] using hl, fun y H2 ⟨eH, c', hy, ey⟩ => ?_⟩
    subst eH
    rw [hc, h] at hy
    cases hy
    subst ey
    exact ⟨Xt.refl _ _, .str [c], si'⟩
theorem repI_rng {r : List Addr} {lo : Int} {n : Nat} : RepI K T H r (.rng lo 1 n) (Itr lo n) := by
  intro r' H' S' i o e si' ht
  simp only [turn, Option.some.injEq] at ht
  subst ht
  split
  · rename_i h
    split at h
    · cases h
    · rename_i h'; show n ≤ i; omega
  · rename_i d h
    split at h
    · rename_i h'
      cases h
      refine ⟨h', fun y H2 ⟨eH, ey⟩ => ?_⟩
      subst eH; subst ey
      rw [Int.mul_one]
      exact ⟨Xt.refl _ _, .int _, si'⟩
    · cases h
theorem repI_rngC {r : List Addr} {lo c : Int} {n : Nat} : RepI K T H r (.rng lo c n) (Itc lo c n) := by
  intro r' H' S' i o e si' ht
  simp only [turn, Option.some.injEq] at ht
  subst ht
  split
  · rename_i h
    split at h
    · cases h
    · rename_i h'; show n ≤ i; omega
  · rename_i d h
    split at h
    · rename_i h'
      cases h
      refine ⟨h', fun y H2 ⟨eH, ey⟩ => ?_⟩
      subst eH; subst ey
      exact ⟨Xt.refl _ _, .int _, si'⟩
    · cases h
theorem repV_pair {r : List Addr} {p : Addr} {S : Sto} {d1 d2 : D} {x1 x2 : V} (si : SI K T H r S) (hp : H p = none) (h1 : RepV K H r d1 x1) (h2 : RepV K H r d2 x2) : RepV K (upd H p (.tup [x1, x2])) r (.tup [d1, d2]) (.ref p) :=
  .tup (.inl (.inl upd_same)) (.cons (h1.at si (Xt.upd hp)) (.cons (h2.at si (Xt.upd hp)) .nil))
theorem repI_enumT {r : List Addr} {S : Sto} {a : Addr} {ds : List D} {xs : List V} (si : SI K T H r S) (hq : SqT K H a xs) (hx : RepVs K H r ds xs) : RepI K T H r (.enumT ds) (Itet K a) := by
  intro r' H' S' i o e si' ht
  simp only [turn, Option.some.injEq] at ht
  subst ht
  have hq' := e.sqT si.noTup hq
  have hx' := hx.at si e
  cases h : ds[i]? with
  | none => exact ⟨xs, hq', by rw [← hx'.length]; exact List.getElem?_eq_none_iff.mp h⟩
  | some d =>
    obtain ⟨x, h1, h2⟩ := hx'.get h
    refine ⟨⟨xs, x, hq', h1⟩, fun y H2 ⟨p, x2, ey, hp, eH, hy⟩ => ?_⟩
    have := hy xs hq'
    rw [h1] at this; cases this
    subst eH; subst ey
    exact ⟨Xt.upd hp, repV_pair si' hp (.int _) h2, si'.tup hp⟩
theorem repI_enumL {r : List Addr} {a : Addr} {n : Nat} (hn : r[n]? = some a) : RepI K T H r (.enumL n) (Ite K a) := by
  intro r' H' S' i o e si' ht
  simp only [turn] at ht
  cases hi : items S' n with
  | none => rw [hi] at ht; cases ht
  | some ds =>
    rw [hi] at ht
    simp only [Option.map_some, Option.some.injEq] at ht
    subst ht
    obtain ⟨xs, e1, hx'⟩ := si'.lst hi (e.get hn)
    have hq' : SqL K H' a xs := SqL.of e1
    cases h : ds[i]? with
    | none => exact ⟨xs, hq', by rw [← hx'.length]; exact List.getElem?_eq_none_iff.mp h⟩
    | some d =>
      obtain ⟨x, h1, h2⟩ := hx'.get h
      refine ⟨⟨xs, x, hq', h1⟩, fun y H2 ⟨p, x2, ey, hp, eH, hy⟩ => ?_⟩
      have := hy xs hq'
      rw [h1] at this; cases this
      subst eH; subst ey
      exact ⟨Xt.upd hp, repV_pair si' hp (.int _) h2, si'.tup hp⟩
theorem zip_turn {ds es : List D} {i : Nat} {o : Option D} (h : (match ds[i]?, es[i]? with | some x, some y => some (D.tup [x, y]) | _, _ => none) = o) :
    (o = none ∧ (ds.length ≤ i ∨ es.length ≤ i)) ∨ ∃ x y, ds[i]? = some x ∧ es[i]? = some y ∧ o = some (.tup [x, y]) := by
  cases h1 : ds[i]? with
  | none => rw [h1] at h; subst h; exact .inl ⟨rfl, .inl (List.getElem?_eq_none_iff.mp h1)⟩
  | some x =>
    cases h2 : es[i]? with
    | none => rw [h1, h2] at h; subst h; exact .inl ⟨rfl, .inr (List.getElem?_eq_none_iff.mp h2)⟩
    | some y => rw [h1, h2] at h; subst h; exact .inr ⟨x, y, rfl, rfl, rfl⟩
theorem repI_zipT {r : List Addr} {S : Sto} {a b : Addr} {ds es : List D} {xs ys : List V} (si : SI K T H r S) (hq : SqT K H a xs) (hx : RepVs K H r ds xs) (hp : SqT K H b ys) (hy : RepVs K H r es ys) : RepI K T H r (.zipT ds es) (RZ.ItzT K a b) := by
  intro r' H' S' i o e si' ht
  simp only [turn, Option.some.injEq] at ht
  have hq' := e.sqT si.noTup hq
  have hx' := hx.at si e
  have hp' := e.sqT si.noTup hp
  have hy' := hy.at si e
  rcases zip_turn ht with ⟨rfl, hl⟩ | ⟨x, y, h1, h2, rfl⟩
  · exact ⟨xs, ys, hq', hp', by rw [← hx'.length, ← hy'.length]; exact hl⟩
  · obtain ⟨xv, h3, h4⟩ := hx'.get h1
    obtain ⟨yv, h5, h6⟩ := hy'.get h2
    refine ⟨⟨xs, ys, xv, yv, hq', hp', h3, h5⟩, fun z H2 ⟨p, x2, y2, ez, hp0, eH, hxx, hyy⟩ => ?_⟩
    have := hxx xs hq'
    rw [h3] at this; cases this
    have := hyy ys hp'
    rw [h5] at this; cases this
    subst eH; subst ez
    exact ⟨Xt.upd hp0, repV_pair si' hp0 h4 h6, si'.tup hp0⟩
theorem repI_zipL {r : List Addr} {a b : Addr} {n m : Nat} (hn : r[n]? = some a) (hm : r[m]? = some b) : RepI K T H r (.zipL n m) (Itz K a b) := by
  intro r' H' S' i o e si' ht
  simp only [turn] at ht
  cases hi : items S' n with
  | none => rw [hi] at ht; cases ht
  | some ds =>
    cases hj : items S' m with
    | none => rw [hi, hj] at ht; cases ht
    | some es =>
      rw [hi, hj] at ht
      obtain ⟨xs, e1, hx'⟩ := si'.lst hi (e.get hn)
      obtain ⟨ys, e2, hy'⟩ := si'.lst hj (e.get hm)
      have hq' : SqL K H' a xs := SqL.of e1
      have hp' : SqL K H' b ys := SqL.of e2
      rcases zip_turn (Option.some.inj ht) with ⟨rfl, hl⟩ | ⟨x, y, h1, h2, rfl⟩
      · exact ⟨xs, ys, hq', hp', by rw [← hx'.length, ← hy'.length]; exact hl⟩
      · obtain ⟨xv, h3, h4⟩ := hx'.get h1
        obtain ⟨yv, h5, h6⟩ := hy'.get h2
        refine ⟨⟨xs, ys, xv, yv, hq', hp', h3, h5⟩, fun z H2 ⟨p, x2, y2, ez, hp0, eH, hxx, hyy⟩ => ?_⟩
        have := hxx xs hq'
        rw [h3] at this; cases this
        have := hyy ys hp'
        rw [h5] at this; cases this
        subst eH; subst ez
        exact ⟨Xt.upd hp0, repV_pair si' hp0 h4 h6, si'.tup hp0⟩
theorem ri_val {e : IE} (h : RI K T W (evI C (.val e)) σ H R) : iList K (RE K T W (evE C e)) σ H R ∨ iTup K (RE K T W (evE C e)) σ H R ∨ iStr (RE K T W (evE C e)) σ H R := by
  obtain ⟨r, env, S, he, si, h⟩ := h
  rw [evI] at h
  cases hx : evE C e env S with
  | bad => rw [hx] at h; exact False.elim h
  | exc ex S1 =>
    refine .inl ⟨r, env, S, he, si, ?_⟩
    rw [hx] at h ⊢; exact h
  | ok x S1 =>
    rw [hx] at h
    simp only [Res.bind] at h
    cases x with
    | tup ds =>
      refine .inr (.inl ⟨r, env, S, he, si, ?_⟩)
      rw [hx]
      intro r1 v H1 e1 rv si1
      cases rv with
      | tup hq hs => exact ⟨_, rfl, ⟨_, hq⟩, h r1 _ H1 e1 (repI_tup si1 hq hs) si1⟩
    | str s =>
      refine .inr (.inr ⟨r, env, S, he, si, ?_⟩)
      rw [hx]
      intro r1 v H1 e1 rv si1
      cases rv
      exact ⟨_, rfl, h r1 _ H1 e1 repI_str si1⟩
    | ref n =>
      refine .inl ⟨r, env, S, he, si, ?_⟩
      rw [hx]
      intro r1 v H1 e1 rv si1
      cases rv with
      | ref q =>
        simp only at h
        split at h
        · rename_i ys ei
          obtain ⟨zs, e2, hz⟩ := si1.lst ei q
          exact ⟨_, rfl, ⟨_, SqL.of e2⟩, h r1 _ H1 e1 (repI_lst q) si1⟩
        · exact False.elim h
    | non => exact False.elim h
    | bl => exact False.elim h
    | int => exact False.elim h
    | fl => exact False.elim h
theorem word_ok {i : Int} (h : word i = true) : -(2 ^ 62) ≤ i ∧ i < 2 ^ 62 := by
  unfold word at h
  simpa using h
abbrev ta1 (K : Frag) (T : Tx) (W : WX) (C : CallS) (a : IE) : TA := tCons (RE K T W (evE C a)) tNil
abbrev ta2 (K : Frag) (T : Tx) (W : WX) (C : CallS) (a b : IE) : TA := tCons (RE K T W (evE C a)) (ta1 K T W C b)
abbrev ta3 (K : Frag) (T : Tx) (W : WX) (C : CallS) (a b c : IE) : TA := tCons (RE K T W (evE C a)) (ta2 K T W C b c)
theorem ri_rng1 {a : IE} (h : RI K T W (evI C (.rng1 a)) σ H R) : iRng1 (ta1 K T W C a) σ H R := by
  obtain ⟨r, env, S, he, si, h⟩ := h
  rw [evI] at h
  refine ⟨r, env, S, he, si, h.bind fun x S1 r1 v H1 _ e1 rv si1 h1 => ?_⟩
  cases rv <;> try exact False.elim h1
  simp only at h1
  split at h1
  · rename_i hw
    exact ⟨_, rfl, (word_ok hw).1, (word_ok hw).2, h1 r1 _ H1 (Xt.refl _ _) repI_rng si1⟩
  · exact False.elim h1
theorem ri_rng2 {a b : IE} (h : RI K T W (evI C (.rng2 a b)) σ H R) : iRng2 (ta2 K T W C a b) σ H R := by
  obtain ⟨r, env, S, he, si, h⟩ := h
  rw [evI] at h
  refine ⟨r, env, S, he, si, h.bind fun x S1 r1 v H1 _ e1 rv si1 h1 => ⟨r1, env, S1, he.at si e1, si1, h1.bind fun y S2 r2 w H2 _ e2 rw si2 h2 => ?_⟩⟩
  cases rv <;> cases rw <;> try exact False.elim h2
  simp only at h2
  split at h2
  · rename_i hw
    simp only [Bool.and_eq_true] at hw
    exact ⟨_, _, rfl, ⟨(word_ok hw.1).1, (word_ok hw.1).2, (word_ok hw.2).1, (word_ok hw.2).2⟩, h2 r2 _ H2 (Xt.refl _ _) repI_rng si2⟩
  · exact False.elim h2
theorem ri_rng3 {a b c : IE} (h : RI K T W (evI C (.rng3 a b c)) σ H R) : iRng3 (ta3 K T W C a b c) σ H R := by
  obtain ⟨r, env, S, he, si, h⟩ := h
  rw [evI] at h
  refine ⟨r, env, S, he, si, h.bind fun x S1 r1 v H1 _ e1 rv si1 h1 => ⟨r1, env, S1, he.at si e1, si1, h1.bind fun y S2 r2 w H2 _ e2 rw si2 h2 => ⟨r2, env, S2, (he.at si e1).at si1 e2, si2, h2.bind fun z S3 r3 u H3 _ e3 ru si3 h3 => ?_⟩⟩⟩
  cases rv <;> cases rw <;> cases ru <;> try exact False.elim h3
  simp only at h3
  split at h3
  · rename_i hw
    simp only [Bool.and_eq_true, decide_eq_true_eq] at hw
    obtain ⟨⟨h1, h2⟩, rfl⟩ := hw
    exact ⟨_, _, _, _, rfl, RgC.neg (word_ok h1).1 (word_ok h1).2 (word_ok h2).1 (word_ok h2).2, h3 r3 _ H3 (Xt.refl _ _) repI_rngC si3⟩
  · exact False.elim h3
theorem ri_enum {e : IE} (h : RI K T W (evI C (.enum e)) σ H R) : iEnum K (ta1 K T W C e) σ H R ∨ iEnumT K (ta1 K T W C e) σ H R := by
  obtain ⟨r, env, S, he, si, h⟩ := h
  rw [evI] at h
  cases hx : evE C e env S with
  | bad => rw [hx] at h; exact False.elim h
  | exc ex S1 =>
    refine .inl ⟨r, env, S, he, si, ?_⟩
    rw [hx] at h ⊢; exact h
  | ok x S1 =>
    rw [hx] at h
    simp only [Res.bind] at h
    cases x with
    | tup ds =>
      refine .inr ⟨r, env, S, he, si, ?_⟩
      rw [hx]
      intro r1 v H1 e1 rv si1
      cases rv with
      | tup hq hs => exact ⟨_, _, rfl, hq, h r1 _ H1 e1 (repI_enumT si1 hq hs) si1⟩
    | ref n =>
      refine .inl ⟨r, env, S, he, si, ?_⟩
      rw [hx]
      intro r1 v H1 e1 rv si1
      cases rv with
      | ref q =>
        simp only at h
        split at h
        · rename_i ys ei
          obtain ⟨zs, e2, hz⟩ := si1.lst ei q
          exact ⟨_, _, rfl, SqL.of e2, h r1 _ H1 e1 (repI_enumL q) si1⟩
        · exact False.elim h
    | non => exact False.elim h
    | bl => exact False.elim h
    | int => exact False.elim h
    | str => exact False.elim h
    | fl => exact False.elim h
theorem ri_zip {a b : IE} (h : RI K T W (evI C (.zip a b)) σ H R) : RZ.iZipA K (ta2 K T W C a b) σ H R := by
  obtain ⟨r, env, S, he, si, h⟩ := h
  rw [evI] at h
  refine ⟨r, env, S, he, si, h.bind fun x S1 r1 v H1 _ e1 rv si1 h1 => ⟨r1, env, S1, he.at si e1, si1, h1.bind fun y S2 r2 w H2 _ e2 rw si2 h2 => ?_⟩⟩
  have rv' := rv.at si1 e2
  split at h2
  · rename_i ds es
    cases rv' with
    | tup hq hs =>
      cases rw with
      | tup hp ht => exact ⟨_, _, _, _, rfl, .inr ⟨hq, hp, h2 r2 _ H2 (Xt.refl _ _) (repI_zipT si2 hq hs hp ht) si2⟩⟩
  · rename_i n m
    split at h2
    · rename_i xs ys ei ej
      cases rv' with
      | ref q =>
        cases rw with
        | ref q' =>
          obtain ⟨zs, e3, hz⟩ := si2.lst ei q
          obtain ⟨us, e4, hu⟩ := si2.lst ej q'
          exact ⟨_, _, _, _, rfl, .inl ⟨SqL.of e3, SqL.of e4, h2 r2 _ H2 (Xt.refl _ _) (repI_zipL q q') si2⟩⟩
    · exact False.elim h2
  · exact False.elim h2
end
end Ev
end
section
/-! Readings of comprehensions. -/
namespace Ev
open PySem L2 PyProof.Rows
open PySem.W (Frag)

section
variable {K : Frag} {T : Tx} {W : WX} {σ : L2.St} {H : Hp} {Q : VK} {C : CallS}

theorem wipe_get : ∀ (vs : List Nat) (env : Ev.Env) (i : Nat) (d : D), (Ev.wipe env vs)[i]? = some (some d) → i ∉ vs ∧ env[i]? = some (some d)
  | [], _, _, _, h => ⟨by simp, h⟩
  | v :: vs, env, i, d, h => by
    unfold Ev.wipe at h
    by_cases e : v = i
    · subst e
      rw [List.getElem?_set] at h
      simp only [if_true] at h
      split at h <;> cases h
    · rw [List.getElem?_set_ne e] at h
      obtain ⟨h1, h2⟩ := wipe_get vs env i d h
      exact ⟨by simp only [List.mem_cons, not_or]; exact ⟨fun z => e z.symm, h1⟩, h2⟩
theorem wipe_len : ∀ (vs : List Nat) (env : Ev.Env), (Ev.wipe env vs).length = env.length
  | [], _ => rfl
  | v :: vs, env => by unfold Ev.wipe; rw [List.length_set, wipe_len vs env]
theorem wipeS_len : ∀ (vs : List Nat) (σ : L2.St), (L2.wipe σ vs).length = σ.length
  | [], _ => rfl
  | v :: vs, env => by unfold L2.wipe; rw [List.length_set, wipeS_len vs env]
theorem wipeS_get : ∀ (vs : List Nat) (σ : L2.St) (i : Nat), (L2.wipe σ vs)[i]? = if i ∈ vs then (if i < σ.length then some none else none) else σ[i]?
  | [], _, _ => by simp [L2.wipe]
  | v :: vs, σ, i => by
    unfold L2.wipe
    rw [List.getElem?_set, wipeS_len, wipeS_get vs σ i]
    by_cases e : v = i
    · subst e; simp
    · have e' : i ≠ v := fun z => e z.symm
      simp [e, e']
theorem RepE.wipe {r : List Addr} {env : Ev.Env} (h : RepE K H r env σ) (vs : List Nat) : RepE K H r (Ev.wipe env vs) (L2.wipe σ vs) := by
  refine ⟨by rw [wipe_len, wipeS_len, h.len], fun i d g => ?_⟩
  obtain ⟨h1, h2⟩ := wipe_get vs env i d g
  rw [wipeS_get, if_neg h1]
  exact h.get i d h2
theorem Same.wipe {vs ws : List Nat} {σ σ' : L2.St} (h : Same ws σ σ') (hs : ∀ i ∈ ws, i ∈ vs) : L2.wipe σ' vs = L2.wipe σ vs := by
  refine List.ext_getElem? fun i => ?_
  rw [wipeS_get, wipeS_get, h.1]
  split
  · rfl
  · rename_i hi
    exact h.2 i fun m => hi (hs i m)
theorem wipe_wipe (vs : List Nat) (σ : L2.St) : L2.wipe (L2.wipe σ vs) vs = L2.wipe σ vs := by
  refine List.ext_getElem? fun i => ?_
  rw [wipeS_get, wipeS_get, wipeS_len]
  split <;> rfl

/-! ### a loop of a comprehension -/
def tres : TRes → Res Bool
  | .ok b S => .ok b S
  | .bad => .bad
abbrev RTs (K : Frag) (T : Tx) (C : CallS) (ifs : IEs) : TT := REG (REq Bool) K T (fun _ _ _ _ => False) fun env S => tres (evT C ifs env S)
/-- an expression within a block: no exception -/
abbrev RB (K : Frag) (T : Tx) (C : CallS) (e : IE) : TE := RE K T (fun _ _ _ _ => False) (evE C e)
def loopR (J : It) (g : TG) (tt : TT) (body : L2.St → Hp → (Hp → Prop) → Prop) (vs : List Nat) (σ : L2.St) (Qe : Hp → Prop) (H0 : Hp) : Prop := ∃ W : Nat → Nat → Hp → Prop, (∃ m, W 0 m H0) ∧ ∀ i m H, W i m H →
  (J.stop i H ∧ Qe H) ∨ (J.go i H ∧ ∃ Nx : Hp → Prop, (∀ H', Nx H' → ∃ m', m' < m ∧ W (i + 1) m' H') ∧ ∀ x H', J.yld i H x H' → g x (L2.wipe σ vs) H' fun σ2 H2 => L2.wipe σ2 vs = L2.wipe σ vs ∧ tt σ2 H2 fun b H3 =>
    if b = true then body σ2 H3 Nx else Nx H3)
theorem loop_ok {v : ItV} {J : It} {ig : IG} {ifs : IEs} {B : Ev.Env → Sto → Option Sto} {body : L2.St → Hp → (Hp → Prop) → Prop} {vs : List Nat} {env : Ev.Env} {r1 r2 : List Addr} {H1 H2 : Hp} {S2 Sf : Sto} {Qe : Hp → Prop}
    (hI : RepI K T H1 r1 v J) (he : RepE K H2 r2 env σ) (e12 : Xt r1 H1 r2 H2) (si : SI K T H2 r2 S2) (hg : ∀ i ∈ gslots ig, i ∈ vs)
    (hc : compL v (fun d S' => evG C ig d (Ev.wipe env vs) S') (fun env1 S' => evT C ifs env1 S') B fuel 0 S2 = some Sf)
    (hB : ∀ r' H' σ2 env1 S' S3 Nx, Xt r2 H2 r' H' → RepE K H' r' env1 σ2 → SI K T H' r' S' → B env1 S' = some S3 → (∀ r'' H'', Xt r' H' r'' H'' → SI K T H'' r'' S3 → Nx H'') → body σ2 H' Nx)
    (hQ : ∀ r' H', Xt r2 H2 r' H' → SI K T H' r' Sf → Qe H') : loopR J (RG K T C ig) (RTs K T C ifs) body vs σ Qe H2 := by
  refine ⟨fun i m H => ∃ r' S', Xt r2 H2 r' H ∧ SI K T H r' S' ∧ compL v (fun d S' => evG C ig d (Ev.wipe env vs) S') (fun env1 S' => evT C ifs env1 S') B m i S' = some Sf, ⟨fuel, r2, S2, Xt.refl _ _, si, hc⟩, ?_⟩
  intro i m H ⟨r', S', x', si', hc'⟩
  cases m with
  | zero => simp [compL] at hc'
  | succ m =>
    unfold compL at hc'
    split at hc'
    · cases hc'
    · rename_i ht
      cases hc'
      exact .inl ⟨hI r' H _ i none (e12.trans x') si' ht, hQ r' H x' si'⟩
    · rename_i d ht
      obtain ⟨h1, h2⟩ := hI r' H S' i (some d) (e12.trans x') si' ht
      split at hc'
      · cases hc'
      · rename_i env1 S1 eg
        refine .inr ⟨h1, fun H' => ∃ r'' S'', Xt r2 H2 r'' H' ∧ SI K T H' r'' S'' ∧ compL v (fun d S' => evG C ig d (Ev.wipe env vs) S') (fun env1 S' => evT C ifs env1 S') B m (i + 1) S'' = some Sf,
          fun H' ⟨r'', S'', a, b, c⟩ => ⟨m, Nat.lt_succ_self _, r'', S'', a, b, c⟩, fun x H' hy => ?_⟩
        obtain ⟨e3, rd, si3⟩ := h2 x H' hy
        have he3 : RepE K H' r' (Ev.wipe env vs) (L2.wipe σ vs) := ((he.at si x').at si' e3).wipe vs
        refine ⟨r', _, S', d, env1, S1, he3, si3, rd, eg, fun r4 σ2 H4 e4 he4 si4 sm => ⟨(sm.wipe hg).trans (wipe_wipe vs σ), ?_⟩⟩
        refine ⟨r4, env1, S1, he4, si4, ?_⟩
        cases et : evT C ifs env1 S1 with
        | bad => rw [et] at hc'; cases hc'
        | ok b S5 =>
          rw [et] at hc'
          show GoodG _ _ _ _ _ _ _ (tres (evT C ifs env1 S1)) _
          rw [et]
          intro r5 b' H5 e5 eb si5
          cases eb
          have e25 := ((x'.trans e3).trans e4).trans e5
          cases b
          · exact ⟨r5, S5, e25, si5, hc'⟩
          · simp only at hc'
            split at hc'
            · cases hc'
            · rename_i S6 eB
              rw [if_pos rfl]
              exact hB r5 H5 σ2 env1 S5 S6 _ e25 (he4.at si4 e5) si5 eB fun r6 H6 e6 si6 => ⟨r6, S6, e25.trans e6, si6, hc'⟩
/-- behind the list at D -/
def bodyL (te : TE) (D : Addr) : L2.St → Hp → (Hp → Prop) → Prop := fun σ H Nx => te σ H fun y H4 => ∃ acc, H4 D = some (.lst acc) ∧ acc.length < sizeLine ∧ Nx (upd H4 D (.lst (acc ++ [y])))
def bodyK (tk tv : TE) (D : Addr) : L2.St → Hp → (Hp → Prop) → Prop := fun σ H Nx => tk σ H fun y H4 => tv σ H4 fun z H5 => ∃ kvs k, y = kV k ∧ H5 D = some (.dK kvs) ∧ kvs.length < sizeLine ∧ Nx (upd H5 D (.dK (putK kvs k z)))
theorem addL_ok {r : List Addr} {S S' : Sto} {n : Nat} {D : Addr} {d : Ev.D} {y : V} {Nx : Hp → Prop} (si : SI K T H r S) (hD : r[n]? = some D) (hy : RepV K H r d y) (h : addL n d S = some S')
    (hn : ∀ r'' H'', Xt r H r'' H'' → SI K T H'' r'' S' → Nx H'') : ∃ acc, H D = some (.lst acc) ∧ acc.length < sizeLine ∧ Nx (upd H D (.lst (acc ++ [y]))) := by
  unfold addL at h
  split at h
  · rename_i xs e
    split at h
    · rename_i hl
      cases h
      obtain ⟨zs, e1, hz⟩ := si.lst' e hD
      have hm := List.mem_of_getElem? hD
      exact ⟨zs, e1, by rw [← hz.length, ← big_eq]; exact hl, hn r _ (Xt.put hm (si.noTup _ hm)) (si.put hD ⟨_, upd_same, (hz.at si (Xt.put hm (si.noTup _ hm))).append (.cons (hy.at si (Xt.put hm (si.noTup _ hm))) .nil)⟩)⟩
    · cases h
  · cases h
theorem addK_ok {r : List Addr} {S S' : Sto} {n : Nat} {D : Addr} {k d : Ev.D} {x y : V} {Nx : Hp → Prop} (si : SI K T H r S) (hD : r[n]? = some D) (hx : RepV K H r k x) (hy : RepV K H r d y) (h : addK n k d S = some S')
    (hn : ∀ r'' H'', Xt r H r'' H'' → SI K T H'' r'' S' → Nx H'') : ∃ kvs q, x = kV q ∧ H D = some (.dK kvs) ∧ kvs.length < sizeLine ∧ Nx (upd H D (.dK (putK kvs q y))) := by
  unfold addK at h
  split at h
  · rename_i xs e
    split at h
    · rename_i hl
      cases h
      simp only [Bool.and_eq_true, decide_eq_true_eq] at hl
      obtain ⟨zs, e1, hz⟩ := si.dct e hD
      have hm := List.mem_of_getElem? hD
      obtain ⟨q, hq⟩ := keyD_some hl.1
      exact ⟨zs, q, keyD_V hq hx, e1, by rw [← hz.len, ← big_eq]; exact hl.2, hn r _ (Xt.put hm (si.noTup _ hm)) (si.put hD ⟨_, upd_same, (hz.ext (Xt.put hm (si.noTup _ hm)) si.noTup).put hq (hy.at si (Xt.put hm (si.noTup _ hm)))⟩)⟩
    · cases h
  · cases h
theorem bodyL_ok {e : IE} {n : Nat} {D : Addr} {r' : List Addr} {H' : Hp} {σ2 : L2.St} {env1 : Ev.Env} {S' S3 : Sto} {Nx : Hp → Prop} (hD : r'[n]? = some D) (he : RepE K H' r' env1 σ2) (si : SI K T H' r' S')
    (hb : (match evE C e env1 S' with | .ok d S2 => addL n d S2 | _ => none) = some S3) (hn : ∀ r'' H'', Xt r' H' r'' H'' → SI K T H'' r'' S3 → Nx H'') : bodyL (RB K T C e) D σ2 H' Nx := by
  refine ⟨r', env1, S', he, si, ?_⟩
  split at hb
  · rename_i d S2 ev
    rw [ev]
    intro r4 y H4 e4 ry si4
    exact addL_ok si4 (e4.get hD) ry hb fun r'' H'' a b => hn r'' H'' (e4.trans a) b
  · cases hb
theorem bodyK_ok {k e : IE} {n : Nat} {D : Addr} {r' : List Addr} {H' : Hp} {σ2 : L2.St} {env1 : Ev.Env} {S' S3 : Sto} {Nx : Hp → Prop} (hD : r'[n]? = some D) (he : RepE K H' r' env1 σ2) (si : SI K T H' r' S')
    (hb : (match evE C k env1 S' with
      | .ok dk S2 => match evE C e env1 S2 with
        | .ok dv S3 => addK n dk dv S3
        | _ => none
      | _ => none) = some S3) (hn : ∀ r'' H'', Xt r' H' r'' H'' → SI K T H'' r'' S3 → Nx H'') : bodyK (RB K T C k) (RB K T C e) D σ2 H' Nx := by
  refine ⟨r', env1, S', he, si, ?_⟩
  split at hb
  · rename_i d S2 ev
    rw [ev]
    intro r4 x H4 e4 rx si4
    refine ⟨r4, env1, S2, he.at si e4, si4, ?_⟩
    split at hb
    · rename_i d2 S5 ev2
      rw [ev2]
      intro r5 y H5 e5 ry si5
      exact addK_ok si5 ((e4.trans e5).get hD) (rx.at si4 e5) ry hb fun r'' H'' a b => hn r'' H'' ((e4.trans e5).trans a) b
    · cases hb
  · cases hb
/-- the inner loop of two -/
def body2 (wi1 : TI) (g1 : TG) (tt1 : TT) (body : L2.St → Hp → (Hp → Prop) → Prop) (vs1 : List Nat) : L2.St → Hp → (Hp → Prop) → Prop := fun σ2 H3 Nx => wi1 σ2 H3 fun J1 H4 => loopR J1 g1 tt1 body vs1 σ2 Nx H4
abbrev RIb (K : Frag) (T : Tx) (C : CallS) (it : II) : TI := RI K T (fun _ _ _ _ => False) (evI C it)
theorem body2_ok {it1 : II} {ig1 : IG} {ifs1 : IEs} {vs1 : List Nat} {B : Ev.Env → Sto → Option Sto} {body : L2.St → Hp → (Hp → Prop) → Prop} {r' : List Addr} {H' : Hp} {σ2 : L2.St} {env1 : Ev.Env} {S' S3 : Sto} {Nx : Hp → Prop}
    (he : RepE K H' r' env1 σ2) (si : SI K T H' r' S') (hg : ∀ i ∈ gslots ig1, i ∈ vs1)
    (hb : (match evI C it1 env1 S' with
      | .ok v1 S2 => compL v1 (fun d S' => (evG C ig1 d (Ev.wipe env1 vs1) S')) (fun env2 S' => evT C ifs1 env2 S') B fuel 0 S2
      | _ => none) = some S3)
    (hB : ∀ r4 H4 σ3 env2 S4 S5 Nx, Xt r' H' r4 H4 → RepE K H4 r4 env2 σ3 → SI K T H4 r4 S4 → B env2 S4 = some S5 → (∀ r'' H'', Xt r4 H4 r'' H'' → SI K T H'' r'' S5 → Nx H'') → body σ3 H4 Nx)
    (hn : ∀ r'' H'', Xt r' H' r'' H'' → SI K T H'' r'' S3 → Nx H'') : body2 (RIb K T C it1) (RG K T C ig1) (RTs K T C ifs1) body vs1 σ2 H' Nx := by
  refine ⟨r', env1, S', he, si, ?_⟩
  split at hb
  · rename_i v1 S2 ev
    rw [ev]
    intro r4 J H4 e4 rJ si4
    exact loop_ok rJ (he.at si e4) (Xt.refl _ _) si4 hg hb (fun r5 H5 σ3 env2 S4 S5 Nx a b c d => hB r5 H5 σ3 env2 S4 S5 Nx (e4.trans a) b c d) fun r'' H'' a b => hn r'' H'' (e4.trans a) b
  · cases hb

/-! ### comprehensions -/
theorem re_lc {vs : List Nat} {ig : IG} {it : II} {ifs : IEs} {e : IE} (hg : ∀ i ∈ gslots ig, i ∈ vs) (h : RE K T W (evE C (.lc vs ig it ifs e)) σ H Q) : tLc (RI K T W (evI C it)) (RG K T C ig) (RTs K T C ifs) (RB K T C e) vs σ H Q := by
  obtain ⟨r, env, S, he, si, h⟩ := h
  rw [evE] at h
  refine ⟨r, env, S, he, si, h.bind fun v S1 r1 J H1 _ e1 rJ si1 h1 D hD => ?_⟩
  split at h1
  · rename_i Sf ec
    have sn : SI K T (upd H1 D (.lst [])) (r1 ++ [D]) (S1 ++ [.lst []]) := si1.new hD ⟨[], upd_same, .nil⟩
    have hix := last_ix si1 D
    refine loop_ok rJ ((he.at si e1).at si1 (Xt.neu hD)) (Xt.neu hD) sn hg ec (fun r' H' σ2 env1 S' S3 Nx a b c d f => bodyL_ok (a.get hix) b c d f) fun r' H' a b => ?_
    exact h1 r' _ H' ((Xt.neu hD).trans a) (.ref (a.get hix)) b
  · exact False.elim h1
theorem re_lc2 {vs vs1 : List Nat} {ig ig1 : IG} {it it1 : II} {ifs ifs1 : IEs} {e : IE} (hg : ∀ i ∈ gslots ig, i ∈ vs) (hg1 : ∀ i ∈ gslots ig1, i ∈ vs1) (h : RE K T W (evE C (.lc2 vs ig it ifs vs1 ig1 it1 ifs1 e)) σ H Q) :
    tLc2 (RI K T W (evI C it)) (RG K T C ig) (RTs K T C ifs) (RIb K T C it1) (RG K T C ig1) (RTs K T C ifs1) (RB K T C e) vs vs1 σ H Q := by
  obtain ⟨r, env, S, he, si, h⟩ := h
  rw [evE] at h
  refine ⟨r, env, S, he, si, h.bind fun v S1 r1 J H1 _ e1 rJ si1 h1 D hD => ?_⟩
  split at h1
  · rename_i Sf ec
    have sn : SI K T (upd H1 D (.lst [])) (r1 ++ [D]) (S1 ++ [.lst []]) := si1.new hD ⟨[], upd_same, .nil⟩
    have hix := last_ix si1 D
    refine loop_ok (body := body2 (RIb K T C it1) (RG K T C ig1) (RTs K T C ifs1) (bodyL (RB K T C e) D) vs1) rJ ((he.at si e1).at si1 (Xt.neu hD)) (Xt.neu hD) sn hg ec
      (fun r' H' σ2 env1 S' S3 Nx a b c d f => body2_ok b c hg1 d (fun r4 H4 σ3 env2 S4 S5 Nx a' b' c' d' f' => bodyL_ok ((a.trans a').get hix) b' c' d' f') f) fun r' H' a b => ?_
    exact h1 r' _ H' ((Xt.neu hD).trans a) (.ref (a.get hix)) b
  · exact False.elim h1
theorem re_dc {vs : List Nat} {ig : IG} {it : II} {ifs : IEs} {k e : IE} (hg : ∀ i ∈ gslots ig, i ∈ vs) (h : RE K T W (evE C (.dc vs ig it ifs k e)) σ H Q) : tDc (RI K T W (evI C it)) (RG K T C ig) (RTs K T C ifs) (RB K T C k) (RB K T C e) vs σ H Q := by
  obtain ⟨r, env, S, he, si, h⟩ := h
  rw [evE] at h
  refine ⟨r, env, S, he, si, h.bind fun v S1 r1 J H1 _ e1 rJ si1 h1 D hD => ?_⟩
  split at h1
  · rename_i Sf ec
    have sn : SI K T (upd H1 D (.dK [])) (r1 ++ [D]) (S1 ++ [.dct []]) := si1.new hD ⟨[], upd_same, .nil⟩
    have hix := last_ix si1 D
    refine loop_ok rJ ((he.at si e1).at si1 (Xt.neu hD)) (Xt.neu hD) sn hg ec (fun r' H' σ2 env1 S' S3 Nx a b c d f => bodyK_ok (a.get hix) b c d f) fun r' H' a b => ?_
    exact h1 r' _ H' ((Xt.neu hD).trans a) (.ref (a.get hix)) b
  · exact False.elim h1
/-- a dict comprehension with two clauses -/
def tDc2 (wi : TI) (g : TG) (tt : TT) (wi1 : TI) (g1 : TG) (tt1 : TT) (tk tv : TE) (vs vs1 : List Nat) : TE := fun σ H Q => wi σ H fun J H1 => ∀ D, H1 D = none →
  loopR J g tt (body2 wi1 g1 tt1 (bodyK tk tv D) vs1) vs σ (fun H => Q (.ref D) H) (upd H1 D (.dK []))
theorem re_dc2 {vs vs1 : List Nat} {ig ig1 : IG} {it it1 : II} {ifs ifs1 : IEs} {k e : IE} (hg : ∀ i ∈ gslots ig, i ∈ vs) (hg1 : ∀ i ∈ gslots ig1, i ∈ vs1) (h : RE K T W (evE C (.dc2 vs ig it ifs vs1 ig1 it1 ifs1 k e)) σ H Q) :
    tDc2 (RI K T W (evI C it)) (RG K T C ig) (RTs K T C ifs) (RIb K T C it1) (RG K T C ig1) (RTs K T C ifs1) (RB K T C k) (RB K T C e) vs vs1 σ H Q := by
  obtain ⟨r, env, S, he, si, h⟩ := h
  rw [evE] at h
  refine ⟨r, env, S, he, si, h.bind fun v S1 r1 J H1 _ e1 rJ si1 h1 D hD => ?_⟩
  split at h1
  · rename_i Sf ec
    have sn : SI K T (upd H1 D (.dK [])) (r1 ++ [D]) (S1 ++ [.dct []]) := si1.new hD ⟨[], upd_same, .nil⟩
    have hix := last_ix si1 D
    refine loop_ok (body := body2 (RIb K T C it1) (RG K T C ig1) (RTs K T C ifs1) (bodyK (RB K T C k) (RB K T C e) D) vs1) rJ ((he.at si e1).at si1 (Xt.neu hD)) (Xt.neu hD) sn hg ec
      (fun r' H' σ2 env1 S' S3 Nx a b c d f => body2_ok b c hg1 d (fun r4 H4 σ3 env2 S4 S5 Nx a' b' c' d' f' => bodyK_ok ((a.trans a').get hix) b' c' d' f') f) fun r' H' a b => ?_
    exact h1 r' _ H' ((Xt.neu hD).trans a) (.ref (a.get hix)) b
  · exact False.elim h1
end
end Ev
end
section
set_option maxRecDepth 100000
/-! A dict comprehension of two clauses; a dict comprehension stored to a name. -/
namespace Ev
open PySem L2 PyProof.Rows
open PySem.W (Frag)

/-- a turn of one clause; rest: what follows where the tests hold -/
def clauseT (p : Pos) (tg : Expr) (ifs : List Expr) (it : Value) (env : PySem.Env) (rest : Sem PySem.Fin) (c : Code) : Sem PySem.Fin := do
  standAt p
  match ← pyNext it with
  | none => pure (.done .next)
  | some v =>
    letOwnedTupleGo tg it v
    assign tg env v
    let mut ok := true
    for t in ifs do
      if ok then ok ← isTrue t env (eval t env)
    if ok then rest else again c

section
variable {Xb : Cx} {pins : List (Addr × Obj)} {kx vx tg : Expr} {gens : List Comprehension} {scope : Scope} {pos : Pos} {ifs : List Expr} {k : Nat} {it : Addr} {acc : Value} {p : Pos} {rest : Sem PySem.Fin} {J : It} {fp : List Addr} {tn : Nat → Heap → Prop} {g : TG} {tt : TT}
  {body : L2.St → Hp → (Hp → Prop) → Prop} {vs : List Nat} {σ : L2.St} {Qe : Hp → Prop} {R : Result → Shared → Prop}
/-- what is known at σ is known at σ' -/
def Knows (σ σ' : L2.St) : Prop := σ.length = σ'.length ∧ ∀ (j : Nat) v, σ[j]? = some (some v) → σ'[j]? = some (some v)
theorem knows_wipe (vs : List Nat) (σ : L2.St) : Knows (L2.wipe σ vs) σ := ⟨wipeS_len _ _, fun _ _ h => (wipe_some h).1⟩
theorem Inv.less {H : Hp} {s : Shared} {σ' : L2.St} (I : L2.Inv Xb pins σ' H s) (h : Knows σ σ') : L2.Inv Xb pins σ H s := I.weak h.1 h.2
/-- the loop of one clause -/
theorem clause_loop (hc : Xb.calm = true) (T : Turn Xb.prog Xb.w Xb.K tg J fp it tn) (pg : PG Xb tg g) (pt : PTs Xb ifs tt) (hx : Xb.xe = fun _ _ => False)
    (hT : compTurn (.DictComp kx vx gens scope pos) k (.ref it) acc Xb.env = clauseT p tg ifs (.ref it) Xb.env rest (.compLoop (.DictComp kx vx gens scope pos) k (.ref it) acc Xb.env))
    (hin : ∀ (ps : List (Addr × Obj)) (s : Shared) (σ2 : L2.St) (H : Hp) (Nx : Hp → Prop) (Post : Shared → Prop), L2.Inv Xb (pins ++ ps) σ2 H s → body σ2 H Nx →
      (∀ s' σ3 H', L2.Inv Xb (pins ++ ps) σ3 H' s' → (∀ τ, L2.wipe σ2 vs = L2.wipe τ vs → Knows (L2.wipe τ vs) σ3) → Nx H' → Post s') →
      wpAny (model Xb.prog Xb.w) Xb.A rest (fun fin s' => fin = .again (.compLoop (.DictComp kx vx gens scope pos) k (.ref it) acc Xb.env) ∧ Post s') (fun _ _ => False) s)
    {s : Shared} {H0 : Hp} (I : L2.Inv Xb pins (L2.wipe σ vs) H0 s) (st : tn 0 s.heap) (f0 : ∀ b ∈ fp, FpOk Xb pins H0 b) (lp : loopR J g tt body vs σ Qe H0)
    (hend : ∀ s' H', L2.Inv Xb pins (L2.wipe σ vs) H' s' → Qe H' → R (.ok .next) s') :
    codeAny (model Xb.prog Xb.w) Xb.A (.compLoop (.DictComp kx vx gens scope pos) k (.ref it) acc Xb.env) R s := by
  obtain ⟨W, ⟨m0, w0⟩, step⟩ := lp
  refine codeAny_loop rfl (fun n s' => ∃ i H', L2.Inv Xb pins (L2.wipe σ vs) H' s' ∧ tn i s'.heap ∧ (∀ b ∈ fp, FpOk Xb pins H' b) ∧ W i n H') ?_ m0 ⟨0, H0, I, st, f0, w0⟩
  rintro n s1 ⟨i, H1, I1, st1, f1, w1⟩
  show wpAny _ Xb.A ((compTurn (.DictComp kx vx gens scope pos) k (.ref it) acc Xb.env).onRaise (fun x => do noteFrame x Xb.env; theTreesLotGoes x)) _ _ s1
  refine wpAny_noted ?_
  rw [hT]
  refine wpAny_bind (wpAny_standAt (wpAny_bind ?_))
  rcases step i n H1 w1 with ⟨stop, qe⟩ | ⟨go, Nx, hNx, one⟩
  · refine thnF (T.done Xb rfl rfl rfl hc i pins s1 _ H1 (fun _ _ => False) I1 f1 st1 stop) fun r s2 ⟨hr, I2⟩ => ?_
    subst hr
    exact wpAny_pure (hend s2 H1 I2 qe)
  · refine thnF (T.item Xb rfl rfl rfl hc i pins s1 _ H1 (fun _ _ => False) I1 f1 st1 go) fun r s2 ⟨u, hr, h2⟩ => ?_
    subst hr
    refine wpAny_bind (thnF h2 fun _ s3 ⟨x, H3, I3, r3, y3, st3, n3⟩ => wpAny_bind ?_)
    have f3 : ∀ b ∈ fp, FpOk Xb pins H3 b := fun b hb => ⟨n3 b hb, (f1 b hb).2⟩
    have I3' := I3.pinned f3 (T.obj _ _ st3)
    have fin : ∀ (s' : Shared) (σ' : L2.St) (H' : Hp), L2.Inv Xb (pins ++ pinsAt fp s3.heap) σ' H' s' → Knows (L2.wipe σ vs) σ' → Nx H' →
        ∃ m, m < n ∧ ∃ i H', L2.Inv Xb pins (L2.wipe σ vs) H' s' ∧ tn i s'.heap ∧ (∀ b ∈ fp, FpOk Xb pins H' b) ∧ W i m H' := fun s' σ' H' I' kn nx => by
      obtain ⟨m, hm, w'⟩ := hNx H' nx
      have kept : ∀ b ∈ fp, ∀ o, s3.heap.get? b = some o → s'.heap.get? b = some o ∧ H' b = none := fun b hb o e => by
        have z := I'.pin (b, o) (List.mem_append_right _ (List.mem_append_right _ (mem_pinsAt hb e)))
        exact ⟨z.1, z.2.1⟩
      refine ⟨m, hm, i + 1, H', Inv.less I'.unpinned kn, T.keep _ _ _ st3 fun b hb o e => (kept b hb o e).1, fun b hb => ⟨?_, (f1 b hb).2⟩, w'⟩
      obtain ⟨o, e, _⟩ := T.obj _ _ st3 b hb
      exact (kept b hb o e).2
    have pr := pg.run _ s3 _ H3 x u _ I3' r3 (one x H3 y3)
    rw [hx] at pr
    refine thnF pr fun _ s4 ⟨σ4, H4, I4, hw4, q4⟩ => wpAny_bind ?_
    have tr := pt.run _ s4 σ4 H4 _ I4 q4
    rw [hx] at tr
    refine thnF tr fun ok s5 ⟨H5, I5, q5⟩ => ?_
    have kw : ∀ τ, L2.wipe τ vs = L2.wipe σ4 vs → Knows (L2.wipe τ vs) σ4 := fun τ e => by rw [e]; exact knows_wipe vs σ4
    cases ok with
    | false =>
      simp only [Bool.false_eq_true, if_false] at q5 ⊢
      exact wpAny_pure ⟨rfl, fin s5 σ4 H5 I5 (kw σ hw4.symm) q5⟩
    | true =>
      simp only [if_true] at q5 ⊢
      refine wpAny_mono (hin _ s5 σ4 H5 Nx _ I5 q5 fun s6 σ6 H6 I6 k6 nx => fin s6 σ6 H6 I6 (k6 σ hw4) nx) (fun fn s' hf => ?_) fun _ _ z => z.elim
      obtain ⟨rfl, hp⟩ := hf
      exact ⟨rfl, hp⟩
end

/-- the start of a clause's loop -/
theorem start_ok {prog : Program} {w : World} {A : Around} {R : Result → Shared → Prop} {s : Shared} {kx vx : Expr} {t0 i0 t1 i1 : Expr} {ifs0 ifs1 : List Expr} {scope : Scope} {pos : Pos} {it acc : Value} {env : PySem.Env}
    (h0 : codeAny (model prog w) A (.compLoop (.DictComp kx vx [⟨t0, i0, ifs0, 0⟩, ⟨t1, i1, ifs1, 0⟩] scope pos) 1 it acc env) R s)
    (h : ∀ E, wpAny (model prog w) A (pyIter it) (fun it' s' => codeAny (model prog w) A (.compLoop (.DictComp kx vx [⟨t0, i0, ifs0, 0⟩, ⟨t1, i1, ifs1, 0⟩] scope pos) 1 it' acc env) R s') E s) :
    codeAny (model prog w) A (.compStart (.DictComp kx vx [⟨t0, i0, ifs0, 0⟩, ⟨t1, i1, ifs1, 0⟩] scope pos) 1 it acc env) R s := by
  refine codeAny_of_tree ?_
  show wpAny _ _ ((compStart (.DictComp kx vx [⟨t0, i0, ifs0, 0⟩, ⟨t1, i1, ifs1, 0⟩] scope pos) 1 it acc env).onRaise (fun x => do noteFrame x env; standAt theWindowsPlace)) _ _ s
  refine wpAny_notedAt ?_
  unfold compStart
  show wpAny _ _ (ask >>= _) _ _ s
  refine wpAny_bind (wpAny_askSetting (wpAny_ite ?_))
  split
  · first
      | exact wpAny_bind (wpAny_pure (wpAny_pure (And.intro rfl h0)))
      | exact wpAny_pure (And.intro rfl h0)
  · refine wpAny_bind (wpAny_rule ?_)
    show wpAny _ _ (standAt i1.pos >>= _) _ _ s
    exact wpAny_bind (wpAny_standAt (wpAny_bind (wpAny_mono (h _) (fun it' s' h' => wpAny_pure (And.intro rfl h')) fun _ _ x => x)))

section
variable {X : Cx}
theorem dc2_core {pins : List (Addr × Obj)} {s : Shared} {σ : L2.St} {H : Hp} {Q : VK} {kx vx tg iter tg1 iter1 : Expr} {ifs ifs1 : List Expr} {scope : Scope} {own : List (Str × Nat)} {vs1 : List Nat} {pos pos' : Pos} {wi wi1 : TI} {g g1 : TG} {tt tt1 : TT} {tk tv : TE} {use : Option (Value → Sem Unit)} {Qf : Value → Shared → Prop}
    (hc : X.calm = true) (hN : X.N.Nodup) (I : L2.Inv X pins σ H s) (hi : PI X tg iter wi) (ok : BlkOk X.N X.env.scope scope own) (hv : ∀ i ∈ vs1, i ∈ own.map (·.2))
    (hb : ∀ (s : Shared) (H : Hp) (C : Addr) (cl : List (Str × Addr)) (fp : List Addr) (Xb : Cx), Xb = X.blk s H scope (compEnvC scope cl C X.env) fp → PG Xb tg g ∧ PTs Xb ifs tt ∧ PI Xb tg1 iter1 wi1 ∧ PG Xb tg1 g1 ∧ PTs Xb ifs1 tt1 ∧ PE Xb kx tk ∧ PE Xb vx tv)
    (hs : ∀ x, foldedSetIterable iter X.env x = pure x) (hs1 : ∀ env x, foldedSetIterable iter1 env x = pure x)
    (h : tDc2 wi g tt wi1 g1 tt1 tk tv (own.map (·.2)) vs1 σ H Q)
    (hRR : ∀ D C s' m H', L2.Inv X pins σ H' s' → Q (.ref D) H' → s'.heap.Ns C m → FpOk X pins H' C → compPost (model X.prog X.w) X.A X.xe use Qf (.ref D) C (.ok .next) s') :
    wpAny (model X.prog X.w) X.A (comprehension (.DictComp kx vx [⟨tg, iter, ifs, 0⟩, ⟨tg1, iter1, ifs1, 0⟩] scope pos) scope X.env pos' newDict false (eval iter X.env) use) Qf X.xe s := by
  have cells : ∀ y ∈ scope.names, y.2 = .free → ∃ c, X.env.cells.lookup y.1 = some c := fun y hy e => (ok.free y hy e).elim (fun k => I.ok.has _ (.inl k)) fun k => I.ok.has _ (.inr k)
  refine wpAny_comprehension_free (use := use) rfl hs (closure_ok cells) ok.kind (fun y hy e => by rw [ok.uniq y hy, e]) (thn (hi.run pins s σ H _ I h) fun xv s1 hx => thn hx fun itv s2 h2 => ?_)
  obtain ⟨it, fp, tn, J, H2, rfl, I2, T, st2, f2, q⟩ := h2
  refine wpAny_newObj_type (newEnv_comp ?_)
  generalize hD : s2.heap.objs.size = D
  have lp := q D (I2.hok.fresh (Nat.le_of_eq hD))
  generalize hs3 : ({ s2 with heap := s2.heap.push { cls := .type "dict", data := .dict #[] } } : Shared) = s3
  have e3 : s3.heap = s2.heap.push { cls := .type "dict", data := .dict #[] } := by rw [← hs3]
  have I3 : L2.Inv X pins σ (upd H2 D (.dK [])) s3 := by
    rw [← hs3]
    exact I2.laid (t' := s2.toks) (fun b o e => Heap.get?_push_of_some _ e) (Nat.le_of_eq hD) (by rw [← hD]; exact dk_empty s2.heap I2.big)
  have lt2 : ∀ b ∈ fp, b < s2.heap.objs.size := fun b hb => let ⟨o, e, _⟩ := T.obj _ _ st2 b hb; Heap.lt_size e
  have f3 : ∀ b ∈ fp, FpOk X pins (upd H2 D (.dK [])) b ∧ b < s3.heap.objs.size := fun b hb =>
    ⟨⟨by rw [upd_ne (by rw [← hD]; exact Nat.ne_of_lt (lt2 b hb))]; exact (f2 b hb).1, (f2 b hb).2⟩, by rw [e3, Heap.size_push]; exact Nat.lt_succ_of_lt (lt2 b hb)⟩
  have I4 := block_start I3 ok hN f3
  obtain ⟨pg, pt, pi1, pg1, pt1, pk, pv⟩ := hb s3 (upd H2 D (.dK [])) s3.heap.objs.size (cellsFrom (s3.heap.objs.size + 1) scope.names (cloFrom X.env.cells scope.names [])) fp _ rfl
  show codeAny _ _ (.compStart (.DictComp kx vx [⟨tg, iter, ifs, 0⟩, ⟨tg1, iter1, ifs1, 0⟩] scope pos) 0 (.ref it) (.ref D) (compEnvC scope (cellsFrom (s3.heap.objs.size + 1) scope.names (cloFrom X.env.cells scope.names [])) s3.heap.objs.size X.env)) (compPost (model X.prog X.w) X.A X.xe use Qf (.ref D) s3.heap.objs.size) { s3 with heap := pushCells (s3.heap.push { cls := .type "dict", data := .dict #[] }) scope.names }
  generalize hH3 : upd H2 D (.dK []) = H3 at I3 I4 pg pt pk pv pi1 pg1 pt1 lp f3
  generalize hce : compEnvC scope (cellsFrom (s3.heap.objs.size + 1) scope.names (cloFrom X.env.cells scope.names [])) s3.heap.objs.size X.env = ce at I4 pg pt pk pv pi1 pg1 pt1 ⊢
  have cL : ce.locals = s3.heap.objs.size := by subst hce; rfl
  generalize hs4 : ({ s3 with heap := pushCells (s3.heap.push { cls := .type "dict", data := .dict #[] }) scope.names } : Shared) = s4 at I4 ⊢
  have st4 : tn 0 s4.heap := T.keep _ _ _ st2 fun b _ o e => by rw [← hs4]; exact pushCells_keeps _ _ _ _ (Heap.get?_push_of_some _ (by rw [e3]; exact Heap.get?_push_of_some _ e))
  generalize hXb : X.blk s3 H3 scope ce fp = Xb at I4 pg pt pk pv pi1 pg1 pt1
  have bP : Xb.prog = X.prog := by rw [← hXb]
  have bw : Xb.w = X.w := by rw [← hXb]
  have bK : Xb.K = X.K := by rw [← hXb]
  have bA : Xb.A = X.A := by rw [← hXb]
  have bc : Xb.calm = true := by rw [← hXb]; exact hc
  have be : Xb.env = ce := by rw [← hXb]
  have bx : Xb.xe = fun _ _ => False := by rw [← hXb]
  have fb : ∀ b ∈ fp, FpOk Xb [] H3 b := fun b hb => by
    have hbx : b ∈ Xb.ex := by rw [← hXb]; exact hb
    exact ⟨(f3 b hb).1.1, (I4.ok.exf b hbx).1, I4.ok.exfs b hbx, .inl hbx, fun x c e => (I4.ok.exf b hbx).2 x c e, fun p hp => absurd (show p ∈ ([] : List (Addr × Obj)) ++ [] from by rw [← hXb] at hp; exact hp) (by simp)⟩
  have T' : Turn Xb.prog Xb.w Xb.K tg J fp it tn := by rw [bP, bw, bK]; exact T
  have loop : codeAny (model X.prog X.w) X.A (.compLoop (.DictComp kx vx [⟨tg, iter, ifs, 0⟩, ⟨tg1, iter1, ifs1, 0⟩] scope pos) 0 (.ref it) (.ref D) ce) (compPost (model X.prog X.w) X.A X.xe use Qf (.ref D) s3.heap.objs.size) s4 := by
    rw [← bP, ← bw, ← bA, ← be]
    refine clause_loop (p := iter.pos) (rest := do
      let x ← eval iter1 Xb.env
      standAt iter1.pos
      let x ← foldedSetIterable iter1 Xb.env x
      let _ ← runOwn (.compStart (.DictComp kx vx [⟨tg, iter, ifs, 0⟩, ⟨tg1, iter1, ifs1, 0⟩] scope pos) 1 (← holding [x] (pyIter x)) (.ref D) Xb.env) Xb.env
      again (.compLoop (.DictComp kx vx [⟨tg, iter, ifs, 0⟩, ⟨tg1, iter1, ifs1, 0⟩] scope pos) 0 (.ref it) (.ref D) Xb.env)) bc T' pg pt bx rfl ?_ I4 st4 fb lp fun s' H' I' qe => ?_
    · intro ps s5 σ2 H5 Nx Post I5 hbody hpost
      have ir := pi1.run _ s5 σ2 H5 _ I5 hbody
      rw [bx] at ir
      refine wpAny_bind (thnF ir fun xv s6 hx6 => wpAny_bind (wpAny_standAt (wpAny_bind (wpAny_of_eq (hs1 _ _) (wpAny_bind (wpAny_holding (thnF hx6 fun itv s7 h7 => ?_)))))))
      obtain ⟨it1, fp1, tn1, J1, H7, rfl, I7, T1, st7, f7, lp1⟩ := h7
      refine wpAny_bind (wpAny_runOwn ?_)
      rw [Around.mark_none]
      have kn : Knows (L2.wipe σ2 vs1) σ2 := knows_wipe _ _
      have loop1 : codeAny (model Xb.prog Xb.w) Xb.A (.compLoop (.DictComp kx vx [⟨tg, iter, ifs, 0⟩, ⟨tg1, iter1, ifs1, 0⟩] scope pos) 1 (.ref it1) (.ref D) Xb.env) (fun r s' => match r with | .ok _ => Post s' | .error _ => False) s7 := by
        refine clause_loop (p := iter1.pos) (pins := [] ++ ps) (rest := do
          (do
            let kv ← eval kx Xb.env
            let vv ← holding [kv] (eval vx Xb.env)
            standAt { kx.pos with endLine := vx.pos.endLine, endCol := vx.pos.endCol }
            holding [kv, vv] (dictSet D kv vv))
          again (.compLoop (.DictComp kx vx [⟨tg, iter, ifs, 0⟩, ⟨tg1, iter1, ifs1, 0⟩] scope pos) 1 (.ref it1) (.ref D) Xb.env)) bc T1 pg1 pt1 bx rfl ?_ (Inv.less I7 kn) st7 f7 lp1 fun s' H' I' nx => ?_
        · intro ps' s8 σ8 H8 Nx1 Post1 I8 hbody1 hpost1
          have kr := pk.run _ s8 σ8 H8 _ I8 hbody1
          rw [bx] at kr
          refine wpAny_bind (wpAny_bind (thnF kr fun kv s9 ⟨yk, H9, I9, r9, q9⟩ => ?_))
          have vr := pv.run _ s9 σ8 H9 _ I9 q9
          rw [bx] at vr
          refine wpAny_bind (wpAny_holding (thnF vr fun vv s10 ⟨yv, H10, I10, r10, kvs, kk, ek, hD10, hz, nx⟩ => ?_))
          subst ek
          refine wpAny_bind (wpAny_standAt (wpAny_holding (d_dictSet I10 hD10 hz r9 r10 fun s11 I11 => ?_)))
          exact wpAny_pure ⟨rfl, hpost1 s11 σ8 _ I11 (fun τ e => by rw [← e]; exact knows_wipe _ _) nx⟩
        · exact hpost s' _ H' I' (fun τ e => ⟨by rw [← e, wipeS_len, wipeS_len], fun j v ej => by
            rw [← e] at ej
            obtain ⟨z1, z2⟩ := wipe_some ej
            rw [wipe_out fun z => z2 (hv j z)]
            exact z1⟩) nx
      refine codeAny_mono (start_ok loop1 fun E => T1.self Xb.A 0 s7 _ E st7 loop1) fun r s' hr => ?_
      cases r with
      | ok f =>
        first
          | exact wpAny_pure ⟨rfl, hr⟩
          | exact wpAny_bind (wpAny_pure (wpAny_pure ⟨rfl, hr⟩))
      | error e => exact hr.elim
    · have I7 : L2.Inv X pins σ H' s' := by
        have eb : Xb.fs = frs X.stack := by rw [← hXb]
        refine I3.call' (ch := fp) ?_ ?_ ?_ I'.bare fun b hb => ⟨(f3 b hb).1.2.2.2.1, (f3 b hb).1.2.1, (f3 b hb).1.2.2.2.2.1, (f3 b hb).1.2.2.2.2.2⟩
        · have := I'.os; rw [← hXb] at this; exact this
        · have := I'.base; rw [← hXb] at this; exact this
        · have := I'.hok; rw [← hXb] at this; exact this
      have nC : H' s3.heap.objs.size = none := by
        have z := I'.free
        rw [be, cL] at z; exact z
      obtain ⟨m, hn, _⟩ := I'.loc
      rw [be, cL] at hn
      rw [bP, bw, bA]
      exact hRR D _ s' m H' I7 qe hn (I3.fpOk (Nat.le_refl _) nC)
  exact codeAny_compStart_dict loop (T.self X.A 0 _ _ _ st4 loop)
theorem val_post {pins : List (Addr × Obj)} {σ : L2.St} {H' : Hp} {Q : VK} {D C : Addr} {s' : Shared} {m : Str → Option Value} (I : L2.Inv X pins σ H' s') (q : Q (.ref D) H') (hn : s'.heap.Ns C m) (f : FpOk X pins H' C) :
    compPost (model X.prog X.w) X.A X.xe none (EP X pins σ Q) (.ref D) C (.ok .next) s' :=
  ⟨m, hn, fun h'' sb => ⟨.ref D, H', I.turned (t' := s'.toks) (fun b o hb e => (sb.2 b hb).trans e) f.1 f.2.1 f.2.2.2.1 f.2.2.2.2.1 f.2.2.2.2.2, rfl, q⟩⟩
theorem use_post {pins : List (Addr × Obj)} {σ : L2.St} {H' : Hp} {D C : Addr} {s' : Shared} {m : Str → Option Value} {E : Ends} {i : Nat} {y : Str} {py : Pos} (hN : X.N.Nodup) (hy : X.N[i]? = some y) (hyl : X.env.scope.names.lookup y = some .local)
    (I : L2.Inv X pins σ H' s') (q : gName i (.ref D) σ H' E.nx) (hn : s'.heap.Ns C m) (f : FpOk X pins H' C) :
    compPost (model X.prog X.w) X.A X.xe (some (assign (.Name y py) X.env)) (fun _ s' => SP X pins E .next s') (.ref D) C (.ok .next) s' := by
  show wpAny _ _ (assign (.Name y py) X.env (.ref D)) _ _ _
  refine wpAny_assign_Name (store_ok2 (v := V.ref D) I hN hy (.inl hyl) rfl (fun s2 I2 ⟨a, sb, ha⟩ => ?_) (.inr hyl))
  have ne : C ≠ a := ha.elim (fun z => z ▸ f.2.1) fun z e => f.2.2.2.2.1 y a z e.symm
  exact ⟨m, hn.sameBut sb ne, fun h3 sb3 => ⟨_, H', I2.turned (t' := s2.toks) (fun b o hb e => (sb3.2 b hb).trans e) f.1 f.2.1 f.2.2.2.1 f.2.2.2.2.1 f.2.2.2.2.2, q⟩⟩
section
variable {kx vx tg iter tg1 iter1 : Expr} {ifs ifs1 : List Expr} {scope : Scope} {own : List (Str × Nat)} {vs1 : List Nat} {pos spos py : Pos} {wi wi1 : TI} {g g1 : TG} {tt tt1 : TT} {tk tv : TE} {i : Nat} {y : Str}
theorem pe_dc2 (hc : X.calm = true) (hN : X.N.Nodup) (hi : PI X tg iter wi) (ok : BlkOk X.N X.env.scope scope own) (hv : ∀ i ∈ vs1, i ∈ own.map (·.2))
    (hb : ∀ (s : Shared) (H : Hp) (C : Addr) (cl : List (Str × Addr)) (fp : List Addr) (Xb : Cx), Xb = X.blk s H scope (compEnvC scope cl C X.env) fp → PG Xb tg g ∧ PTs Xb ifs tt ∧ PI Xb tg1 iter1 wi1 ∧ PG Xb tg1 g1 ∧ PTs Xb ifs1 tt1 ∧ PE Xb kx tk ∧ PE Xb vx tv)
    (hs : ∀ x, foldedSetIterable iter X.env x = pure x) (hs1 : ∀ env x, foldedSetIterable iter1 env x = pure x) : PE X (.DictComp kx vx [⟨tg, iter, ifs, 0⟩, ⟨tg1, iter1, ifs1, 0⟩] scope pos) (tDc2 wi g tt wi1 g1 tt1 tk tv (own.map (·.2)) vs1) := by
  refine ⟨fun pins s σ H Q I h => ?_⟩
  rw [arm_eval_DictComp]
  exact dc2_core hc hN I hi ok hv hb hs hs1 h fun D C s' m H' I' q hn f => val_post I' q hn f
theorem ps_setDc2 (hc : X.calm = true) (hN : X.N.Nodup) (hy : X.N[i]? = some y) (hyl : X.env.scope.names.lookup y = some .local)
    (hsw : swapsWith (.DictComp kx vx [⟨tg, iter, ifs, 0⟩, ⟨tg1, iter1, ifs1, 0⟩] scope pos) (some (.Name y py)) spos.line X.env = pure true) (hi : PI X tg iter wi) (ok : BlkOk X.N X.env.scope scope own) (hv : ∀ i ∈ vs1, i ∈ own.map (·.2))
    (hb : ∀ (s : Shared) (H : Hp) (C : Addr) (cl : List (Str × Addr)) (fp : List Addr) (Xb : Cx), Xb = X.blk s H scope (compEnvC scope cl C X.env) fp → PG Xb tg g ∧ PTs Xb ifs tt ∧ PI Xb tg1 iter1 wi1 ∧ PG Xb tg1 g1 ∧ PTs Xb ifs1 tt1 ∧ PE Xb kx tk ∧ PE Xb vx tv)
    (hs : ∀ x, foldedSetIterable iter X.env x = pure x) (hs1 : ∀ env x, foldedSetIterable iter1 env x = pure x) :
    PS X (.Assign [.Name y py] (.DictComp kx vx [⟨tg, iter, ifs, 0⟩, ⟨tg1, iter1, ifs1, 0⟩] scope pos) spos) (tAsg (tDc2 wi g tt wi1 g1 tt1 tk tv (own.map (·.2)) vs1) (gName i)) := by
  refine ⟨fun pins s σ H E I h => ?_⟩
  rw [exec_Assign_Name_used _ _ _ _ hsw]
  refine wpAny_bind (wpAny_standAt (wpAny_bind ?_))
  show wpAny _ X.A (do let _ ← comprehension (.DictComp kx vx [⟨tg, iter, ifs, 0⟩, ⟨tg1, iter1, ifs1, 0⟩] scope pos) scope X.env (firstIterPos [⟨tg, iter, ifs, 0⟩, ⟨tg1, iter1, ifs1, 0⟩] pos) newDict false (eval iter X.env) (some (assign (.Name y py) X.env))) _ _ s
  have h : tDc2 wi g tt wi1 g1 tt1 tk tv (own.map (·.2)) vs1 σ H (fun x H1 => gName i x σ H1 E.nx) := h
  exact wpAny_bind (thn (dc2_core (Qf := fun _ s' => SP X pins E .next s') hc hN I hi ok hv hb hs hs1 h fun D C s' m H' I' q hn f => use_post hN hy hyl I' q hn f) fun _ s' hq => wpAny_pure (wpAny_pure hq))
theorem ps_setDc (hc : X.calm = true) (hN : X.N.Nodup) (hy : X.N[i]? = some y) (hyl : X.env.scope.names.lookup y = some .local)
    (hsw : swapsWith (.DictComp kx vx [⟨tg, iter, ifs, 0⟩] scope pos) (some (.Name y py)) spos.line X.env = pure true) (hi : PI X tg iter wi) (ok : BlkOk X.N X.env.scope scope own)
    (hb : ∀ (s : Shared) (H : Hp) (C : Addr) (cl : List (Str × Addr)) (fp : List Addr) (Xb : Cx), Xb = X.blk s H scope (compEnvC scope cl C X.env) fp → PG Xb tg g ∧ PTs Xb ifs tt ∧ PE Xb kx tk ∧ PE Xb vx tv)
    (hs : ∀ x, foldedSetIterable iter X.env x = pure x) : PS X (.Assign [.Name y py] (.DictComp kx vx [⟨tg, iter, ifs, 0⟩] scope pos) spos) (tAsg (tDc wi g tt tk tv (own.map (·.2))) (gName i)) := by
  refine ⟨fun pins s σ H E I h => ?_⟩
  rw [exec_Assign_Name_used _ _ _ _ hsw]
  refine wpAny_bind (wpAny_standAt (wpAny_bind ?_))
  show wpAny _ X.A (do let _ ← comprehension (.DictComp kx vx [⟨tg, iter, ifs, 0⟩] scope pos) scope X.env (firstIterPos [⟨tg, iter, ifs, 0⟩] pos) newDict false (eval iter X.env) (some (assign (.Name y py) X.env))) _ _ s
  have h : tDc wi g tt tk tv (own.map (·.2)) σ H (fun x H1 => gName i x σ H1 E.nx) := h
  exact wpAny_bind (thn (dc_core (Qf := fun _ s' => SP X pins E .next s') hc hN I hi ok (fun a b c d e => (hb a b c d e _ rfl).1) (fun a b c d e => (hb a b c d e _ rfl).2.1) (fun a b c d e => (hb a b c d e _ rfl).2.2.1) (fun a b c d e => (hb a b c d e _ rfl).2.2.2) hs h
    fun D C s' m H' I' q hn f => use_post hN hy hyl I' q hn f) fun _ s' hq => wpAny_pure (wpAny_pure hq))
end
end
end Ev
end
section
set_option maxRecDepth 100000
set_option maxHeartbeats 2000000
/-! any, all of a generator expression, by hand: the generator's frame as a context of its own. -/
namespace Ev
open PySem PySem.Spec PyProof.Rows L2
open PySem.W (Frag)

abbrev geEnv (X : Cx) (s : Shared) (scope : Scope) (code : Value) : PySem.Env := genEnv scope (cloFrom X.env.cells scope.names []) s.heap.objs.size code builtinsNs X.env
/-- the context of a generator expression's frame, laid at s; A: what runs around -/
def genCx (X : Cx) (A : Around) (s : Shared) (H : Hp) (scope : Scope) (code : Value) (fp : List Addr) (pn : List (Addr × Obj)) : Cx where
  prog := X.prog
  w := X.w
  K := X.K
  mg := X.mg
  base := X.base
  A := A
  N := X.N
  s_0 := s
  H_0 := H
  env := geEnv X s scope code
  outer := X.stack
  stack := geEnv X s scope code :: X.stack
  ex := fp
  fn := fun _ => false
  calm := true
  pn := pn
  xe := fun _ _ => False
/-- the generator's scope -/
structure GenSc (N : List Str) (sc scope : Scope) (own : List (Str × Nat)) : Prop extends BlkOk N sc scope own where
  co : scope.isCoroutine = false
  nocell : ∀ y ∈ scope.names, y.2 ≠ .cell
  dot : scope.names.lookup (".0" : Str) = some .local
/-- the around of the generator's code, woken by any's loop -/
abbrev genA (X : Cx) (c : Code) : Around := X.A.in1.in1.over c []

section
variable {X : Cx} {pins : List (Addr × Obj)} {σ : L2.St} {H : Hp} {s : Shared}
theorem gen_start {A : Around} {scope : Scope} {own : List (Str × Nat)} {fp : List Addr} {code : Value} {go : Obj} {a : Addr} {h' : Heap} {g' : Array GenState} {t' : Nat} {it : Value}
    (I : Inv X pins σ H s) (ok : GenSc X.N X.env.scope scope own) (hN : X.N.Nodup) (hfp : ∀ b ∈ fp, FpOk X pins H b ∧ b < s.heap.objs.size) (hd : A.handled = none) (hfr : A.frames = some (geEnv X s scope code :: X.stack))
    (kp : ∀ b o, s.heap.get? b = some o → h'.get? b = some o) (hns : h'.Ns s.heap.objs.size fun y => if y = (".0" : Str) then some it else none) (hdot : (".0" : Str) ∉ X.N) (hga : h'.get? a = some go) (hgd : ∀ v, go.data ≠ .cell v) (ha : s.heap.objs.size < a) (hg : AllBare g') :
    Inv (genCx X A s H scope code fp [(a, go)]) [] (L2.wipe σ (own.map (·.2))) H { s with heap := h', gens := g', toks := t' } := by
  have hfree : ∀ y ∈ scope.names, y.2 = .free → ∃ c, X.env.cells.lookup y.1 = some c := fun y hy e => by
    rcases ok.free y hy e with k | k
    · exact I.ok.has _ (.inl k)
    · exact I.ok.has _ (.inr k)
  have cm : ∀ {y c}, (cloFrom X.env.cells scope.names []).lookup y = some c → X.env.cells.lookup y = some c ∧ (y, NameKind.free) ∈ scope.names := fun {y c} e => by
    rcases cloFrom_mem (PySem.mem_of_lookup e) with hm | ⟨h1, h2⟩
    · cases hm
    · obtain ⟨c1, hc⟩ := hfree _ h1 rfl
      have hc : X.env.cells.lookup y = some c1 := hc
      have e2 : c = c1 := by
        rw [h2, hc] <;> rfl
      rw [e2]
      exact ⟨hc, h1⟩
  have look : ∀ {y}, scope.names.lookup y = some .free → ∃ c, (cloFrom X.env.cells scope.names []).lookup y = some c := fun {y} hl => by
    have hy : (y, NameKind.free) ∈ scope.names := PySem.mem_of_lookup hl
    exact mem_lookup (cloFrom_has (cells := X.env.cells) (acc := []) hy)
  have cellK : ∀ {c : Addr} {v : Option Value}, s.heap.IsCell c v → h'.IsCell c v := fun {c v} z => z.keeps kp
  have clt : ∀ y c, X.env.cells.lookup y = some c → c < s.heap.objs.size := fun y c e => by
    obtain ⟨v, q⟩ := I.cell y c e
    exact q.lt
  refine ⟨⟨I.ok.mod, ok.kind, I.ok.glob, rfl, Nat.le_refl _, fun y z c e1 e2 => I.ok.inj y z c (cm e1).1 (cm e2).1, fun y hy => ?_, fun y c z _ => ?_, fun _ => hd, hfr, .inr ⟨rfl, rfl⟩, fun b hb => ⟨?_, fun y c e z => ?_⟩, I.bs, Nat.le_trans I.ok.bsz I.sz, fun b o e hb => ?_, fun b hb z => ?_, I.stack, I.stkFree⟩,
    rfl, hg, Un.kept kp, ⟨_, hns, fun i y v e1 e2 e3 => ?_⟩, fun y c e => ?_, I.hok.fresh (Nat.le_refl _), fun y c e => ?_, fun p hp => ?_, I.hok.kept kp, by rw [L2.wipe_length]; exact I.len⟩
  · have hy : scope.names.lookup y = some .cell ∨ scope.names.lookup y = some .free := hy
    rcases hy with hy | hy
    · exact absurd rfl (ok.nocell _ (PySem.mem_of_lookup hy))
    · exact look hy
  · have z : false = true := z
    cases z
  · exact Nat.ne_of_lt (hfp b hb).2
  · exact (hfp b hb).1.2.2.2.2.1 y c (cm e).1 z
  · rcases (hfp b hb).1.2.2.2.1 with z | z
    · exact I.ok.noex b o e z
    · exact absurd (Nat.lt_of_lt_of_le (Heap.lt_size e) (Nat.le_trans I.ok.bsz z)) (Nat.lt_irrefl _)
  · rcases List.mem_cons.mp (I.stkSub b z) with z | z
    · exact (hfp b hb).1.2.1 z
    · exact (hfp b hb).1.2.2.1 z
  · obtain ⟨e2, hne⟩ := L2.wipe_some e2
    have no : ∀ k, scope.names.lookup y = some k → ¬ (k = .local ∨ k = .cell) := fun k e hh => by
      rcases ok.own _ (PySem.mem_of_lookup e) hh with e' | e'
      · obtain ⟨p, hp, hpy⟩ := List.mem_map.mp e'
        have e3 := ok.ix p hp
        have : p.1 = y := hpy
        rw [this] at e3
        exact hne (List.mem_map.mpr ⟨p, hp, L2.nodup_ix hN e3 e1⟩)
      · exact e' (List.mem_of_getElem? e1)
    have e3 : Vis scope y := e3
    rcases e3 with k | k | k
    · exact absurd (.inl rfl) (no _ k)
    · exact absurd (.inr rfl) (no _ k)
    · obtain ⟨m, hn, hl⟩ := I.loc
      have hvis : Vis X.env.scope y := (ok.free _ (PySem.mem_of_lookup k) rfl).elim (fun k => .inr (.inl k)) (fun k => .inr (.inr k))
      obtain ⟨w', r, q⟩ := hl i y v e1 e2 hvis
      obtain ⟨c2, h2⟩ := look k
      refine ⟨w', r, .inr ⟨.inr k, c2, h2, ?_⟩⟩
      have c1 := (cm h2).1
      rcases q with ⟨k', _⟩ | ⟨_, c3, e', z⟩
      · have k' : X.env.scope.names.lookup y = some .local := k'
        rcases ok.free _ (PySem.mem_of_lookup k) rfl with k2 | k2 <;> rw [show X.env.scope.names.lookup y = _ from k2] at k' <;> cases k'
      · rw [c1] at e'
        cases e'
        exact cellK z
  · obtain ⟨w', z⟩ := I.cell y c (cm e).1
    exact ⟨w', cellK z⟩
  · exact I.freeC y c (cm e).1
  · rcases List.mem_append.mp hp with hp | hp
    · rw [List.mem_singleton.mp hp]
      refine ⟨hga, I.hok.fresh (Nat.le_of_lt ha), Nat.ne_of_gt ha, fun z => ?_, hgd⟩
      rcases List.mem_cons.mp (I.stkSub a z) with z | z
      · have := I.lt
        rw [z] at ha
        exact absurd (Nat.lt_trans this ha) (Nat.lt_irrefl _)
      · exact I.nofs (Nat.le_of_lt ha) z
    · cases hp

/-! ### the loop -/
/-- any (stop: true), all (stop: false) of what a generator hands out -/
def tGenL (stop : Bool) (J : It) (g : TG) (tt : TT) (te : TE) (vs : List Nat) (σ : L2.St) (Q : Bool → Hp → Prop) (H0 : Hp) : Prop := ∃ W : Nat → Nat → Hp → Prop, (∃ m, W 0 m H0) ∧ ∀ i m H, W i m H →
  (J.stop i H ∧ Q (!stop) H) ∨ (J.go i H ∧ ∃ Nx : Hp → Prop, (∀ H', Nx H' → ∃ m', m' < m ∧ W (i + 1) m' H') ∧ ∀ x H', J.yld i H x H' → g x (L2.wipe σ vs) H' fun σ2 H2 => L2.wipe σ2 vs = L2.wipe σ vs ∧ tt σ2 H2 fun b H3 =>
    if b = true then te σ2 H3 fun y H4 => ∃ k, y = .bl k ∧ (if k = stop then Q k H4 else Nx H4) else Nx H3)
/-- the end of the generator's run -/
def genR (Xg : Cx) (σ0 : L2.St) (stop : Bool) (Q : Bool → Hp → Prop) : Nat → Shared → Shared → Prop := fun _ _ s₁ => ∃ H', Inv Xg [] σ0 H' s₁ ∧ Q (!stop) H'
/-- a truth value is handed out -/
def genY (Xg : Cx) (σ0 : L2.St) (stop : Bool) (Q : Bool → Hp → Prop) : Protocol := fun _ _ v s₁ kap => ∃ k H', v = .bool k ∧ Inv Xg [] σ0 H' s₁ ∧ (if k = stop then Q k H' else ∀ s'' : Shared, s''.heap = s₁.heap → s''.os = s₁.os → AllBare s''.gens → kap (.send .none) s'')
theorem inv_same {X : Cx} {pins : List (Addr × Obj)} {σ : L2.St} {H : Hp} {s s' : Shared} (I : Inv X pins σ H s) (h1 : s'.heap = s.heap) (h2 : s'.os = s.os) (h3 : AllBare s'.gens) : Inv X pins σ H s' := by
  obtain ⟨hh, g, d, t, o⟩ := s'
  have h1 : hh = s.heap := h1
  have h2 : o = s.os := h2
  subst h1 h2
  exact ⟨I.ok, I.os, h3, I.base, I.loc, I.cell, I.free, I.freeC, I.pin, I.hok, I.len⟩
theorem gen_seg {Xg : Cx} {A0 : Around} {own : List Nat} {σ : L2.St} {tg iter elt : Expr} {ifs : List Expr} {scope : Scope} {pos : Pos} {it : Addr} {fp : List Addr} {tn : Nat → Heap → Prop} {J : It} {g : TG} {tt : TT} {te : TE} {stop : Bool} {Q : Bool → Hp → Prop} {W : Nat → Nat → Hp → Prop}
    (hA : Xg.A = A0.over (.compLoop (.GeneratorExp elt [⟨tg, iter, ifs, 0⟩] scope pos) 0 (.ref it) .none Xg.env) []) (hco : Xg.env.scope.isCoroutine = false) (hc : Xg.calm = true) (hxe : Xg.xe = fun _ _ => False)
    (T : Turn Xg.prog Xg.w Xg.K tg J fp it tn) (hfp : ∀ (σ' : L2.St) (H' : Hp) (s' : Shared), Inv Xg [] σ' H' s' → (∀ b ∈ fp, H' b = none) → ∀ b ∈ fp, FpOk Xg [] H' b)
    (pg : PG Xg tg g) (pt : PTs Xg ifs tt) (pe : PE Xg elt te)
    (turn : ∀ i m H, W i m H → (J.stop i H ∧ Q (!stop) H) ∨ (J.go i H ∧ ∃ Nx : Hp → Prop, (∀ H', Nx H' → ∃ m', m' < m ∧ W (i + 1) m' H') ∧ ∀ x H', J.yld i H x H' → g x (L2.wipe σ own) H' fun σ2 H2 => L2.wipe σ2 own = L2.wipe σ own ∧ tt σ2 H2 fun b H3 =>
      if b = true then te σ2 H3 fun y H4 => ∃ k, y = .bl k ∧ (if k = stop then Q k H4 else Nx H4) else Nx H3)) :
    ∀ (m n i : Nat) (s₀ s' : Shared) (H' : Hp), m < n → Inv Xg [] (L2.wipe σ own) H' s' → tn i s'.heap → (∀ b ∈ fp, H' b = none) → W i m H' →
      Seg (model Xg.prog Xg.w) A0 (fun n s₀ r s₁ => r = .ok .next ∧ genR Xg (L2.wipe σ own) stop Q n s₀ s₁) (genY Xg (L2.wipe σ own) stop Q) n s₀
        (.compLoop (.GeneratorExp elt [⟨tg, iter, ifs, 0⟩] scope pos) 0 (.ref it) .none Xg.env)
        ((model Xg.prog Xg.w).den (.compLoop (.GeneratorExp elt [⟨tg, iter, ifs, 0⟩] scope pos) 0 (.ref it) .none Xg.env)) [] s' := by
  intro m
  induction m using Nat.strongRecOn with
  | ind m ih =>
    intro n i s₀ s5 H5 hn I5 st5 n5 w5
    show Seg _ A0 _ _ _ s₀ _ ((compTurn (.GeneratorExp elt [⟨tg, iter, ifs, 0⟩] scope pos) 0 (.ref it) .none Xg.env).onRaise (leaving Xg.env)) [] s5
    rw [compTurn_gen, Sem.onRaise_eq_wrap]
    refine seg_bind_wrap (wpAny_standAt ?_)
    rcases turn i m H5 w5 with ⟨stp, qq⟩ | ⟨go, Nx, hNx, step⟩
    · refine seg_bind_wrap ?_
      rw [← hA]
      have td := T.done Xg rfl rfl rfl hc i [] s5 _ H5 (fun _ _ => False) I5 (hfp _ _ _ I5 n5) st5 stp
      refine thnF td fun r s6 ⟨hr, I6⟩ => ?_
      subst hr
      exact seg_end (.ok .next) ⟨rfl, H5, I6, qq⟩
    · refine seg_bind_wrap ?_
      rw [← hA]
      have ti := T.item Xg rfl rfl rfl hc i [] s5 _ H5 (fun _ _ => False) I5 (hfp _ _ _ I5 n5) st5 go
      refine thnF ti fun r s6 ⟨u, hr, h6⟩ => ?_
      subst hr
      refine seg_bind_wrap ?_
      rw [← hA]
      refine thnF h6 fun _ s7 ⟨x, H7, I7, r7, y7, st7, n7⟩ => ?_
      have I7' := I7.pinned (hfp _ _ _ I7 n7) (T.obj _ _ st7)
      refine seg_bind_wrap ?_
      rw [← hA]
      have hx := pg.run _ s7 _ H7 x u _ I7' r7 (step x H7 y7)
      rw [hxe] at hx
      refine thnF hx fun _ s8 ⟨σ8, H8, I8, hw8, q8⟩ => ?_
      refine seg_bind_wrap ?_
      rw [← hA]
      have hy := pt.run _ s8 σ8 H8 _ I8 q8
      rw [hxe] at hy
      refine thnF hy fun b s9 ⟨H9, I9, q9⟩ => ?_
      -- the turn's end
      have fin : ∀ {s' : Shared} {H' : Hp}, Inv Xg ([] ++ pinsAt fp s7.heap) σ8 H' s' → Inv Xg [] (L2.wipe σ own) H' s' ∧ tn (i + 1) s'.heap ∧ ∀ b ∈ fp, H' b = none := fun {s' H'} I' => by
        have pin' : ∀ b ∈ fp, ∀ o, s7.heap.get? b = some o → s'.heap.get? b = some o ∧ H' b = none := fun b hb o e =>
          let z := I'.pin (b, o) (List.mem_append_right _ (List.mem_append_right _ (mem_pinsAt hb e)))
          ⟨z.1, z.2.1⟩
        have hl : (L2.wipe σ own).length = σ8.length := by rw [← hw8, L2.wipe_length]
        refine ⟨(I'.unpinned (pins := [])).weak hl (fun j v e => ?_), T.keep _ _ _ st7 fun b hb o e => (pin' b hb o e).1, fun b hb => ?_⟩
        · rw [← hw8] at e
          exact (L2.wipe_some e).1
        · obtain ⟨o, e, _⟩ := T.obj _ _ st7 b hb
          exact (pin' b hb o e).2
      cases b with
      | false =>
        simp only [Bool.false_eq_true, if_false] at q9 ⊢
        obtain ⟨m', hm, w'⟩ := hNx H9 q9
        obtain ⟨I10, st10, n10⟩ := fin I9
        exact seg_again rfl (ih m' hm n (i + 1) s₀ s9 H9 (by omega) I10 st10 n10 w')
      | true =>
        simp only [if_true] at q9 ⊢
        have hyo : ∀ v, yieldOut Xg.env v = yieldValue v := fun v => by simp only [yieldOut, hco, Bool.false_eq_true, if_false]
        simp only [hyo]
        rw [Sem.bind_eq_wrap', Sem.bind_eq_wrap', Sem.wrap_wrap, Sem.wrap_wrap]
        refine seg_wrap ?_
        rw [← hA]
        have hz := pe.run _ s9 σ8 H9 _ I9 q9
        rw [hxe] at hz
        refine thnF hz fun z s10 ⟨yv, H10, I10, r10, k, ek, nx⟩ => ?_
        subst ek
        obtain rfl : z = Value.bool k := r10
        obtain ⟨I11, st11, n11⟩ := fin I10
        obtain ⟨n, rfl⟩ : ∃ n', n = n' + 1 := ⟨n - 1, by omega⟩
        refine seg_at (seg_yield rfl rfl rfl ⟨k, H10, rfl, I11, ?_⟩)
        by_cases hk : k = stop
        · rw [if_pos hk] at nx ⊢
          exact nx
        · rw [if_neg hk] at nx ⊢
          obtain ⟨m', hm, w'⟩ := hNx H10 nx
          intro s'' e1 e2 e3
          exact seg_again rfl (ih m' hm n (i + 1) s'' s'' H10 (by omega) (inv_same I11 e1 e2 e3) (by rw [e1]; exact st11) n11 w')
end

/-! ### any, all over a generator of truth values -/
section
variable {Xg : Cx} {prog : Program} {w : World} {A : Around} {R : Result → Shared → Prop} {a : Addr} {gn : Nat} {σ0 : L2.St} {Q : Bool → Hp → Prop}
theorem setGen_bare {s : Shared} {g : Nat} {x : GenState} (h : AllBare s.gens) (hx : x.bare = true) : AllBare (s.setGen g x).gens := by
  intro y hy
  obtain ⟨i, hi, rfl⟩ := Array.mem_iff_getElem.mp hy
  simp only [Shared.setGen] at hi ⊢
  rw [Array.getElem_setIfInBounds (by simpa using hi)]
  split
  · exact hx
  · exact h _ (Array.getElem_mem (by simpa using hi))
/-- asleep at s, n steps at most from here -/
structure Asleep (Xg : Cx) (A : Around) (a : Addr) (gn : Nat) (σ0 : L2.St) (stop : Bool) (Q : Bool → Hp → Prop) (n : Nat) (s : Shared) : Prop where
  gen : s.heap.IsGen a gn
  lim : s.heap.NoLimit
  go : ∃ gs, s.gens[gn]? = some gs ∧ gs.Goes (model Xg.prog Xg.w) A.in1.in1 (fun n s₀ r s₁ => r = .ok .next ∧ genR Xg σ0 stop Q n s₀ s₁) (genY Xg σ0 stop Q) n (.send .none) (s.setGen gn .running)
/-- what one turn of any, all finds -/
theorem next_gen {stop : Bool} {n : Nat} {s : Shared} {QQ : Option Value → Shared → Prop} {E : Value → Shared → Prop} (hh : A.handled = none) (hroom : A.depth < recursionLimit) (hgk : ∀ (σ : L2.St) (H : Hp) (s' : Shared), Inv Xg [] σ H s' → s'.heap.IsGen a gn)
    (S : Asleep Xg A a gn σ0 stop Q n s) (hsz : gn < s.gens.size)
    (hno : ∀ s' H', Inv Xg [] σ0 H' s' → Q (!stop) H' → QQ none s')
    (hst : ∀ s' H', Inv Xg [] σ0 H' s' → Q stop H' → QQ (some (.bool stop)) s')
    (hon : ∀ s' m, m < n → gn < s'.gens.size → Asleep Xg A a gn σ0 stop Q m s' → QQ (some (.bool (!stop))) s') :
    wpAny (model Xg.prog Xg.w) A.in1 (pyNext (.ref a)) QQ E s := by
  obtain ⟨hg, hl, gs, hgs, hgo⟩ := S
  refine GenW.wpAny_gsz (n := gn + 1) hsz ?_
  refine wpAny_pyNext_genexpQ (A := A.in1) (P := genR Xg σ0 stop Q) hh hl hroom hg hgs hgo (fun v s₁ gs' hb hv => ?_) (fun s₁ hp h' hk => ?_)
  · intro hz
    rw [GenW.setGen_size] at hz
    obtain ⟨k, H', rfl, I, hq⟩ := hv
    have I' : Inv Xg [] σ0 H' (s₁.setGen gn gs') := inv_same I rfl rfl (setGen_bare I.bare hb)
    by_cases hk : k = stop
    · rw [if_pos hk] at hq
      subst hk
      exact hst _ H' I' hq
    · rw [if_neg hk] at hq
      have ek : k = !stop := by cases k <;> cases stop <;> first | rfl | exact absurd rfl hk
      subst ek
      cases n with
      | zero => exact (hq s₁ rfl rfl I.bare).elim
      | succ m =>
        have hlt : gn < s₁.gens.size := hz
        refine hon _ m (Nat.lt_succ_self _) (by rw [GenW.setGen_size]; exact hlt) ⟨hgk _ _ _ I', I'.nolimit, gs', ?_, hq _ rfl rfl (setGen_bare I'.bare rfl)⟩
        simp [Shared.setGen, hlt]
  · intro _
    obtain ⟨H', I, hq⟩ := hp
    refine hno _ H' ?_ hq
    have I1 : Inv Xg [] σ0 H' { s₁ with heap := h' } := I.kept (t' := s₁.toks) hk
    exact inv_same I1 rfl rfl (setGen_bare I.bare rfl)

/-- any's loop -/
theorem any_loop (hh : A.handled = none) (hroom : A.depth < recursionLimit) (hgk : ∀ (σ : L2.St) (H : Hp) (s' : Shared), Inv Xg [] σ H s' → s'.heap.IsGen a gn)
    (hR : ∀ k s' H', Inv Xg [] σ0 H' s' → Q k H' → R (.ok (.ret (.bool k))) s') : ∀ (n : Nat) (s : Shared), gn < s.gens.size → Asleep Xg A a gn σ0 true Q n s → codeAny (model Xg.prog Xg.w) A (.builtin "any.loop" ⟨[.ref a], []⟩) R s := by
  intro n
  induction n using Nat.strongRecOn with
  | ind n ih =>
    intro s hsz S
    refine codeAny_builtin F.entry_any_loop ?_
    rw [Around.under_plainId F.plain_any_loop _]
    show wpAny _ A.in1 (pyNext (.ref a) >>= _) _ _ s
    refine wpAny_bind (next_gen hh hroom hgk S hsz (fun s' H' I q => ?_) (fun s' H' I q => ?_) fun s' m hm hz S' => ?_)
    · exact wpAny_bind (wpAny_rule (wpAny_pure (hR false s' H' I q)))
    · refine wpAny_bind (wpAny_holding (wpAny_truthy_bool ?_))
      refine wpAny_bind (wpAny_letGo ?_)
      simp only [if_true]
      exact wpAny_bind (wpAny_rule (wpAny_pure (hR true s' H' I q)))
    · refine wpAny_bind (wpAny_holding (wpAny_truthy_bool ?_))
      refine wpAny_bind (wpAny_letGo ?_)
      simp only [Bool.not_true, Bool.false_eq_true, if_false]
      exact wpAny_pure ⟨plainId_quiet F.plain_any_loop _, ih m hm s' hz S'⟩
theorem all_loop (hh : A.handled = none) (hroom : A.depth < recursionLimit) (hgk : ∀ (σ : L2.St) (H : Hp) (s' : Shared), Inv Xg [] σ H s' → s'.heap.IsGen a gn)
    (hR : ∀ k s' H', Inv Xg [] σ0 H' s' → Q k H' → R (.ok (.ret (.bool k))) s') : ∀ (n : Nat) (s : Shared), gn < s.gens.size → Asleep Xg A a gn σ0 false Q n s → codeAny (model Xg.prog Xg.w) A (.builtin "all.loop" ⟨[.ref a], []⟩) R s := by
  intro n
  induction n using Nat.strongRecOn with
  | ind n ih =>
    intro s hsz S
    refine codeAny_builtin F.entry_all_loop ?_
    rw [Around.under_plainId F.plain_all_loop _]
    show wpAny _ A.in1 (pyNext (.ref a) >>= _) _ _ s
    refine wpAny_bind (next_gen hh hroom hgk S hsz (fun s' H' I q => ?_) (fun s' H' I q => ?_) fun s' m hm hz S' => ?_)
    · exact wpAny_bind (wpAny_rule (wpAny_pure (hR true s' H' I q)))
    · refine wpAny_bind (wpAny_holding (wpAny_truthy_bool ?_))
      refine wpAny_bind (wpAny_letGo ?_)
      simp only [Bool.false_eq_true, if_false]
      exact wpAny_bind (wpAny_rule (wpAny_pure (hR false s' H' I q)))
    · refine wpAny_bind (wpAny_holding (wpAny_truthy_bool ?_))
      refine wpAny_bind (wpAny_letGo ?_)
      simp only [Bool.not_false, if_true]
      exact wpAny_pure ⟨plainId_quiet F.plain_all_loop _, ih m hm s' hz S'⟩
end
end Ev
end
section
set_option maxRecDepth 100000
set_option maxHeartbeats 2000000
/-! any, all of a generator expression: the rules. -/
namespace Ev
open PySem PySem.Spec PyProof.Rows L2
open PySem.W (Frag)

/-- the heap behind the making of a code object -/
structure Grown (T : Tx) (H H' : Hp) : Prop where
  keep : ∀ a o, H a = some o → (∀ ps, o ≠ .tbl ps) → H' a = some o
  there : ∀ a, H a ≠ none → H' a ≠ none
  tbl : ∀ (P : Addr) (ps : Array Value), H P = some (.tbl ps) → TriplesOk ps.toList → ∃ ps' : Array Value, H' P = some (.tbl ps') ∧ TriplesOk ps'.toList
  tab : ∀ t ∈ T.tab, TbOk H t → TbOk H' t
theorem Grown.refl (T : Tx) (H : Hp) : Grown T H H := ⟨fun _ _ h _ => h, fun _ h => h, fun _ ps h g => ⟨ps, h, g⟩, fun _ _ h => h⟩
/-- what is known of the new frame's code -/
def CondC (n : Nat) (H : Hp) (code : Value) : Prop := match n with
  | 0 => True
  | m + 1 => ∃ c P, code = .ref c ∧ H c = some (CodeG c P) ∧ TabG m H P [] ⟨#[]⟩
structure BmAt (base : Heap) (mg : Str → Option Value) : Prop where
  ok : ∃ (bm : Addr) (ob : Obj), mg "__builtins__" = some (.ref bm) ∧ bm ≠ builtinsNs ∧ base.get? bm = some ob ∧ ob.cls = .type "module" ∧ ob.dict = some builtinsNs ∧ ob.data = .plain

section
variable {X : Cx} {pins : List (Addr × Obj)} {σ : L2.St} {H : Hp} {s : Shared}
/-- the table's object has grown; the code object at c, its table at P' are new and known from now on; all else is kept -/
theorem inv_gtab {P c P' : Addr} {ps more : Array Value} {h' : Heap} {t' : Nat} (I : Inv X pins σ H s) (hP : H P = some (.tbl ps)) (k : ∀ b o, b ≠ P → s.heap.get? b = some o → h'.get? b = some o)
    (hm : h'.get? P = some { cls := .none, data := .fields (ps ++ more) }) (hc : s.heap.objs.size ≤ c) (hP' : s.heap.objs.size ≤ P') (hne : c ≠ P') (hco : PySem.W.CodeHd h' c P') (ht : h'.get? P' = some { cls := .none, data := .fields #[] }) :
    Inv X pins σ (upd (upd (upd H P (.tbl (ps ++ more))) c (CodeG c P')) P' (.tbl #[])) { s with heap := h', toks := t' } := by
  have nC : H c = none := I.hok.fresh hc
  have nP' : H P' = none := I.hok.fresh hP'
  have nPc : P ≠ c := ne_of_none hP nC
  have nPP : P ≠ P' := ne_of_none hP nP'
  generalize hG : upd (upd (upd H P (.tbl (ps ++ more))) c (CodeG c P')) P' (.tbl #[]) = G
  have at_ : ∀ b, b ≠ P → b ≠ c → b ≠ P' → G b = H b := fun b h1 h2 h3 => by rw [← hG, upd_ne h3, upd_ne h2, upd_ne h1]
  have atP : G P = some (.tbl (ps ++ more)) := by rw [← hG, upd_ne nPP, upd_ne nPc, upd_same]
  have atC : G c = some (CodeG c P') := by rw [← hG, upd_ne hne, upd_same]
  have atQ : G P' = some (.tbl #[]) := by rw [← hG, upd_same]
  have nP : ∀ b u, H b = some u → (∀ q, u ≠ .tbl q) → b ≠ P := fun b u e q z => by
    rw [z, hP] at e
    exact q ps (Option.some.inj e).symm
  have nN : ∀ b, H b = none → b ≠ P := fun b e z => by
    rw [z, hP] at e
    cases e
  have lt' : ∀ b o, s.heap.get? b = some o → b ≠ c ∧ b ≠ P' := fun b o e => ⟨fun z => by
    rw [z] at e
    exact Nat.lt_irrefl _ (Nat.lt_of_lt_of_le (Heap.lt_size e) hc), fun z => by
    rw [z] at e
    exact Nat.lt_irrefl _ (Nat.lt_of_lt_of_le (Heap.lt_size e) hP')⟩
  have sm : ∀ b u, H b = some u → b ≠ c ∧ b ≠ P' := fun b u e => ⟨ne_of_none e nC, ne_of_none e nP'⟩
  refine I.step (g' := s.gens) (d' := s.drawn) (ch := []) (fun b hb => absurd hb (by simp)) (fun b o _ _ _ e n => k b o (nN b n) e) (fun b o _ _ _ e n => ⟨o.slots, k b o (nN b n) e⟩)
    (fun b o _ e n => by rw [at_ b (nN b n) (lt' b o e).1 (lt' b o e).2]; exact n) (fun b o _ e => ?_) (fun b xs e => by rw [at_ b (nP b _ e (fun q z => by cases z)) (sm b _ e).1 (sm b _ e).2]; exact e) (fun b o u e => by rw [at_ b (nP b _ e (fun q z => by cases z)) (sm b _ e).1 (sm b _ e).2]; exact e) (fun b qs e => ?_) (fun m hn => ?_) (fun b u e => ?_) I.bare
  · by_cases hb : b = P
    · rw [hb]
      exact ⟨_, hm⟩
    · exact ⟨o, k b o hb e⟩
  · by_cases hb : b = P
    · rw [hb, hP] at e
      cases e
      rw [hb, atP]
      exact ⟨more, rfl⟩
    · rw [at_ b hb (sm b _ e).1 (sm b _ e).2, e]
      exact ⟨#[], by simp⟩
  · obtain ⟨ob, es, ep, ho, r⟩ := hn
    exact ⟨ob, es, ep, k _ ob (nN _ I.free) ho, r⟩
  · by_cases hb : b = c
    · rw [hb, atC] at e
      cases e
      rw [hb]
      obtain ⟨oc, vs, file, tf, flags, tg, inF, text, tt, e1, r⟩ := hco
      exact ⟨⟨oc, vs, file, tf, flags, tg, inF, text, tt, e1, r⟩, ⟨oc, e1⟩, fun h1 h2 ⟨oc, vs, file, tf, flags, tg, inF, text, tt, e1, r⟩ st => ⟨oc, vs, file, tf, flags, tg, inF, text, tt, st _ e1, r⟩⟩
    · by_cases hb3 : b = P'
      · rw [hb3, atQ] at e
        cases e
        rw [hb3]
        exact ht
      · by_cases hb2 : b = P
        · rw [hb2, atP] at e
          cases e
          rw [hb2]
          exact hm
        · rw [at_ b hb2 hb hb3] at e
          refine (I.hok b u e).stay (fun d v hd q => k d v ?_ q) (fun d q => by rw [at_ d (nP d _ q (fun q z => by cases z)) (sm d _ q).1 (sm d _ q).2]; exact q) fun d xs q => by rw [at_ d (nP d _ q (fun q z => by cases z)) (sm d _ q).1 (sm d _ q).2]; exact q
          rcases hd with z | z
          · rw [z]
            exact hb2
          · exact nP d _ z (fun q z => by cases z)
theorem among_app {pos p' : Pos} {c cv : Value} (l : List Value) (h : TriplesOk l) (hc : codeAmong p' (l ++ [rawInt pos.line, rawInt pos.col, c]) = some cv) : codeAmong p' l = some cv ∨ (cv = c ∧ p'.line = pos.line ∧ p'.col = pos.col) := by
  fun_induction TriplesOk l with
  | case1 =>
    simp only [List.nil_append, rawInt, codeAmong] at hc
    split at hc
    · rename_i q
      have q' : (pos.line : Int) = p'.line ∧ (pos.col : Int) = p'.col := by simpa using q
      exact .inr ⟨(Option.some.inj hc).symm, by omega, by omega⟩
    · cases hc
  | case2 a t b u x rest ih =>
    simp only [List.cons_append, codeAmong] at hc ⊢
    split at hc
    · rename_i q
      rw [if_pos q]
      exact .inl hc
    · rename_i q
      rw [if_neg q]
      exact ih h hc
  | case3 l h1 h2 => exact h.elim
/-- what stands behind the making of a generator's code object -/
theorem grown_new {T : Tx} {P c P' : Addr} {ps : Array Value} {gpos : Pos} (hP : H P = some (.tbl ps)) (ht : TriplesOk ps.toList) (nC : H c = none) (nP' : H P' = none) (hne : c ≠ P') (hls : ∀ t ∈ T.tab, (gpos.line, gpos.col) ∉ t.ls) (hn : ∀ t ∈ T.tab, t.n ≤ 1) :
    Grown T H (upd (upd (upd H P (.tbl (ps ++ #[rawInt gpos.line, rawInt gpos.col, .ref c]))) c (CodeG c P')) P' (.tbl #[])) := by
  generalize hG : upd (upd (upd H P (.tbl (ps ++ #[rawInt gpos.line, rawInt gpos.col, .ref c]))) c (CodeG c P')) P' (.tbl #[]) = G
  have nPc : P ≠ c := ne_of_none hP nC
  have nPP : P ≠ P' := ne_of_none hP nP'
  have at_ : ∀ b, b ≠ P → b ≠ c → b ≠ P' → G b = H b := fun b h1 h2 h3 => by rw [← hG, upd_ne h3, upd_ne h2, upd_ne h1]
  have atP : G P = some (.tbl (ps ++ #[rawInt gpos.line, rawInt gpos.col, .ref c])) := by rw [← hG, upd_ne nPP, upd_ne nPc, upd_same]
  have atC : G c = some (CodeG c P') := by rw [← hG, upd_ne hne, upd_same]
  have atQ : G P' = some (.tbl #[]) := by rw [← hG, upd_same]
  have eL : (ps ++ #[rawInt gpos.line, rawInt gpos.col, .ref c]).toList = ps.toList ++ [rawInt gpos.line, rawInt gpos.col, .ref c] := by simp
  have tr : TriplesOk (ps ++ #[rawInt gpos.line, rawInt gpos.col, .ref c]).toList := by rw [eL]; exact PySem.TriplesOk_snoc _ _ _ _ ht
  have kp : ∀ a o, H a = some o → (∀ ps, o ≠ .tbl ps) → G a = some o := fun a o e n => by
    rw [at_ a (fun z => n ps (Option.some.inj (e.symm.trans (by rw [z]; exact hP)))) (ne_of_none e nC) (ne_of_none e nP')]; exact e
  have tb : ∀ (Q : Addr) (qs : Array Value), H Q = some (.tbl qs) → TriplesOk qs.toList → ∃ qs' : Array Value, G Q = some (.tbl qs') ∧ TriplesOk qs'.toList := fun Q qs e g => by
    by_cases hQ : Q = P
    · subst hQ
      rw [hP] at e; cases e
      exact ⟨_, atP, tr⟩
    · exact ⟨qs, by rw [at_ Q hQ (ne_of_none e nC) (ne_of_none e nP')]; exact e, g⟩
  refine ⟨kp, fun a h => ?_, tb, fun t hT hO => ⟨?_, fun c' e => kp _ _ (hO.2 c' e) codeG_ne⟩⟩
  · by_cases h1 : a = P'
    · rw [h1, atQ]; exact fun z => by cases z
    · by_cases h2 : a = c
      · rw [h2, atC]; exact fun z => by cases z
      · by_cases h3 : a = P
        · rw [h3, atP]; exact fun z => by cases z
        · rw [at_ a h3 h2 h1]; exact h
  · have h1 := hn t hT
    have h2 := hls t hT
    have hO := hO.1
    revert hO
    generalize t.n = n at h1
    intro hO
    match n, h1, hO with
    | 0, _, ⟨qs, e, g⟩ => exact tb _ _ e g
    | 1, _, ⟨qs, e, g, f⟩ =>
      have old : ∀ (pos : Pos) (cv : Value), codeAmong pos qs.toList = some cv → ∃ c, cv = .ref c ∧ (((pos.line, pos.col) ∈ t.ls ∧ G c = some (LamX.CodeO c t.q)) ∨ ((pos.line, pos.col) ∉ t.ls ∧ ∃ P', G c = some (CodeG c P') ∧ TabG 0 G P' [] ⟨#[]⟩)) := fun pos cv hc => by
        obtain ⟨c2, e1, e2⟩ := f pos cv hc
        refine ⟨c2, e1, ?_⟩
        rcases e2 with ⟨g1, g2⟩ | ⟨g1, P2, g2, qs2, g3, g4⟩
        · exact .inl ⟨g1, kp _ _ g2 LamX.codeO_ne⟩
        · exact .inr ⟨g1, P2, kp _ _ g2 codeG_ne, tb _ _ g3 g4⟩
      by_cases hQ : t.P = P
      · rw [hQ, hP] at e; cases e
        refine ⟨_, by rw [hQ]; exact atP, tr, fun pos cv hc => ?_⟩
        rw [eL] at hc
        rcases among_app _ ht hc with z | ⟨z1, z2, z3⟩
        · exact old pos cv z
        · refine ⟨c, z1, .inr ⟨by rw [z2, z3]; exact h2, P', atC, #[], atQ, True.intro⟩⟩
      · exact ⟨qs, by rw [at_ _ hQ (ne_of_none e nC) (ne_of_none e nP')]; exact e, g, old⟩

/-! ### the rules -/
/-- the running def's code object: its table t -/
structure CodeAt (X : Cx) (t : Tb) (cd : Addr) : Prop where
  code : X.env.code = .ref cd
  hd : t.cd = some cd ∨ PySem.W.CodeHd X.base cd t.P
  bm : BmAt X.base X.mg
theorem CodeAt.at {t : Tb} {cd : Addr} (C : CodeAt X t cd) (I : Inv X pins σ H s) (h : TbOk H t) : PySem.W.CodeHd s.heap cd t.P := by
  rcases C.hd with e | e
  · obtain ⟨q, _, _⟩ := I.hok cd _ (h.2 cd e)
    exact q
  · exact e.keeps I.bk
/-- any, all of a generator expression over what wi tells -/
def tAnyG (T : Tx) (t : Tb) (stop : Bool) (wi : TI) (g : Value → TG) (tt : Value → TT) (te : Value → TE) (vs : List Nat) : TE := fun σ H Q => wi σ H fun J H1 => TbOk H1 t ∧ ∀ (code : Value) (H2 : Hp), Grown T H1 H2 → CondC t.n H2 code →
  tGenL stop J (g code) (tt code) (te code) vs σ (fun k H => Q (.bl k) H) H2
/-- ready to be walked -/
theorem gen_ready {T : Tx} {t : Tb} {cd : Addr} {stop : Bool} {tg iter elt : Expr} {ifs : List Expr} {scope : Scope} {own : List (Str × Nat)} {gpos : Pos} {wi : TI} {g : Value → TG} {tt : Value → TT} {te : Value → TE} {k : Nat} {Q : VK} {QQ : Value → Shared → Prop}
    (hc : X.calm = true) (hN : X.N.Nodup) (hdot : (".0" : Str) ∉ X.N) (hr : Room (k + 1) X.A) (I : Inv X pins σ H s) (C : CodeAt X t cd) (hls : ∀ t ∈ T.tab, (gpos.line, gpos.col) ∉ t.ls) (hn : ∀ t ∈ T.tab, t.n ≤ 1) (htn : t.n = 1 → (gpos.line, gpos.col) ∉ t.ls) (hn1 : t.n ≤ 1)
    (hi : PI X tg iter wi) (ok : GenSc X.N X.env.scope scope own)
    (hg : ∀ (A : Around) (s : Shared) (H : Hp) (code : Value) (fp : List Addr) (pn : List (Addr × Obj)), Room k A → PG (genCx X A s H scope code fp pn) tg (g code))
    (ht : ∀ (A : Around) (s : Shared) (H : Hp) (code : Value) (fp : List Addr) (pn : List (Addr × Obj)), Room k A → PTs (genCx X A s H scope code fp pn) ifs (tt code))
    (he : ∀ (A : Around) (s : Shared) (H : Hp) (code : Value) (fp : List Addr) (pn : List (Addr × Obj)), Room k A → PE (genCx X A s H scope code fp pn) elt (te code))
    (hs : ∀ v, genFold iter X.env v = pure v) (h : tAnyG T t stop wi g tt te (own.map (·.2)) σ H Q)
    (hQ : ∀ (Xg : Cx) (a : Addr) (gn n : Nat) (s' : Shared), Xg.prog = X.prog → Xg.w = X.w → gn < s'.gens.size → (∀ (σ : L2.St) (H : Hp) (s' : Shared), Inv Xg [] σ H s' → s'.heap.IsGen a gn) → s'.heap.IsGen a gn →
      (∀ k s' H', Inv Xg [] (L2.wipe σ (own.map (·.2))) H' s' → Q (.bl k) H' → EP X pins σ Q (.bool k) s') →
      Asleep Xg X.A a gn (L2.wipe σ (own.map (·.2))) stop (fun k H => Q (.bl k) H) n s' → QQ (.ref a) s') :
    wpAny (model X.prog X.w) X.A (eval (.GeneratorExp elt [⟨tg, iter, ifs, 0⟩] scope gpos) X.env) QQ X.xe s := by
  have hfree : ∀ y ∈ scope.names, y.2 = .free → ∃ c, X.env.cells.lookup y.1 = some c := fun y hy e => by
    rcases ok.free y hy e with k | k
    · exact I.ok.has _ (.inl k)
    · exact I.ok.has _ (.inr k)
  have hh : X.A.handled = none := I.ok.hd hc
  refine wpAny_GeneratorExp_make ok.co (closure_ok hfree) ok.nocell ok.dot ok.kind hr.depth ?_ hs
  refine thn (hi.run pins s σ H _ I h) fun xv s1 hx => thn hx fun itv s2 h2 => ?_
  obtain ⟨it, fp, tn, J, H2, e, I2, T0, st2, f2, ⟨hT, q⟩⟩ := h2
  subst e
  refine ⟨I2.nolimit, ?_⟩
  obtain ⟨ps, hP, htr⟩ := hT.1.good
  have hPs : s2.heap.get? t.P = some { cls := .none, data := .fields ps } := I2.hok t.P _ hP
  have cdh := C.at I2 hT
  -- behind the code object
  have cont : ∀ (code : Value) (s3 : Shared) (H3 : Hp), Inv X pins σ H3 s3 → Grown T H2 H3 → CondC t.n H3 code → (∀ b o, b ≠ t.P → s2.heap.get? b = some o → s3.heap.get? b = some o) → s2.heap.objs.size ≤ s3.heap.objs.size → (∀ b, b < s2.heap.objs.size → H2 b = none → H3 b = none) →
      wpAny (model X.prog X.w) X.A (builtinsFor X.env.globals X.env.builtins) (fun bi s₄ =>
        ∀ h', h'.Ns s₄.heap.objs.size (fun y => if y = ".0" then some (.ref it) else none) → Heap.SameBut s₄.heap.objs.size (s₄.heap.push { cls := .type "frame", data := .dict #[] }) h' →
          QQ (.ref h'.objs.size) { s₄ with
            gens := s₄.gens.push (.fresh (.compStart (.GeneratorExp elt [⟨tg, iter, ifs, 0⟩] scope gpos) 0 (.ref it) .none (genEnv scope (cloFrom X.env.cells scope.names []) s₄.heap.objs.size code bi X.env))),
            toks := s₄.toks + 1 + 1 + 1,
            heap := h'.push { cls := .type "generator", data := .fields #[.int s₄.gens.size 0, .str "<genexpr>" (s₄.toks + 1), .str (X.env.qual ++ "<genexpr>") (s₄.toks + 1 + 1)] } }) X.xe s3 := by
    intro code s3 H3 I3 hG hC kp3 sz3 fr3
    obtain ⟨bm, ob, e1, e2, e5, e6, e7, e8⟩ := C.bm.ok
    refine wpAny_builtinsFor (m := X.mg) (by rw [I3.ok.glob]; exact I3.mod.glob.keeps I3.bk) e1 e2 (I3.bk _ _ e5) e6 e7 e8 ?_
    intro h' hn' hs'
    have fsz : ∀ b ∈ fp, b < s2.heap.objs.size := fun b hb => by
      obtain ⟨o, e, _⟩ := T0.obj _ _ st2 b hb
      exact Heap.lt_size e
    have fP : ∀ b ∈ fp, b ≠ t.P := fun b hb z => by
      have := (f2 b hb).1
      rw [z, hP] at this; cases this
    have f3 : ∀ b ∈ fp, FpOk X pins H3 b ∧ b < s3.heap.objs.size := fun b hb => ⟨⟨fr3 b (fsz b hb) (f2 b hb).1, (f2 b hb).2⟩, Nat.lt_of_lt_of_le (fsz b hb) sz3⟩
    have hsz : h'.objs.size = s3.heap.objs.size + 1 := by rw [hs'.1, Heap.size_push]
    have keep' : ∀ b o, s3.heap.get? b = some o → h'.get? b = some o := fun b o e => hs'.extBut b o (Nat.ne_of_lt (Heap.lt_size e)) (Heap.get?_push_of_some _ e)
    generalize hgo : ({ cls := .type "generator", data := .fields #[.int s3.gens.size 0, .str "<genexpr>" (s3.toks + 1), .str (X.env.qual ++ "<genexpr>") (s3.toks + 1 + 1)] } : Obj) = go
    have ga : (h'.push go).get? h'.objs.size = some go := Heap.get?_push_size _ (by subst hgo; rfl)
    have gi : ∀ h : Heap, h.get? h'.objs.size = some go → h.IsGen h'.objs.size s3.gens.size := fun h e => ⟨go, _, _, e, by rw [← hgo], by rw [← hgo], by rw [← hgo]⟩
    generalize hcl : Code.compLoop (.GeneratorExp elt [⟨tg, iter, ifs, 0⟩] scope gpos) 0 (.ref it) .none (geEnv X s3 scope code) = cl
    have hAh : (genA X cl).handled = none := hh
    have hAf : (genA X cl).frames = some (geEnv X s3 scope code :: X.stack) := by
      rw [← hcl]
      have e0 : (genA X (.compLoop (.GeneratorExp elt [⟨tg, iter, ifs, 0⟩] scope gpos) 0 (.ref it) .none (geEnv X s3 scope code))).frames = X.A.frames.map ([geEnv X s3 scope code] ++ ·) := rfl
      rw [e0, I3.ok.frames]
      rfl
    have hAr : Room k (genA X cl) := by
      rw [← hcl]
      refine ⟨hh, ?_, ?_⟩
      · have := hr.dp
        show X.A.depth + 0 + 1 + 3 * k + 5 < _
        omega
      · have := hr.un
        show X.A.units + 1 + 1 + 0 + 3 + 16 * k + 200 < _
        omega
    have I4 := gen_start (A := genA X cl) (scope := scope) (code := code) (go := go) (a := h'.objs.size) (h' := h'.push go) (g' := s3.gens.push (.fresh (.compStart (.GeneratorExp elt [⟨tg, iter, ifs, 0⟩] scope gpos) 0 (.ref it) .none (geEnv X s3 scope code)))) (t' := s3.toks + 1 + 1 + 1)
      I3 ok hN f3 hAh hAf (fun b o e => Heap.get?_push_of_some _ (keep' b o e)) (hn'.push _) hdot ga (fun v => by rw [← hgo]; exact fun z => by cases z) (by rw [hsz]; exact Nat.lt_succ_self _) (I3.bare.push rfl)
    generalize hs4 : ({ s3 with gens := s3.gens.push (.fresh (.compStart (.GeneratorExp elt [⟨tg, iter, ifs, 0⟩] scope gpos) 0 (.ref it) .none (geEnv X s3 scope code))), toks := s3.toks + 1 + 1 + 1, heap := h'.push go } : Shared) = s4 at I4
    have st4 : tn 0 s4.heap := by
      rw [← hs4]
      exact T0.keep _ _ _ st2 fun b hb o e => Heap.get?_push_of_some _ (keep' b o (kp3 b o (fP b hb) e))
    obtain ⟨W, ⟨m0, w0⟩, turn⟩ := q code H3 hG hC
    have hgk : ∀ (σ : L2.St) (H : Hp) (s' : Shared), Inv (genCx X (genA X cl) s3 H3 scope code fp [(h'.objs.size, go)]) [] σ H s' → s'.heap.IsGen h'.objs.size s3.gens.size := fun σ H s' J => gi _ (J.pin (h'.objs.size, go) (List.mem_append_left _ (List.mem_singleton.mpr rfl))).1
    have hfp : ∀ (σ' : L2.St) (H' : Hp) (s' : Shared), Inv (genCx X (genA X cl) s3 H3 scope code fp [(h'.objs.size, go)]) [] σ' H' s' → (∀ b ∈ fp, H' b = none) → ∀ b ∈ fp, FpOk (genCx X (genA X cl) s3 H3 scope code fp [(h'.objs.size, go)]) [] H' b := fun σ' H' s' J hn b hb =>
      ⟨hn b hb, (J.ok.exf b hb).1, J.ok.exfs b hb, .inl hb, fun x c e => (J.ok.exf b hb).2 x c e, fun p hp z => by
        rcases List.mem_append.mp hp with hp | hp
        · rw [List.mem_singleton.mp hp] at z
          have h1 := (f3 b hb).2
          have z : h'.objs.size = b := z
          rw [← z, hsz] at h1
          exact absurd (Nat.lt_trans (Nat.lt_succ_self _) h1) (Nat.lt_irrefl _)
        · cases hp⟩
    refine hQ (genCx X (genA X cl) s3 H3 scope code fp [(h'.objs.size, go)]) h'.objs.size s3.gens.size (m0 + 1) s4 rfl rfl (by rw [← hs4]; simp) hgk (hgk _ _ _ I4) (fun kk s' H' J hq => ?_) ⟨hgk _ _ _ I4, I4.nolimit, .fresh (.compStart (.GeneratorExp elt [⟨tg, iter, ifs, 0⟩] scope gpos) 0 (.ref it) .none (geEnv X s3 scope code)), by rw [← hs4]; exact Array.getElem?_push_size .., rfl, ?_⟩
    · have J' : Inv X pins σ H' s' := I3.call' (ch := fp) J.os J.base J.hok J.bare fun b hb => ⟨(f3 b hb).1.2.2.2.1, (f3 b hb).1.2.1, (f3 b hb).1.2.2.2.2.1, (f3 b hb).1.2.2.2.2.2⟩
      exact ⟨.bl kk, H', J', rfl, hq⟩
    · have I5 := inv_same (s' := s4.setGen s3.gens.size .running) I4 rfl rfl (setGen_bare I4.bare rfl)
      have loop := gen_seg (Xg := genCx X (genA X cl) s3 H3 scope code fp [(h'.objs.size, go)]) (A0 := X.A.in1.in1) (own := own.map (·.2)) (σ := σ) (pos := gpos) (scope := scope) (it := it) (stop := stop) (Q := fun k H => Q (.bl k) H) (W := W) (by rw [← hcl] <;> rfl) ok.co rfl rfl T0 hfp (hg _ _ _ _ _ _ hAr) (ht _ _ _ _ _ _ hAr) (he _ _ _ _ _ _ hAr) turn
        m0 (m0 + 1) 0 (s4.setGen s3.gens.size .running) (s4.setGen s3.gens.size .running) H3 (Nat.lt_succ_self _) I5 st4 (fun b hb => (f3 b hb).1.1) w0
      show Seg _ X.A.in1.in1 _ _ _ _ _ ((compStart (.GeneratorExp elt [⟨tg, iter, ifs, 0⟩] scope gpos) 0 (.ref it) .none (geEnv X s3 scope code)).onRaise (leaving (geEnv X s3 scope code))) [] _
      unfold compStart
      rw [Sem.onRaise_eq_wrap]
      show Seg _ _ _ _ _ _ _ ((ask >>= _).wrap _ _ _ _) [] _
      refine seg_bind_wrap (wpAny_askSetting ?_)
      split
      · exact seg_again rfl loop
      · first
          | exact seg_bind_wrap (wpAny_rule (seg_bind_wrap (wpAny_standAt (seg_bind_wrap (T0.self _ 0 _ _ _ st4 (seg_again rfl loop))))))
          | (refine seg_bind_wrap (wpAny_rule ?_); show Seg _ _ _ _ _ _ _ ((standAt iter.pos >>= _).wrap _ _ _ _) [] _; exact seg_bind_wrap (wpAny_standAt (seg_bind_wrap (T0.self _ 0 _ _ _ st4 (seg_again rfl loop)))))
  cases hf : codeAmong gpos ps.toList with
  | none =>
    refine wpAny_genexprCodeX C.code (cdh.code hPs htr) (cdh.tab hPs) hf fun c' h' tk hx hge hlt hco' hrec htab' hnew => ?_
    obtain ⟨P', hP', hcc, htt⟩ := hnew
    have nC : H2 c' = none := I2.hok.fresh hge
    have nP' : H2 P' = none := I2.hok.fresh hP'
    have hne : c' ≠ P' := by
      obtain ⟨_, _, _, _, _, _, _, _, _, _, _, _, _, _, _, _, _, _, _, _, z⟩ := hcc
      exact z
    have I3 := inv_gtab (t' := tk) (more := #[rawInt gpos.line, rawInt gpos.col, .ref c']) (h' := h') I2 hP (fun b o hb e => hx b o hb e) htab'.2 hge hP' hne (.of hcc htt) htt.2
    have hG := grown_new (T := T) (gpos := gpos) hP htr nC nP' hne hls hn
    refine cont _ _ _ I3 hG ?_ (fun b o hb e => hx b o hb e) (Nat.le_trans hge (Nat.le_of_lt hlt)) fun b hb hn => ?_
    · revert hn1
      generalize t.n = n
      intro hn1
      match n, hn1 with
      | 0, _ => exact True.intro
      | 1, _ => exact ⟨c', P', rfl, by rw [upd_ne hne, upd_same], #[], upd_same, True.intro⟩
    · rw [upd_ne (show b ≠ P' from fun z => absurd (z ▸ hb) (Nat.not_lt.mpr hP')), upd_ne (show b ≠ c' from fun z => absurd (z ▸ hb) (Nat.not_lt.mpr hge)), upd_ne (show b ≠ t.P from fun z => by rw [z, hP] at hn; cases hn)]
      exact hn
  | some cv =>
    refine wpAny_genexprCode_hit C.code (cdh.code hPs htr) hf ?_
    refine cont cv s2 H2 I2 (Grown.refl _ _) ?_ (fun _ _ _ e => e) (Nat.le_refl _) fun _ _ h => h
    have hT1 := hT.1
    revert hn1 htn hT1
    generalize t.n = n
    intro htn hn1 hT1
    match n, hn1, hT1 with
    | 0, _, _ => exact True.intro
    | 1, _, ⟨qs, e, g, f⟩ =>
      rw [hP] at e; cases e
      obtain ⟨c2, e1, e2⟩ := f gpos cv hf
      rcases e2 with ⟨g1, g2⟩ | ⟨g1, P2, g2, g3⟩
      · exact absurd g1 (htn rfl)
      · exact ⟨c2, P2, e1, g2, g3⟩

theorem pe_anyG {T : Tx} {t : Tb} {cd : Addr} {tg iter elt : Expr} {ifs : List Expr} {scope : Scope} {own : List (Str × Nat)} {gpos p pos : Pos} {wi : TI} {g : Value → TG} {tt : Value → TT} {te : Value → TE} {k : Nat}
    (hgl : Gl X "any") (hm : X.mg "any" = none)
    (hc : X.calm = true) (hN : X.N.Nodup) (hdot : (".0" : Str) ∉ X.N) (hr : Room (k + 1) X.A) (C : CodeAt X t cd) (hls : ∀ t ∈ T.tab, (gpos.line, gpos.col) ∉ t.ls) (hn : ∀ t ∈ T.tab, t.n ≤ 1) (htn : t.n = 1 → (gpos.line, gpos.col) ∉ t.ls) (hn1 : t.n ≤ 1)
    (hi : PI X tg iter wi) (ok : GenSc X.N X.env.scope scope own)
    (hg : ∀ (A : Around) (s : Shared) (H : Hp) (code : Value) (fp : List Addr) (pn : List (Addr × Obj)), Room k A → PG (genCx X A s H scope code fp pn) tg (g code))
    (ht : ∀ (A : Around) (s : Shared) (H : Hp) (code : Value) (fp : List Addr) (pn : List (Addr × Obj)), Room k A → PTs (genCx X A s H scope code fp pn) ifs (tt code))
    (he : ∀ (A : Around) (s : Shared) (H : Hp) (code : Value) (fp : List Addr) (pn : List (Addr × Obj)), Room k A → PE (genCx X A s H scope code fp pn) elt (te code))
    (hs : ∀ v, genFold iter X.env v = pure v) :
    PE X (.Call (.Name "any" p) [.GeneratorExp elt [⟨tg, iter, ifs, 0⟩] scope gpos] [] pos) (tAnyG T t true wi g tt te (own.map (·.2))) := by
  refine ⟨fun pins s σ H Q I h => ?_⟩
  have he' : starEach [.GeneratorExp elt [⟨tg, iter, ifs, 0⟩] scope gpos] X.env = (false, eval (.GeneratorExp elt [⟨tg, iter, ifs, 0⟩] scope gpos) X.env) :: starEach [] X.env := rfl
  refine wpAny_Call_Name_kw (ld_blt I hgl hm (by decide +kernel : bootBuiltins "any" = some (.builtin "any")) ?_)
  refine PyProof.Rows.callWith_builtin1 ?_ he' (by rfl)
  rw [he']
  show wpAny _ _ (spliced ((false, eval (.GeneratorExp elt [⟨tg, iter, ifs, 0⟩] scope gpos) X.env) :: backTo pos (starEach [] X.env))) _ _ s
  refine Calls.spliced_cons (gen_ready hc hN hdot hr I C hls hn htn hn1 hi ok hg ht he hs h fun Xg a gn n s' e1 e2 hsz hgk hgi hfin S => ?_)
  refine Calls.spliced_nil ?_
  refine call_function_tree F.kind_any F.plain_any F.entry_any (F.args_any1 _) ?_
  unfold Builtin.«any»
  refine wpAny_bind (m := oneArg "any" _) (wpAny_pure ?_)
  refine wpAny_bind (wpAny_pyIter_gen hgi ?_)
  rw [← e1, ← e2]
  exact wpAny_pure ⟨plainId_quiet F.plain_any_loop _, any_loop (I.ok.hd hc) hr.depth hgk hfin n s' hsz S⟩

theorem pe_allG {T : Tx} {t : Tb} {cd : Addr} {tg iter elt : Expr} {ifs : List Expr} {scope : Scope} {own : List (Str × Nat)} {gpos p pos : Pos} {wi : TI} {g : Value → TG} {tt : Value → TT} {te : Value → TE} {k : Nat}
    (hgl : Gl X "all") (hm : X.mg "all" = none)
    (hc : X.calm = true) (hN : X.N.Nodup) (hdot : (".0" : Str) ∉ X.N) (hr : Room (k + 1) X.A) (C : CodeAt X t cd) (hls : ∀ t ∈ T.tab, (gpos.line, gpos.col) ∉ t.ls) (hn : ∀ t ∈ T.tab, t.n ≤ 1) (htn : t.n = 1 → (gpos.line, gpos.col) ∉ t.ls) (hn1 : t.n ≤ 1)
    (hi : PI X tg iter wi) (ok : GenSc X.N X.env.scope scope own)
    (hg : ∀ (A : Around) (s : Shared) (H : Hp) (code : Value) (fp : List Addr) (pn : List (Addr × Obj)), Room k A → PG (genCx X A s H scope code fp pn) tg (g code))
    (ht : ∀ (A : Around) (s : Shared) (H : Hp) (code : Value) (fp : List Addr) (pn : List (Addr × Obj)), Room k A → PTs (genCx X A s H scope code fp pn) ifs (tt code))
    (he : ∀ (A : Around) (s : Shared) (H : Hp) (code : Value) (fp : List Addr) (pn : List (Addr × Obj)), Room k A → PE (genCx X A s H scope code fp pn) elt (te code))
    (hs : ∀ v, genFold iter X.env v = pure v) :
    PE X (.Call (.Name "all" p) [.GeneratorExp elt [⟨tg, iter, ifs, 0⟩] scope gpos] [] pos) (tAnyG T t false wi g tt te (own.map (·.2))) := by
  refine ⟨fun pins s σ H Q I h => ?_⟩
  have he' : starEach [.GeneratorExp elt [⟨tg, iter, ifs, 0⟩] scope gpos] X.env = (false, eval (.GeneratorExp elt [⟨tg, iter, ifs, 0⟩] scope gpos) X.env) :: starEach [] X.env := rfl
  refine wpAny_Call_Name_kw (ld_blt I hgl hm (by decide +kernel : bootBuiltins "all" = some (.builtin "all")) ?_)
  refine PyProof.Rows.callWith_builtin1 ?_ he' (by rfl)
  rw [he']
  show wpAny _ _ (spliced ((false, eval (.GeneratorExp elt [⟨tg, iter, ifs, 0⟩] scope gpos) X.env) :: backTo pos (starEach [] X.env))) _ _ s
  refine Calls.spliced_cons (gen_ready hc hN hdot hr I C hls hn htn hn1 hi ok hg ht he hs h fun Xg a gn n s' e1 e2 hsz hgk hgi hfin S => ?_)
  refine Calls.spliced_nil ?_
  refine call_function_tree F.kind_all F.plain_all F.entry_all (F.args_all1 _) ?_
  unfold Builtin.«all»
  refine wpAny_bind (m := oneArg "all" _) (wpAny_pure ?_)
  refine wpAny_bind (wpAny_pyIter_gen hgi ?_)
  rw [← e1, ← e2]
  exact wpAny_pure ⟨plainId_quiet F.plain_all_loop _, all_loop (I.ok.hd hc) hr.depth hgk hfin n s' hsz S⟩
end
end Ev
end
section
set_option maxRecDepth 100000
set_option maxHeartbeats 2000000
/-! A lambda handed to a def that tells exceptions by texts. -/
namespace Ev
open PySem PySem.Spec PyProof.Rows L2
open PySem.W (Frag)
open LamX (CodeO LamS lamCx lamEnv)

section
variable {X : Cx} {pins : List (Addr × Obj)} {σ : L2.St} {H : Hp} {s : Shared}
/-- what stands behind the making of a lambda's code object -/
theorem grown_lam {T : Tx} {P c : Addr} {ps : Array Value} {pos : Pos} {q : Str} (hP : H P = some (.tbl ps)) (ht : TriplesOk ps.toList) (nC : H c = none) (hls : ∀ t ∈ T.tab, t.P = P → t.n = 0 ∨ ((pos.line, pos.col) ∈ t.ls ∧ t.q = q)) (hn : ∀ t ∈ T.tab, t.n ≤ 1) :
    Grown T H (upd (upd H P (.tbl (ps ++ #[rawInt pos.line, rawInt pos.col, .ref c]))) c (CodeO c q)) := by
  generalize hG : upd (upd H P (.tbl (ps ++ #[rawInt pos.line, rawInt pos.col, .ref c]))) c (CodeO c q) = G
  have nPc : P ≠ c := ne_of_none hP nC
  have at_ : ∀ b, b ≠ P → b ≠ c → G b = H b := fun b h1 h2 => by rw [← hG, upd_ne h2, upd_ne h1]
  have atP : G P = some (.tbl (ps ++ #[rawInt pos.line, rawInt pos.col, .ref c])) := by rw [← hG, upd_ne nPc, upd_same]
  have atC : G c = some (CodeO c q) := by rw [← hG, upd_same]
  have eL : (ps ++ #[rawInt pos.line, rawInt pos.col, .ref c]).toList = ps.toList ++ [rawInt pos.line, rawInt pos.col, .ref c] := by simp
  have tr : TriplesOk (ps ++ #[rawInt pos.line, rawInt pos.col, .ref c]).toList := by rw [eL]; exact PySem.TriplesOk_snoc _ _ _ _ ht
  have kp : ∀ a o, H a = some o → (∀ ps, o ≠ .tbl ps) → G a = some o := fun a o e n => by
    rw [at_ a (fun z => n ps (Option.some.inj (e.symm.trans (by rw [z]; exact hP)))) (ne_of_none e nC)]; exact e
  have tb : ∀ (Q : Addr) (qs : Array Value), H Q = some (.tbl qs) → TriplesOk qs.toList → ∃ qs' : Array Value, G Q = some (.tbl qs') ∧ TriplesOk qs'.toList := fun Q qs e g => by
    by_cases hQ : Q = P
    · subst hQ
      rw [hP] at e; cases e
      exact ⟨_, atP, tr⟩
    · exact ⟨qs, by rw [at_ Q hQ (ne_of_none e nC)]; exact e, g⟩
  refine ⟨kp, fun a h => ?_, tb, fun t hT hO => ⟨?_, fun c' e => kp _ _ (hO.2 c' e) codeG_ne⟩⟩
  · by_cases h2 : a = c
    · rw [h2, atC]; exact fun z => by cases z
    · by_cases h3 : a = P
      · rw [h3, atP]; exact fun z => by cases z
      · rw [at_ a h3 h2]; exact h
  · have h1 := hn t hT
    have h2 := hls t hT
    have hO := hO.1
    revert hO h2
    generalize t.n = n at h1
    intro h2 hO
    match n, h1, hO, h2 with
    | 0, _, ⟨qs, e, g⟩, _ => exact tb _ _ e g
    | 1, _, ⟨qs, e, g, f⟩, h2 =>
      have old : ∀ (pos : Pos) (cv : Value), codeAmong pos qs.toList = some cv → ∃ c, cv = .ref c ∧ (((pos.line, pos.col) ∈ t.ls ∧ G c = some (LamX.CodeO c t.q)) ∨ ((pos.line, pos.col) ∉ t.ls ∧ ∃ P', G c = some (CodeG c P') ∧ TabG 0 G P' [] ⟨#[]⟩)) := fun pos cv hc => by
        obtain ⟨c2, e1, e2⟩ := f pos cv hc
        refine ⟨c2, e1, ?_⟩
        rcases e2 with ⟨g1, g2⟩ | ⟨g1, P2, g2, qs2, g3, g4⟩
        · exact .inl ⟨g1, kp _ _ g2 LamX.codeO_ne⟩
        · exact .inr ⟨g1, P2, kp _ _ g2 codeG_ne, tb _ _ g3 g4⟩
      by_cases hQ : t.P = P
      · rcases h2 hQ with z | ⟨h3, h4⟩
        · cases z
        · rw [hQ, hP] at e; cases e
          refine ⟨_, by rw [hQ]; exact atP, tr, fun p' cv hc => ?_⟩
          rw [eL] at hc
          rcases among_app _ ht hc with z | ⟨z1, z2, z3⟩
          · exact old p' cv z
          · exact ⟨c, z1, .inl ⟨by rw [z2, z3]; exact h3, by rw [h4]; exact atC⟩⟩
      · exact ⟨qs, by rw [at_ _ hQ (ne_of_none e nC)]; exact e, g, old⟩
/-- the lambda is made: its code object is new, or found in the table -/
theorem lam_make3 {T : Tx} {t : Tb} {c : Addr} {params : Arguments} {body : Expr} {scope : Scope} {pos : Pos} {E : Value → Shared → Prop} {Q : Value → Shared → Prop} (I : Inv X pins σ H s) (TB : LamX.TabB X.base X.mg c t.P) (hcode : X.env.code = .ref c)
    (htn : t.n = 1) (hpos : (pos.line, pos.col) ∈ t.ls) (hq : t.q = X.env.qual ++ "<lambda>") (hls : ∀ t' ∈ T.tab, t'.P = t.P → t'.n = 0 ∨ ((pos.line, pos.col) ∈ t'.ls ∧ t'.q = t.q)) (hn : ∀ t' ∈ T.tab, t'.n ≤ 1) (hT : TbOk H t)
    (hdef : defaultsOf params X.env = ([], [])) (hfree : ∀ y ∈ scope.names, y.2 = .free → ∃ c, X.env.cells.lookup y.1 = some c)
    (h : ∀ (f c' : Addr) (pm ctv : Value) (H1 : Hp) (s' : Shared), Inv X pins σ H1 s' → Grown T H H1 →
      s'.heap.get? f = some (PySem.W.kla_obj "<lambda>" (X.env.qual ++ "<lambda>") params body scope (cloFrom X.env.cells scope.names []) pm c' ctv) → H1 f = none → f ∉ frs X.stack → H1 c' = some (CodeO c' (X.env.qual ++ "<lambda>")) → Q (.ref f) s') :
    wpAny (model X.prog X.w) X.A (eval (.Lambda params body scope pos) X.env) Q E s := by
  have hT1 := hT.1
  rw [htn] at hT1
  obtain ⟨ps, hP, ht, ha⟩ := hT1
  refine PySem.W.kla_eval hdef ?_
  have bP : s.heap.BuiltinsAt X.mg t.P := TB.bm.keeps I.bk
  have hP' : s.heap.get? t.P = some { cls := .none, data := .fields ps } := I.hok t.P _ hP
  have nofr : ∀ f, s.heap.objs.size ≤ f → f ∉ frs X.stack := fun f hf z => by
    rcases List.mem_cons.mp (I.stkSub _ z) with e | e
    · have h1 := I.lt
      rw [← e] at h1
      exact Nat.lt_irrefl _ (Nat.lt_of_lt_of_le h1 hf)
    · exact I.nofs hf e
  cases hc : codeAmong pos ps.toList with
  | none =>
    refine PySem.W.kla_makeFunction (mg := X.mg) (c := c) (P := t.P) (ps := ps) (closure_ok hfree) I.ok.glob (I.mod.glob.keeps I.bk) hcode (TB.code.keeps I.bk) hP' ht hc TB.gP bP fun c' ctv h' tk hx hge hlt hrec htb => ?_
    obtain ⟨c2, oc, vs, tt, e2, hoc, hd, hv⟩ := hrec
    cases e2
    have hsz : s.heap.objs.size ≤ h'.objs.size := Nat.le_trans hge (Nat.le_of_lt hlt)
    have nC : H c' = none := I.hok.fresh hge
    have I1 := LamX.inv_table (t' := tk) (more := #[rawInt pos.line, rawInt pos.col, .ref c']) (h' := h'.push (PySem.W.kla_obj "<lambda>" (X.env.qual ++ "<lambda>") params body scope (cloFrom X.env.cells scope.names []) ((X.mg "__name__").getD .none) c' ctv)) I hP
      (fun b o hb e => Heap.get?_push_of_some _ (hx b o hb e)) (Heap.get?_push_of_some _ htb) hge ⟨oc, vs, tt, Heap.get?_push_of_some _ hoc, hd, hv⟩
    have hG := grown_lam (T := T) (pos := pos) (q := X.env.qual ++ "<lambda>") hP ht nC (fun t' h1 h2 => (hls t' h1 h2).imp id fun z => ⟨z.1, z.2.trans hq⟩) hn
    refine h h'.objs.size c' ((X.mg "__name__").getD .none) ctv _ _ I1 hG (Heap.get?_push_size _ rfl) ?_ (nofr _ hsz) upd_same
    have n1 : h'.objs.size ≠ c' := Nat.ne_of_gt hlt
    have n2 : h'.objs.size ≠ t.P := Nat.ne_of_gt (Nat.lt_of_lt_of_le (Heap.lt_size hP') hsz)
    rw [upd_ne n1, upd_ne n2]
    exact I.hok.fresh hsz
  | some cv =>
    obtain ⟨c', e, hco⟩ := ha pos cv hc
    subst e
    have hco : H c' = some (CodeO c' (X.env.qual ++ "<lambda>")) := by
      rcases hco with ⟨_, z⟩ | ⟨z, _⟩
      · rw [← hq]; exact z
      · exact absurd hpos z
    refine PySem.W.kla_makeFunctionHit (mg := X.mg) (c := c) (P := t.P) (ps := ps) (closure_ok hfree) I.ok.glob (I.mod.glob.keeps I.bk) hcode (TB.code.keeps I.bk) hP' ht hc bP fun ctv h' tk hx hsz => ?_
    have I1 : Inv X pins σ H { s with heap := h'.push (PySem.W.kla_obj "<lambda>" (X.env.qual ++ "<lambda>") params body scope (cloFrom X.env.cells scope.names []) ((X.mg "__name__").getD .none) c' ctv), toks := tk } := I.kept fun b o e => Heap.get?_push_of_some _ (hx b o e)
    exact h h'.objs.size c' ((X.mg "__name__").getD .none) ctv H _ I1 (Grown.refl T H) (Heap.get?_push_size _ rfl) (I.hok.fresh hsz) (nofr _ hsz) hco
end

/-! ### the clauses -/
/-- what is told of an exception of the class cls -/
def wTold (K : Frag) : List (Addr × Str) → Value → (Str → Prop) → Prop
  | [], _, _ => False
  | (C, z) :: r, cls, q => ∃ b, PySem.W.exmOne K cls (.ref C) = some b ∧ (b = true → q z) ∧ (b = false → wTold K r cls q)
/-- the clauses of a told def -/
inductive ToldHs (mg : Str → Option Value) (sg : Scope) : List ExceptHandler → List (Addr × Str) → Prop
  | nil : ToldHs mg sg [] []
  | cons {e z : Str} {C : Addr} {j : Nat} {p1 p2 p3 p4 : Pos} {hs : List ExceptHandler} {l : List (Addr × Str)} : sg.names.lookup e = some .globalImplicit → (e == ("__debug__" : Str)) = false → mg e = some (.ref C) → ToldHs mg sg hs l →
      ToldHs mg sg (.ExceptHandler (some (.Name e p1)) none [.Return (some (.Constant (.str z) j p2)) p3] p4 :: hs) ((C, z) :: l)
def manyOf (l : List (Addr × Str)) : List (Value × (Addr → Value → Option Addr → TS)) := l.map fun p => (.ref p.1, fun _ _ _ => tSeq (tRet (tC (.str p.2))) tNext)
theorem wMany_of {K : Frag} {D : Ends} {Wout : WX} {cls : Value} {d : Option Addr} {σ : L2.St} {H : Hp} : ∀ {l : List (Addr × Str)}, wTold K l cls (fun z => D.rt (.str z) H) → wMany K Wout D (manyOf l) cls d σ H
  | [], h => h.elim
  | (C, z) :: r, ⟨b, h1, h2, h3⟩ => ⟨b, h1, fun hb a _ => h2 hb, fun hb => wMany_of (h3 hb)⟩
theorem hds_of {X : Cx} {sg : Scope} (hsc : X.env.scope = sg) : ∀ {hs : List ExceptHandler} {l : List (Addr × Str)}, ToldHs X.mg sg hs l → HdsOk X hs (manyOf l)
  | _, _, .nil => .nil
  | _, _, .cons h1 h2 h3 r => .cons ⟨by unfold Gl Env.kindOf; rw [hsc]; exact h1, h2, .inl h3⟩ (fun a oe cls d pn _ _ => pss_cons (ps_ret pe_str) pss_nil) (hds_of hsc r)

section
variable {X : Cx}
/-- told(lambda: body) -/
def tTold (T : Tx) (t : Tb) (l : List (Addr × Str)) (tb : XK → TE) : TE := fun σ H Q => TbOk H t ∧ ∀ H1, Grown T H H1 → tb (fun cls _ H' => wTold X.K l cls fun z => Q (.str z) H') σ H1 Q

/-- what is known of a def that calls what it got and tells exceptions by texts -/
structure ToldD (K : Frag) (mg : Str → Option Value) (x : Str) (l : List (Addr × Str)) : Prop where
  ok : ∃ (g : Addr) (pg : Arguments) (bg : List Stmt) (sg : Scope) (dV kV doc pm cdv ct oc : Value) (an od : Option Addr) (osl : Array (Option Value)) (Ng : List Str) (a : Str) (hds : List ExceptHandler) (h₀ : ExceptHandler) (p1 p2 p3 p4 : Pos),
    mg x = some (.ref g) ∧ PySem.W.keepIn K (.ref g) = true ∧ K.lookup g = some ⟨oc, od, .func (PySem.W.fnOf x x pg bg sg dV kV doc pm an cdv ct), osl⟩ ∧ PySem.W.codeIn K cdv x = true ∧ L2.Binds K (PySem.W.fnOf x x pg bg sg dV kV doc pm an cdv ct) [a] [] ∧
    FnScope Ng [a] sg ∧ Ng[0]? = some a ∧ Vis sg a ∧ (a == ("__debug__" : Str)) = false ∧ (a == ("__classdict__" : Str)) = false ∧ bg = [.Try [.Return (some (.Call (.Name a p1) [] [] p2)) p3] (h₀ :: hds) [] [] p4] ∧ ToldHs mg sg (h₀ :: hds) l
theorem pe_told {T : Tx} {t : Tb} {l : List (Addr × Str)} {x : Str} {c : Addr} {k : Nat} {params : Arguments} {body : Expr} {scope : Scope} {tb : XK → TE} {p lpos pos : Pos} (hg : Gl X x) (F : ToldD X.K X.mg x l)
    (TB : LamX.TabB X.base X.mg c t.P) (hcode : X.env.code = .ref c) (htn : t.n = 1) (hpos : (lpos.line, lpos.col) ∈ t.ls) (hq : t.q = X.env.qual ++ "<lambda>") (hls : ∀ t' ∈ T.tab, t'.P = t.P → t'.n = 0 ∨ ((lpos.line, lpos.col) ∈ t'.ls ∧ t'.q = t.q)) (hn : ∀ t' ∈ T.tab, t'.n ≤ 1)
    (hr : Room (k + 2) X.A) (L : LamS X.env.scope scope) (hdef : defaultsOf params X.env = ([], []))
    (hbind : ∀ (q : Str) (cl : List (Str × Addr)) (pm cv ctv : Value), bindArgs (PySem.W.kla_fn "<lambda>" q params body scope cl pm cv ctv) ⟨[], []⟩ = pure [])
    (hbody : ∀ (A : Around) (outer : List PySem.Env) (s : Shared) (H : Hp) (E : XK) (f c' : Addr), Room k (A.deeper (lamEnv X scope s.heap.objs.size f c')) → PE (lamCx X A outer s H E scope f c') body (tb E))
    (hdb : (x == ("__debug__" : Str)) = false) :
    PE X (.Call (.Name x p) [.Lambda params body scope lpos] [] pos) (tTold (X := X) T t l tb) := by
  obtain ⟨g, pg, bg, sg, dV, kV, doc, pm, cdv, ct, oc, an, od, osl, Ng, a, hds, h₀, p1, p2, p3, p4, hm, hk, lk, hcg, hb, Sg, hNg, hva, hd, hcd, rfl, hh⟩ := F.ok
  refine ⟨fun pins s σ H Q I h => ?_⟩
  obtain ⟨hT, h⟩ := h
  refine wpAny_Call_Name_kw (ld_glob I hg hm ?_ hdb)
  refine PySem.W.callWith_K (h₀ := X.base) I.ok.mod.kin hk ?_ (by rfl) (by rfl)
  show wpAny _ _ (spliced ((false, eval (.Lambda params body scope lpos) X.env) :: backTo pos (starEach [] X.env))) _ _ s
  refine Calls.spliced_cons (lam_make3 I TB hcode htn hpos hq hls hn hT hdef (L.has I.ok) fun f c' pm' ctv H1 s' I1 G1 hf hfn hfr hco => ?_)
  refine Calls.spliced_nil ⟨I1.kIn, ?_⟩
  have rc : codeAny (model X.prog X.w) X.A (.call (.ref g) ⟨[.ref f], []⟩) (CR C8.CX0 X.stack X.prog X.w H1 s' Q C8.E0) s' := by
    refine LamX.run_ofS (N := Ng) (ps := [a]) (us := [.ref f]) (vs := [.ref f]) lk hcg Sg hr I1.env0 (hb s' [.ref f] I1.kIn rfl) (.cons rfl .nil) rfl fun hr' => ?_
    have hb' := h H1 G1
    refine ⟨_, PSs.nox (pss_cons (ps_try_many (X := (cxOf C8.CX0 X.prog X.w X.K X.mg X.base Ng x sg g cdv X.A X.stack s' H1 C8.E0).nox)
      (tb := fun W D σ' H' => ∃ Ech : XK, (∀ cls d σ'' H'', Ech cls d H'' → W cls d σ'' H'') ∧ σ'[0]? = some (some (.ref f)) ∧ H' c' = some (CodeO c' (X.env.qual ++ "<lambda>")) ∧ tb Ech σ H' D.rt)
      rfl rfl LamX.takes0 (fun W pn xe tk _ => ?_) (hds_of (X := (cxOf C8.CX0 X.prog X.w X.K X.mg X.base Ng x sg g cdv X.A X.stack s' H1 C8.E0).nox) (sg := sg) rfl hh)) pss_nil), ?_⟩
    · refine ⟨fun pins s2 σ2 H2 D I2 h' => ?_⟩
      obtain ⟨Ech, hW, h1, h2, h3⟩ := h'
      have hp := LamX.pe_act (CXg := C8.CX0) (Eg := C8.E0) (pn := pn) (xe := xe) (i := 0) (p1 := p1) (p2 := p2) (E := Ech) I1 L hf hfn hfr (hbind _ _ _ _ _) tk hW hr' (fun A outer s H hr2 => hbody A outer s H Ech f c' hr2) hNg hva hd hcd
      have hq := pss_one (ps_ret (pos := p3) hp)
      exact hq.run pins s2 σ2 H2 D I2 ⟨h1, h2, h3⟩
    · refine ⟨fun cls _ H' => wTold X.K l cls fun z => Q (.str z) H', fun cls d σ'' H'' w => wMany_of w, rfl, hco, ?_⟩
      exact hb'
  refine wpAny_call (codeAny_mono rc fun r s2 hq => ?_)
  cases r with
  | error e => exact (show False from hq).elim
  | ok fl =>
    cases fl with
    | ret u => exact I1.after hq
    | next => exact False.elim hq
    | brk => exact False.elim hq
    | cont => exact False.elim hq
end
end Ev
end
section
/-! Expressions: what is translated does as the evaluator says. -/
namespace Ev
open PySem L2 PyProof.Rows
open PySem.W (Frag)

/-- nothing gets out -/
abbrev Wf : WX := fun _ _ _ _ => False
def bnames : List Str := ["len", "abs", "int", "max", "min", "tuple", "list", "sorted", "sum", "range", "enumerate", "zip", "any", "all", "isinstance", "str", "dict", "bool", "reversed"]
/-- a told def's clauses, by the classes' numbers -/
def TL (T : Tx) : List (Nat × List Nat) → List (Addr × Str) → Prop
  | [], [] => True
  | (j, s) :: hs, (C, z) :: l => T.cls[j]? = some C ∧ z = sv s ∧ TL T hs l
  | _, _ => False
/-- what is known of an exception's class -/
structure ClsD (K : Frag) (mg : Str → Option Value) (x : Str) (Ca : Addr) : Prop where
  mg : mg x = some (.ref Ca)
  keep : PySem.W.keepIn K (.ref Ca) = true
  base : PySem.W.subIn K (.ref Ca) (.type "BaseException") = some true
  ty : PySem.W.typeIn K (.ref Ca) = some (.type "type")
  exc : PySem.W.excIn K Ca He.veBase "ValueError.__new__" = true
/-- the text's defs, up to a level -/
def FnsAt (C : CallS) (T : Tx) (X : Cx) (fns : List Str) (lv : Nat) : Prop := ∀ x k, ixOf x fns = some k → ∃ a fd ps, X.mg x = some (.ref a) ∧ PySem.W.keepIn X.K (.ref a) = true ∧ Binds X.K fd ps [] ∧
  FnOk X.prog X.w X.K X.mg X.base (L2.CX X.prog X.w) lv a fd ps (spD X.K T ps.length (C k)) ∧ ∀ ds S, C k ds S ≠ .bad → ds.length = ps.length
/-- what is known where the code runs -/
structure Ctx (C : CallS) (T : Tx) (X : Cx) (c : Cn) (W : WX) : Prop where
  N : X.N = c.N
  nd : c.N.Nodup
  sc : X.env.scope = c.sc
  calm : X.calm = true
  tk : Takes X W
  bn : ∀ x ∈ bnames, X.mg x = none
  fn : ∃ lv, Room (lv + c.d) X.A ∧ FnsAt C T X c.fns lv
  cst : ∀ x e, c.cst.lookup x = some e → (∃ i t, e = .int i ∧ X.mg x = some (.int i t)) ∨ ∃ s t, e = .str s ∧ X.mg x = some (.str (sv s) t)
  cl : ∀ x k, ixOf x c.cls = some k → ∃ Ca, T.cls[k]? = some Ca ∧ ClsD X.K X.mg x Ca
  fl : ∀ k, c.flds.contains k = false
  sub : ∀ (i j : Nat) (Ci Cj : Addr) (l : List Nat), T.cls[i]? = some Ci → T.cls[j]? = some Cj → c.sub[j]? = some l → PySem.W.exmOne X.K (.ref Ci) (.ref Cj) = some (l.contains i)
  told : ∀ x hs, c.told.lookup x = some hs → ∃ l, ToldD X.K X.mg x l ∧ TL T hs l
  gen : ∀ k, c.gen = some k → ∃ t cd, t ∈ T.tab ∧ t.n = k ∧ CodeAt X t cd
  lmk : c.lmk = true → ∃ t cd, t ∈ T.tab ∧ t.n = 1 ∧ t.ls = c.lam ∧ t.q = X.env.qual ++ "<lambda>" ∧ X.env.code = .ref cd ∧ LamX.TabB X.base X.mg cd t.P ∧ ∀ t' ∈ T.tab, t'.P = t.P → t'.n = 0 ∨ (t'.ls = t.ls ∧ t'.q = t.q)
  tabs : ∀ t ∈ T.tab, t.n ≤ 1 ∧ ∀ p ∈ t.ls, p ∈ c.lam
theorem Ctx.un {C : CallS} {T : Tx} {X : Cx} {c : Cn} {W : WX} (h : Ctx C T X c W) : X.A.units + 64 < cLine := by
  obtain ⟨lv, r, _⟩ := h.fn
  exact r.units

section
variable {C : CallS} {T : Tx} {X : Cx} {c : Cn} {W : WX}
theorem PE_imp {e : Expr} {t t' : TE} (h : PE X e t) (i : ∀ σ H Q, t' σ H Q → t σ H Q) : PE X e t' := ⟨fun pins s σ H Q I q => h.run pins s σ H Q I (i _ _ _ q)⟩
theorem PT_imp {e : Expr} {t t' : TT} (h : PT X e t) (i : ∀ σ H Q, t' σ H Q → t σ H Q) : PT X e t' := ⟨fun pins s σ H Q I q => h.run pins s σ H Q I (i _ _ _ q)⟩
theorem PW_imp {e : Expr} {t t' : TT} (h : PW X e t) (i : ∀ σ H Q, t' σ H Q → t σ H Q) : PW X e t' := ⟨fun w pins s σ H Q I q => h.run w pins s σ H Q I (i _ _ _ q)⟩
theorem PA_imp {e : List Expr} {t t' : TA} (h : PA X e t) (i : ∀ σ H Q, t' σ H Q → t σ H Q) : PA X e t' := ⟨fun p pins s σ H Q I q => h.run p pins s σ H Q I (i _ _ _ q)⟩
theorem PI_imp {tg e : Expr} {t t' : TI} (h : PI X tg e t) (i : ∀ σ H Q, t' σ H Q → t σ H Q) : PI X tg e t' := ⟨fun pins s σ H Q I q => h.run pins s σ H Q I (i _ _ _ q)⟩
theorem PG_imp {e : Expr} {t t' : TG} (h : PG X e t) (i : ∀ v σ H Q, t' v σ H Q → t v σ H Q) : PG X e t' := ⟨fun pins s σ H v u Q I r q => h.run pins s σ H v u Q I r (i _ _ _ _ q)⟩
theorem PGs_imp {e : List Expr} {t t' : TGs} (h : PGs X e t) (i : ∀ v σ H Q, t' v σ H Q → t v σ H Q) : PGs X e t' := ⟨fun pins s σ H v u Q I r q => h.run pins s σ H v u Q I r (i _ _ _ _ q)⟩
theorem PTs_imp {e : List Expr} {t t' : TT} (h : PTs X e t) (i : ∀ σ H Q, t' σ H Q → t σ H Q) : PTs X e t' := ⟨fun pins s σ H Q I q => h.run pins s σ H Q I (i _ _ _ q)⟩
theorem PE_or {e : Expr} {t u : TE} (h : PE X e t) (g : PE X e u) : PE X e (fun σ H Q => t σ H Q ∨ u σ H Q) := ⟨fun pins s σ H Q I q => q.elim (h.run pins s σ H Q I) (g.run pins s σ H Q I)⟩
theorem PI_or {tg e : Expr} {t u : TI} (h : PI X tg e t) (g : PI X tg e u) : PI X tg e (fun σ H Q => t σ H Q ∨ u σ H Q) := ⟨fun pins s σ H Q I q => q.elim (h.run pins s σ H Q I) (g.run pins s σ H Q I)⟩

/-! ### names -/
theorem ixOf_get {x : Str} : ∀ {l : List Str} {i : Nat}, ixOf x l = some i → l[i]? = some x
  | [], _, h => by simp [ixOf] at h
  | a :: r, i, h => by
    unfold ixOf at h
    split at h
    · rename_i e; cases h; simp [e]
    · cases hr : ixOf x r with
      | none => rw [hr] at h; cases h
      | some j => rw [hr] at h; cases h; simpa using ixOf_get hr
theorem ixOf_none {x : Str} : ∀ {l : List Str}, ixOf x l = none → x ∉ l
  | [], _ => by simp
  | a :: r, h => by
    unfold ixOf at h
    split at h
    · cases h
    · rename_i e
      cases hr : ixOf x r with
      | none => simp only [List.mem_cons, not_or]; exact ⟨fun z => e z.symm, ixOf_none hr⟩
      | some j => rw [hr] at h; cases h
theorem nk_eq {a : Option NameKind} {b : NameKind} (h : (a == some b) = true) : a = some b := by
  cases a with
  | none => cases h
  | some a => cases a <;> cases b <;> first | rfl | cases h
theorem k_eq {a b : NameKind} (h : (a == b) = true) : a = b := by cases a <;> cases b <;> first | rfl | cases h
theorem k_beq (a : NameKind) : (a == a) = true := by cases a <;> rfl
theorem sk_eq {a b : ScopeKind} (h : (a == b) = true) : a = b := by cases a <;> cases b <;> first | rfl | cases h
theorem slot_ok (h : Ctx C T X c W) {x : Str} {i : Nat} (e : c.slot x = some i) : X.N[i]? = some x ∧ Vis X.env.scope x ∧ (x == ("__debug__" : Str)) = false ∧ (x == ("__classdict__" : Str)) = false := by
  unfold Cn.slot at e
  split at e
  · rename_i q
    simp only [Bool.and_eq_true, Bool.or_eq_true, Bool.not_eq_true'] at q
    refine ⟨by rw [h.N]; exact ixOf_get e, ?_, q.1.2, q.2⟩
    unfold Vis
    rw [h.sc]
    rcases q.1.1 with (a | a) | a
    · exact .inl (nk_eq a)
    · exact .inr (.inl (nk_eq a))
    · exact .inr (.inr (nk_eq a))
  · cases e
theorem slotW_ok (h : Ctx C T X c W) {x : Str} {i : Nat} (e : c.slotW x = some i) : X.N[i]? = some x ∧ L2.Loc X.env.scope x := by
  unfold Cn.slotW at e
  split at e
  · rename_i q
    simp only [Bool.and_eq_true, Bool.or_eq_true, Bool.not_eq_true'] at q
    refine ⟨by rw [h.N]; exact ixOf_get e, ?_⟩
    unfold L2.Loc
    rw [h.sc]
    rcases q.1.1 with a | a
    · exact .inl (nk_eq a)
    · exact .inr (nk_eq a)
  · cases e
theorem glob_ok (h : Ctx C T X c W) {x : Str} (e : c.glob x = true) : Gl X x ∧ (x == ("__debug__" : Str)) = false := by
  unfold Cn.glob at e
  simp only [Bool.and_eq_true, Bool.not_eq_true'] at e
  exact ⟨by unfold Gl Env.kindOf; rw [h.sc]; exact nk_eq e.1, e.2⟩
theorem star_ok {e : Expr} {es : List Expr} {env : PySem.Env} (h : starred e = false) : starEach (e :: es) env = (false, eval e env) :: starEach es env := by cases e <;> first | rfl | cases h
theorem assign_ok {e : Expr} {es : List Expr} {env : PySem.Env} (h : starred e = false) : assignEach (e :: es) env = (false, assign e env) :: assignEach es env := by cases e <;> first | rfl | cases h
theorem plain_ok {pos : Pos} {env : PySem.Env} : ∀ {es : List Expr}, (∀ e ∈ es, starred e = false) → (backTo pos (starEach es env)).any (·.1) = false
  | [], _ => rfl
  | e :: es, h => by
    rw [star_ok (h e (List.mem_cons_self ..))]
    show ((false, _) :: backTo pos (starEach es env)).any (·.1) = false
    rw [List.any_cons, plain_ok fun e he => h e (List.mem_cons_of_mem _ he)]
    rfl
theorem trEs_star {n : Nat} : ∀ {es : List Expr} {m : Nat} {ies : IEs}, trEs m c es = some ies → ∀ e ∈ es, starred e = false
  | [], _, _, _ => by simp
  | e :: es, 0, _, h => by simp [trEs] at h
  | e :: es, m + 1, _, h => by
    simp only [trEs] at h
    split at h
    · cases h
    · rename_i q
      simp only [Option.bind_eq_bind, Option.bind_eq_some_iff] at h
      obtain ⟨_, _, _, h2, _⟩ := h
      intro a ha
      rcases List.mem_cons.mp ha with rfl | ha
      · simpa using q
      · exact trEs_star (n := n) h2 a ha
/-- a test that is no and, or, not, comparison, conditional -/
def plainT : Expr → Bool
  | .UnaryOp .Not _ _ => false
  | .BoolOp .. => false
  | .IfExp .. => false
  | .Compare .. => false
  | _ => true
theorem plainT_ok {e : Expr} {env : PySem.Env} (h : plainT e = true) (whole : Sem Value) : isTrue e env whole = (do let v ← whole; standAt e.pos; holding [v] (truthy v)) := by
  cases e with
  | UnaryOp op x pos => cases op <;> first | rfl | cases h
  | BoolOp => cases h
  | IfExp => cases h
  | Compare => cases h
  | _ => rfl
theorem pt_ifExp {t a b : Expr} {pos : Pos} {tt ta tb : TT} (ht : PT X t tt) (ha : PT X a ta) (hb : PT X b tb) : PT X (.IfExp t a b pos) (fun σ H Q => tt σ H fun k H1 => if k = true then ta σ H1 Q else tb σ H1 Q) := by
  refine ⟨fun pins s σ H Q I h => ?_⟩
  show wpAny _ _ (do if ← isTrue t X.env (eval t X.env) then isTrue a X.env (eval a X.env) else isTrue b X.env (eval b X.env)) _ _ _
  refine wpAny_bind (thn (ht.run pins s σ H _ I h) fun k s1 ⟨H1, I1, q⟩ => ?_)
  cases k
  · exact hb.run pins s1 σ H1 Q I1 q
  · exact ha.run pins s1 σ H1 Q I1 q
theorem set_ok {e : Expr} {env : PySem.Env} (h : isSet e = false) (x : Value) : foldedSetIterable e env x = pure x := by cases e <;> first | rfl | cases h
theorem marks_ok {e : Expr} {op : CmpOp} (h : isSet e = false) : behindInMarks op e = false := by cases e <;> first | rfl | cases h
theorem ix_ok {e : Expr} (h : isSlice e = false) : PlainIx e := fun o i => by cases e <;> first | rfl | cases h
theorem base_ok {o : Expr} {m : Str} {env : PySem.Env} (h : isCall o = false) : attributeBase o m env (eval o env) = eval o env := by cases o <;> first | rfl | cases h

/-! ### blocks -/
theorem own_mem {N : List Str} {y : Str} {i : Nat} : ∀ {l : List (Str × NameKind)}, (y, i) ∈ ownOf N l → ∃ k, (y, k) ∈ l ∧ (k = .local ∨ k = .cell) ∧ ixOf y N = some i
  | [], h => by simp [ownOf] at h
  | (n, k) :: r, h => by
    unfold ownOf at h
    split at h
    · rename_i j e
      split at e
      · rename_i q
        rcases List.mem_cons.mp h with z | z
        · cases z; exact ⟨k, List.mem_cons_self .., q, e⟩
        · obtain ⟨k', a, b⟩ := own_mem z; exact ⟨k', List.mem_cons_of_mem _ a, b⟩
      · cases e
    · obtain ⟨k', a, b⟩ := own_mem h; exact ⟨k', List.mem_cons_of_mem _ a, b⟩
theorem own_has {N : List Str} {y : Str} {k : NameKind} : ∀ {l : List (Str × NameKind)}, (y, k) ∈ l → (k = .local ∨ k = .cell) → y ∈ (ownOf N l).map (·.1) ∨ y ∉ N
  | [], h, _ => by simp at h
  | (n, k') :: r, h, hk => by
    unfold ownOf
    rcases List.mem_cons.mp h with z | z
    · cases z
      rw [if_pos hk]
      cases e : ixOf y N with
      | none => exact .inr (ixOf_none e)
      | some j => exact .inl (List.mem_cons_self ..)
    · rcases own_has z hk with a | a
      · left
        split
        · exact List.mem_cons_of_mem _ a
        · exact a
      · exact .inr a
theorem blk_ok (h : Ctx C T X c W) {scope : Scope} (b : blkB c.N c.sc scope = true) : BlkOk X.N X.env.scope scope (ownOf c.N scope.names) := by
  unfold blkB uniqB freeB at b
  simp only [Bool.and_eq_true, List.all_eq_true, Bool.or_eq_true] at b
  obtain ⟨⟨⟨b1, b2⟩, b3⟩, b4⟩ := b
  refine ⟨sk_eq b1, fun y hy => nk_eq (b3 y hy), fun p hp => ?_, fun y hy e => ?_, fun y hy e => ?_⟩
  · obtain ⟨k, _, _, e⟩ := own_mem hp
    rw [h.N]; exact ixOf_get e
  · rw [h.sc]
    rcases b4 y hy with (z | z) | z
    · rw [e] at z; cases z
    · exact .inl (nk_eq z)
    · exact .inr (nk_eq z)
  · rw [h.N]; exact own_has (k := y.2) hy e
theorem blk_ctx (h : Ctx C T X c W) {scope : Scope} {s : Shared} {H : Hp} {cl : List (Str × Addr)} {A : Addr} {fp : List Addr} {Xb : Cx} (e : Xb = X.blk s H scope (compEnvC scope cl A X.env) fp) : Ctx C T Xb { c with sc := relS' scope c.sc } Wf := by
  subst e
  refine ⟨h.N, h.nd, ?_, h.calm, LamX.takes0, h.bn, h.fn, h.cst, h.cl, h.fl, h.sub, h.told, fun k e => ?_, fun e => ?_, h.tabs⟩
  rotate_left
  · obtain ⟨t, cd, h1, h2, h3⟩ := h.gen k e
    exact ⟨t, cd, h1, h2, h3.code, h3.hd, h3.bm⟩
  · obtain ⟨t, cd, h1, h2, h3, h4, h5, h6, h7⟩ := h.lmk e
    exact ⟨t, cd, h1, h2, h3, h4, h5, h6, h7⟩
  show relabel scope X.env = relS' scope c.sc
  unfold relabel relS' Env.kindOf
  rw [h.sc]
/-- may be stored to -/
def Wr (X : Cx) (i : Nat) : Prop := ∀ x, X.N[i]? = some x → X.fn x = true ∨ X.env.scope.names.lookup x = some .local
theorem blk_wr (h : Ctx C T X c W) {scope : Scope} (b : blkB c.N c.sc scope = true) {s : Shared} {H : Hp} {cl : List (Str × Addr)} {A : Addr} {fp : List Addr} {Xb : Cx} (e : Xb = X.blk s H scope (compEnvC scope cl A X.env) fp) {i : Nat} (hi : i ∈ (ownOf c.N scope.names).map (·.2)) : Wr Xb i := by
  subst e
  intro x hx
  obtain ⟨⟨y, j⟩, hp, rfl⟩ := List.mem_map.mp hi
  obtain ⟨k, hm, hk, hj⟩ := own_mem hp
  have hx' : c.N[j]? = some x := by rw [← h.N]; exact hx
  have e := ixOf_get hj
  rw [e] at hx'
  obtain rfl := Option.some.inj hx'
  have u := (blk_ok h b).uniq (y, k) hm
  rcases hk with rfl | rfl
  · exact .inr (lookup_relabel_local u)
  · left
    show (scope.names.lookup y == some NameKind.cell) = true
    rw [u]; rfl
end
end Ev
end
section
set_option maxRecDepth 10000
namespace Ev
open PySem L2 PyProof.Rows
open PySem.W (Frag)

/-- all that is translated with n steps does as the evaluator says -/
structure Snd (C : CallS) (n : Nat) : Prop where
  E : ∀ {T : Tx} {X : Cx} {c : Cn} {W : WX}, Ctx C T X c W → ∀ {e : Expr} {ie : IE}, trE n c e = some ie → PE X e (RE X.K T W (evE C ie))
  P : ∀ {T : Tx} {X : Cx} {c : Cn} {W : WX}, Ctx C T X c W → ∀ {e : Expr} {ie : IE}, trE n c e = some ie → PT X e (RT X.K T W (tru (evE C ie)))
  A : ∀ {T : Tx} {X : Cx} {c : Cn} {W : WX}, Ctx C T X c W → ∀ {a : Expr} {r : List Expr} {pos : Pos} {ia ie : IE}, PE X a (RE X.K T W (evE C ia)) → trB n c true ia r = some ie → PE X (.BoolOp .And (a :: r) pos) (RE X.K T W (evE C ie))
  O : ∀ {T : Tx} {X : Cx} {c : Cn} {W : WX}, Ctx C T X c W → ∀ {a : Expr} {r : List Expr} {pos : Pos} {ia ie : IE}, PE X a (RE X.K T W (evE C ia)) → trB n c false ia r = some ie → PE X (.BoolOp .Or (a :: r) pos) (RE X.K T W (evE C ie))
  AT : ∀ {T : Tx} {X : Cx} {c : Cn} {W : WX}, Ctx C T X c W → ∀ {a : Expr} {r : List Expr} {pos : Pos} {ia ie : IE}, PT X a (RT X.K T W (tru (evE C ia))) → trB n c true ia r = some ie → PW X (.BoolOp .And (a :: r) pos) (RT X.K T W (tru (evE C ie)))
  OT : ∀ {T : Tx} {X : Cx} {c : Cn} {W : WX}, Ctx C T X c W → ∀ {a : Expr} {r : List Expr} {pos : Pos} {ia ie : IE}, PT X a (RT X.K T W (tru (evE C ia))) → trB n c false ia r = some ie → PW X (.BoolOp .Or (a :: r) pos) (RT X.K T W (tru (evE C ie)))
  Cl : ∀ {T : Tx} {X : Cx} {c : Cn} {W : WX}, Ctx C T X c W → ∀ {x : Str} {es : List Expr} {p pos : Pos} {ie : IE}, c.glob x = true → trCall n c x es = some ie → PE X (.Call (.Name x p) es [] pos) (RE X.K T W (evE C ie))
  Es : ∀ {T : Tx} {X : Cx} {c : Cn} {W : WX}, Ctx C T X c W → ∀ {es : List Expr} {ies : IEs}, trEs n c es = some ies → PA X es (RA X.K T W (evEs C ies))
  Ps : ∀ {T : Tx} {X : Cx} {c : Cn} {W : WX}, Ctx C T X c W → ∀ {ks : List (Option Expr)} {vs : List Expr} {ps : IPs} {pos : Pos}, trPs n c ks vs = some ps → PPs X pos ks vs (trsOf X.K T W C ps) ∧ ks.all (·.isSome) = true ∧ ks.length = vs.length
  Op : ∀ {T : Tx} {X : Cx} {c : Cn} {W : WX}, Ctx C T X c W → ∀ {e : Option Expr} {ie : IEo}, trO n c e = some ie → PO X e (RO X.K T W (evEo C ie))
  I : ∀ {T : Tx} {X : Cx} {c : Cn} {W : WX}, Ctx C T X c W → ∀ {e tg : Expr} {ii : II}, trI n c e = some ii → (pairsOnly ii && !isTup tg) = false → PI X tg e (RI X.K T W (evI C ii)) ∧ isSet e = false
  Ts : ∀ {T : Tx} {X : Cx} {c : Cn}, Ctx C T X c Wf → ∀ {es : List Expr} {ies : IEs}, trT n c es = some ies → PTs X es (RTs X.K T C ies)
  G : ∀ {T : Tx} {X : Cx} {c : Cn} {W : WX}, Ctx C T X c W → ∀ {e : Expr} {g : IG}, trG n c e = some g → (∀ i ∈ gslots g, Wr X i) → PG X e (RG X.K T C g)
  Gs : ∀ {T : Tx} {X : Cx} {c : Cn} {W : WX}, Ctx C T X c W → ∀ {es : List Expr} {gs : IGs}, trGs n c es = some gs → (∀ i ∈ gslots.gslotss gs, Wr X i) → PGs X es (RGs X.K T C gs) ∧ (∀ e ∈ es, starred e = false) ∧ es.length = glen gs

section
variable {C : CallS} {T : Tx} {X : Cx} {c : Cn} {W : WX} {n : Nat}
theorem Snd.zero : Snd C 0 where
  E := by
    intros; rename_i h; simp [trE] at h
  P := by
    intros; rename_i h; simp [trE] at h
  A := by
    intros; rename_i h; simp [trB] at h
  O := by
    intros; rename_i h; simp [trB] at h
  AT := by
    intros; rename_i h; simp [trB] at h
  OT := by
    intros; rename_i h; simp [trB] at h
  Cl := by
    intros; rename_i h; simp [trCall] at h
  Es := by
    intros; rename_i h; simp [trEs] at h
  Ps := by
    intros; rename_i h; simp [trPs] at h
  Op := by
    intros; rename_i h; simp [trO] at h
  I := by
    intros; rename_i h _; simp [trI] at h
  Ts := by
    intros; rename_i h; simp [trT] at h
  G := by
    intros; rename_i h _; simp [trG] at h
  Gs := by
    intros; rename_i h _; simp [trGs] at h

theorem snd_A (ih : Snd C n) (h : Ctx C T X c W) {a : Expr} {r : List Expr} {pos : Pos} {ia ie : IE} (pa : PE X a (RE X.K T W (evE C ia))) (e : trB (n + 1) c true ia r = some ie) : PE X (.BoolOp .And (a :: r) pos) (RE X.K T W (evE C ie)) := by
  cases r with
  | nil => simp only [trB, Option.some.injEq] at e; subst e; exact pe_one pa
  | cons b r =>
    simp only [trB, Option.bind_eq_bind, Option.bind_eq_some_iff, Option.some.injEq, if_true] at e
    obtain ⟨ib, e1, ir, e2, rfl⟩ := e
    exact PE_imp (pe_andT pa (ih.A h (ih.E h e1) e2)) fun σ H Q q => re_and q
theorem snd_O (ih : Snd C n) (h : Ctx C T X c W) {a : Expr} {r : List Expr} {pos : Pos} {ia ie : IE} (pa : PE X a (RE X.K T W (evE C ia))) (e : trB (n + 1) c false ia r = some ie) : PE X (.BoolOp .Or (a :: r) pos) (RE X.K T W (evE C ie)) := by
  cases r with
  | nil => simp only [trB, Option.some.injEq] at e; subst e; exact pe_one pa
  | cons b r =>
    simp only [trB, Option.bind_eq_bind, Option.bind_eq_some_iff, Option.some.injEq, Bool.false_eq_true, if_false] at e
    obtain ⟨ib, e1, ir, e2, rfl⟩ := e
    exact PE_imp (pe_orT pa (ih.O h (ih.E h e1) e2)) fun σ H Q q => re_or q
theorem snd_AT (ih : Snd C n) (h : Ctx C T X c W) {a : Expr} {r : List Expr} {pos : Pos} {ia ie : IE} (pa : PT X a (RT X.K T W (tru (evE C ia)))) (e : trB (n + 1) c true ia r = some ie) : PW X (.BoolOp .And (a :: r) pos) (RT X.K T W (tru (evE C ie))) := by
  cases r with
  | nil => simp only [trB, Option.some.injEq] at e; subst e; exact pw_and1 pa
  | cons b r =>
    simp only [trB, Option.bind_eq_bind, Option.bind_eq_some_iff, Option.some.injEq, if_true] at e
    obtain ⟨ib, e1, ir, e2, rfl⟩ := e
    exact PW_imp (pw_and pa (ih.AT h (ih.P h e1) e2)) fun σ H Q q => rt_and q
theorem snd_OT (ih : Snd C n) (h : Ctx C T X c W) {a : Expr} {r : List Expr} {pos : Pos} {ia ie : IE} (pa : PT X a (RT X.K T W (tru (evE C ia)))) (e : trB (n + 1) c false ia r = some ie) : PW X (.BoolOp .Or (a :: r) pos) (RT X.K T W (tru (evE C ie))) := by
  cases r with
  | nil => simp only [trB, Option.some.injEq] at e; subst e; exact pw_or1 pa
  | cons b r =>
    simp only [trB, Option.bind_eq_bind, Option.bind_eq_some_iff, Option.some.injEq, Bool.false_eq_true, if_false] at e
    obtain ⟨ib, e1, ir, e2, rfl⟩ := e
    exact PW_imp (pw_or pa (ih.OT h (ih.P h e1) e2)) fun σ H Q q => rt_or q
theorem snd_Es (ih : Snd C n) (h : Ctx C T X c W) {es : List Expr} {ies : IEs} (e : trEs (n + 1) c es = some ies) : PA X es (RA X.K T W (evEs C ies)) := by
  cases es with
  | nil => simp only [trEs, Option.some.injEq] at e; subst e; exact PA_imp pa_nil fun σ H Q q => ra_nil q
  | cons a r =>
    simp only [trEs] at e
    split at e
    · cases e
    · rename_i q
      simp only [Option.bind_eq_bind, Option.bind_eq_some_iff, Option.some.injEq] at e
      obtain ⟨ia, e1, ir, e2, rfl⟩ := e
      exact PA_imp (pa_cons (ih.E h e1) (ih.Es h e2) (star_ok (by simpa using q))) fun σ H Q q => ra_cons q
theorem snd_Ps (ih : Snd C n) (h : Ctx C T X c W) {ks : List (Option Expr)} {vs : List Expr} {ps : IPs} {pos : Pos} (e : trPs (n + 1) c ks vs = some ps) : PPs X pos ks vs (trsOf X.K T W C ps) ∧ ks.all (·.isSome) = true ∧ ks.length = vs.length := by
  cases ks with
  | nil =>
    cases vs with
    | nil => simp only [trPs, Option.some.injEq] at e; subst e; exact ⟨pps_nil, rfl, rfl⟩
    | cons _ _ => simp [trPs] at e
  | cons k ks =>
    cases k with
    | none => simp [trPs] at e
    | some k =>
      cases vs with
      | nil => simp [trPs] at e
      | cons v vs =>
        simp only [trPs, Option.bind_eq_bind, Option.bind_eq_some_iff, Option.some.injEq] at e
        obtain ⟨ik, e1, iv, e2, ir, e3, rfl⟩ := e
        obtain ⟨p1, p2, p3⟩ := ih.Ps (pos := pos) h e3
        exact ⟨pps_cons (ih.E h e1) (ih.E h e2) p1, by rw [List.all_cons, p2]; rfl, by rw [List.length_cons, List.length_cons, p3]⟩
theorem snd_Op (ih : Snd C n) (h : Ctx C T X c W) {o : Option Expr} {ie : IEo} (e : trO (n + 1) c o = some ie) : PO X o (RO X.K T W (evEo C ie)) := by
  cases o with
  | none => simp only [trO, Option.some.injEq] at e; subst e; exact ⟨fun pins s σ H Q I q => po_none.run pins s σ H Q I (ro_none q)⟩
  | some a =>
    simp only [trO, Option.map_eq_some_iff] at e
    obtain ⟨ia, e1, rfl⟩ := e
    exact ⟨fun pins s σ H Q I q => (po_some (ih.E h e1)).run pins s σ H Q I (ro_some q)⟩
theorem snd_Ts (ih : Snd C n) (h : Ctx C T X c Wf) {es : List Expr} {ies : IEs} (e : trT (n + 1) c es = some ies) : PTs X es (RTs X.K T C ies) := by
  cases es with
  | nil =>
    simp only [trT, Option.some.injEq] at e
    subst e
    refine PTs_imp pts_nil fun σ H Q ⟨r, env, S, he, si, g⟩ => ?_
    simp only [evT, tres] at g
    exact g r true H (Xt.refl _ _) rfl si
  | cons a r =>
    cases r with
    | nil =>
      simp only [trT, Option.map_eq_some_iff] at e
      obtain ⟨ia, e1, rfl⟩ := e
      refine PTs_imp (pts_one (ih.P h e1)) fun σ H Q ⟨r, env, S, he, si, g⟩ => ⟨r, env, S, he, si, ?_⟩
      simp only [evT, tres, tru] at g ⊢
      cases hx : evE C ia env S with
      | bad => rw [hx] at g; exact g
      | exc ex S1 => rw [hx] at g; exact False.elim g
      | ok d S1 =>
        rw [hx] at g
        simp only [Res.bind] at g ⊢
        cases ht : truth S1 d with
        | none => rw [ht] at g; exact g
        | some b => rw [ht] at g; exact g
    | cons _ _ => simp [trT] at e
theorem snd_Gs (ih : Snd C n) (h : Ctx C T X c W) {es : List Expr} {gs : IGs} (e : trGs (n + 1) c es = some gs) (hw : ∀ i ∈ gslots.gslotss gs, Wr X i) : PGs X es (RGs X.K T C gs) ∧ (∀ e ∈ es, starred e = false) ∧ es.length = glen gs := by
  cases es with
  | nil => simp only [trGs, Option.some.injEq] at e; subst e; exact ⟨PGs_imp pgs_nil fun v σ H Q q => rgs_nil q, by simp, rfl⟩
  | cons a r =>
    simp only [trGs] at e
    split at e
    · cases e
    · rename_i q
      simp only [Option.bind_eq_bind, Option.bind_eq_some_iff, Option.some.injEq] at e
      obtain ⟨ia, e1, ir, e2, rfl⟩ := e
      simp only [gslots.gslotss, List.mem_append] at hw
      have q' : starred a = false := by simpa using q
      obtain ⟨p1, p2, p3⟩ := ih.Gs h e2 fun i hi => hw i (.inr hi)
      refine ⟨PGs_imp (pgs_cons (ih.G h e1 fun i hi => hw i (.inl hi)) p1 (by rw [assign_ok q']; rfl)) fun v σ H Q q => rgs_cons q, fun x hx => ?_, by simp [glen, p3]⟩
      rcases List.mem_cons.mp hx with rfl | hx
      · exact q'
      · exact p2 x hx
theorem ev_len {env : PySem.Env} : ∀ {es : List Expr}, (∀ e ∈ es, starred e = false) → (assignEach es env).length = es.length ∧ (assignEach es env).findIdx? (·.1) = none
  | [], _ => ⟨rfl, rfl⟩
  | e :: es, h => by
    obtain ⟨a, b⟩ := ev_len (env := env) fun e he => h e (List.mem_cons_of_mem _ he)
    rw [assign_ok (h e (List.mem_cons_self ..))]
    exact ⟨by simp [a], by rw [List.findIdx?_cons, b]; rfl⟩
theorem snd_G (ih : Snd C n) (h : Ctx C T X c W) {a : Expr} {g : IG} (e : trG (n + 1) c a = some g) (hw : ∀ i ∈ gslots g, Wr X i) : PG X a (RG X.K T C g) := by
  cases a with
  | Name x pos =>
    simp only [trG, Option.map_eq_some_iff] at e
    obtain ⟨i, e1, rfl⟩ := e
    obtain ⟨s1, s2⟩ := slotW_ok h e1
    exact PG_imp (pg_name (by rw [h.N]; exact h.nd) s1 s2 (hw i (by simp [gslots]) x s1)) fun v σ H Q q => rg_var q
  | Tuple es k pos =>
    simp only [trG, Option.map_eq_some_iff] at e
    obtain ⟨gs, e1, rfl⟩ := e
    obtain ⟨p1, p2, p3⟩ := ih.Gs h e1 hw
    obtain ⟨l1, l2⟩ := ev_len (env := X.env) p2
    exact PG_imp (pg_tup h.calm p1 (l1.trans p3) l2) fun v σ H Q q => rg_tup q
  | Subscript o i pos =>
    simp only [trG] at e
    split at e
    · cases e
    · rename_i q
      simp only [Option.bind_eq_bind, Option.bind_eq_some_iff, Option.some.injEq] at e
      obtain ⟨io, e1, ii, e2, rfl⟩ := e
      refine PG_imp (pg_sub (ih.E h e1) (ih.E h e2) (setE (Nat.lt_of_le_of_lt (Nat.add_le_add_left (by decide) _) h.un)) ?_) fun v σ H Q q => rg_sub q
      intro v
      cases i <;> first | rfl | exact absurd rfl q
  | _ => simp [trG] at e
end
end Ev
end
section
set_option maxRecDepth 10000
namespace Ev
open PySem L2 PyProof.Rows
open PySem.W (Frag)

section
variable {C : CallS} {T : Tx} {X : Cx} {c : Cn} {W : WX} {n : Nat}
theorem Ctx.un1 (h : Ctx C T X c W) : X.A.units + 1 < cLine := Nat.lt_of_le_of_lt (Nat.add_le_add_left (by decide) _) h.un
theorem Ctx.nodup (h : Ctx C T X c W) : X.N.Nodup := by rw [h.N]; exact h.nd

/-! ### calls -/
theorem bi_names {x : Str} {k : Nat} {b : BI} (h : builtinOf x k = some b) : x ∈ bnames ∧ bootBuiltins x = some (biV b) ∧ x ≠ ("__name__" : Str) ∧ k ≠ 0 := by
  unfold builtinOf at h
  repeat' split at h
  all_goals first
    | (cases h; done)
    | (rename_i q; obtain ⟨rfl, rfl⟩ := q; cases h; exact ⟨by decide, by decide +kernel, by decide, by decide⟩)
theorem pe_bi {x : Str} {p pos : Pos} {e : Expr} {es : List Expr} {t : TA} {b : BI} {r : List V → Hp → VK → Prop} (hc : CallR X (biV b) r) (hg : Gl X x) (hm : X.mg x = none) (hv : bootBuiltins x = some (biV b)) (ha : PA X (e :: es) t) (hn : x ≠ ("__name__" : Str)) (hdb : (x == ("__debug__" : Str)) = false)
    (he : starEach (e :: es) X.env = (false, eval e X.env) :: starEach es X.env) (hpl : (backTo pos (starEach es X.env)).any (·.1) = false) : PE X (.Call (.Name x p) (e :: es) [] pos) (tCB r t) := by
  cases b <;> first
    | exact pe_callB hc hg hm hv ha hn hdb he hpl
    | exact pe_callTy hc hg hm hv ha hn hdb he hpl
theorem me_names {x : Str} {k : Nat} {m : ME} (h : methodOf x k = some m) : k = 1 ∧ ((x = ("append" : Str) ∧ m = .append) ∨ (x = ("index" : Str) ∧ m = .index)) := by
  unfold methodOf at h
  repeat' split at h
  all_goals first
    | (cases h; done)
    | (rename_i q; obtain ⟨rfl, rfl⟩ := q; cases h; exact ⟨rfl, .inl ⟨rfl, rfl⟩⟩)
    | (rename_i q; obtain ⟨rfl, rfl⟩ := q; cases h; exact ⟨rfl, .inr ⟨rfl, rfl⟩⟩)
theorem snd_Cl (ih : Snd C n) (h : Ctx C T X c W) {x : Str} {es : List Expr} {p pos : Pos} {ie : IE} (hgl : c.glob x = true) (e : trCall (n + 1) c x es = some ie) : PE X (.Call (.Name x p) es [] pos) (RE X.K T W (evE C ie)) := by
  obtain ⟨g1, g2⟩ := glob_ok h hgl
  simp only [trCall] at e
  split at e
  · rename_i k hk
    split at e
    · cases e
    · rename_i hne
      simp only [Option.map_eq_some_iff] at e
      obtain ⟨ies, e1, rfl⟩ := e
      cases es with
      | nil => exact absurd rfl hne
      | cons a r =>
        obtain ⟨lv, rm, ff⟩ := h.fn
        obtain ⟨fa, fd, ps, f1, f2, f3, f5, f6⟩ := ff x k hk
        have st := trEs_star (n := n) e1
        exact PE_imp (pe_callS (E := WE W) f5 (rm.mono (Nat.le_add_right _ _)) g1 f1 f2 f3 (fun σ => passAt h.tk σ) (ih.Es h e1) g2 (star_ok (st a (List.mem_cons_self ..))) (plain_ok fun x hx => st x (List.mem_cons_of_mem _ hx))) fun σ H Q q => re_call f6 q
  · rename_i hk
    split at e
    · rename_i b hb
      simp only [Option.map_eq_some_iff] at e
      obtain ⟨ies, e1, rfl⟩ := e
      obtain ⟨b1, b2, b3, b4⟩ := bi_names hb
      cases es with
      | nil => exact absurd rfl b4
      | cons a r =>
        have st := trEs_star (n := n) e1
        exact PE_imp (pe_bi (biE h.calm b) g1 (h.bn x b1) b2 (ih.Es h e1) b3 g2 (star_ok (st a (List.mem_cons_self ..))) (plain_ok fun x hx => st x (List.mem_cons_of_mem _ hx))) fun σ H Q q => re_bi (biD_nx b) q
    · cases e
/-- a method's call -/
theorem snd_me (ih : Snd C n) (h : Ctx C T X c W) {o : Expr} {m : Str} {apos pos : Pos} {es : List Expr} {ie : IE} (e : trE (n + 1) c (.Call (.Attribute o m apos) es [] pos) = some ie) : PE X (.Call (.Attribute o m apos) es [] pos) (RE X.K T W (evE C ie)) := by
  simp only [trE] at e
  split at e
  · cases e
  · rename_i q
    simp only [Bool.or_eq_true, Bool.not_eq_true', not_or, Bool.not_eq_true, Bool.not_eq_false] at q
    simp only [Option.bind_eq_bind, Option.bind_eq_some_iff, Option.some.injEq] at e
    obtain ⟨me, e1, io, e2, ies, e3, rfl⟩ := e
    obtain ⟨k1, k2⟩ := me_names e1
    cases es with
    | nil => cases k1
    | cons a r =>
      cases r with
      | cons _ _ => simp at k1
      | nil =>
        have st := trEs_star (n := n) e3 a (List.mem_cons_self ..)
        have hs : starEach [a] X.env = (false, eval a X.env) :: starEach [] X.env := star_ok st
        have few : ((backTo pos (starEach [a] X.env)).all (fun x => !x.1) && (backToKw pos (keywordEach [] X.env)).all (fun x => x.1.isSome) && decide ([a].length + ([] : List Keyword).length + (if ([] : List Keyword).isEmpty then 0 else 1) < 30)) = true := by rw [hs]; rfl
        rcases k2 with ⟨rfl, rfl⟩ | ⟨rfl, rfl⟩
        · exact PE_imp (pe_bm PySem.F.plainAttrs_list PySem.F.slot_list_append PySem.F.type_list_append me_append (ih.E h e2) (ih.Es h e3) (base_ok q.1) few q.2 hs rfl) fun σ H Q q => re_append q
        · exact PE_imp (PE_or (pe_bm PySem.F.plainAttrs_str PySem.F.slot_str_index PySem.F.type_str_index me_sindex (ih.E h e2) (ih.Es h e3) (base_ok q.1) few q.2 hs rfl)
            (pe_bm PySem.F.plainAttrs_list PySem.F.slot_list_index PySem.F.type_list_index me_lindex (ih.E h e2) (ih.Es h e3) (base_ok q.1) few q.2 hs rfl)) fun σ H Q q => re_index q

/-! ### comprehensions -/
theorem rg_wr (h : Ctx C T X c W) {scope : Scope} (b : blkB c.N c.sc scope = true) {s : Shared} {H : Hp} {cl : List (Str × Addr)} {A : Addr} {fp : List Addr} {Xb : Cx} (e : Xb = X.blk s H scope (compEnvC scope cl A X.env) fp) {g : IG} (hg : (gslots g).all ((ownOf c.N scope.names).map (·.2)).contains = true) : ∀ i ∈ gslots g, Wr Xb i := fun i hi =>
  blk_wr h b e (by simpa using List.all_eq_true.mp hg i hi)
theorem sub_of {g : IG} {vs : List Nat} (hg : (gslots g).all vs.contains = true) : ∀ i ∈ gslots g, i ∈ vs := fun i hi => by simpa using List.all_eq_true.mp hg i hi
end
end Ev
end
section
set_option maxRecDepth 10000
namespace Ev
open PySem L2 PyProof.Rows
open PySem.W (Frag)

section
variable {C : CallS} {T : Tx} {X : Cx} {c : Cn} {W : WX} {n : Nat}
theorem repI_revT {K : Frag} {H : Hp} {r : List Addr} {S : Sto} {a : Addr} {ds : List D} {xs : List V} (si : SI K T H r S) (hq : SqT K H a xs) (hx : RepVs K H r ds xs) : RepI K T H r (.revT ds) (RT.ItvT K a xs.length) := by
  intro r' H' S' i o e si' ht
  simp only [turn, Option.some.injEq] at ht
  subst ht
  have hq' := e.sqT si.noTup hq
  have hx' := hx.at si e
  have hl := hx'.length
  by_cases hi : i < ds.length
  · rw [if_pos hi]
    have hj : ds.length - 1 - i < ds.length := by omega
    rw [List.getElem?_eq_getElem hj]
    obtain ⟨x, h1, h2⟩ := hx'.get (List.getElem?_eq_getElem hj)
    rw [hl] at h1
    exact ⟨⟨by omega, xs, x, hq', h1⟩, fun y H2 ⟨eH, hy⟩ => by
      subst eH
      have := hy xs hq'
      rw [h1] at this; cases this
      exact ⟨Xt.refl _ _, h2, si'⟩⟩
  · rw [if_neg hi]
    show xs.length ≤ i
    omega
theorem repI_revL {K : Frag} {H : Hp} {r : List Addr} {a : Addr} {n m : Nat} (hn : r[n]? = some a) : RepI K T H r (.revL n m) (Itv K a m) := by
  intro r' H' S' i o e si' ht
  simp only [turn] at ht
  cases hi : items S' n with
  | none => rw [hi] at ht; cases ht
  | some ds =>
    rw [hi] at ht
    simp only at ht
    split at ht
    · rename_i hm
      simp only [Option.some.injEq] at ht
      subst ht
      obtain ⟨xs, e1, hx'⟩ := si'.lst hi (e.get hn)
      have hq' : SqL K H' a xs := SqL.of e1
      by_cases hlt : i < m
      · rw [if_pos hlt]
        have hj : m - 1 - i < ds.length := by omega
        rw [List.getElem?_eq_getElem hj]
        obtain ⟨x, h1, h2⟩ := hx'.get (List.getElem?_eq_getElem hj)
        exact ⟨⟨hlt, xs, x, hq', h1⟩, fun y H2 ⟨eH, hy⟩ => by
          subst eH
          have := hy xs hq'
          rw [h1] at this; cases this
          exact ⟨Xt.refl _ _, h2, si'⟩⟩
      · rw [if_neg hlt]
        show m ≤ i
        omega
    · cases ht
theorem ri_rev {K : Frag} {σ : L2.St} {H : Hp} {R : It → Hp → Prop} {e : IE} (h : RI K T W (evI C (.rev e)) σ H R) : RT.iRevA K (RE K T W (evE C e)) σ H R := by
  obtain ⟨r, env, S, he, si, h⟩ := h
  rw [evI] at h
  refine ⟨r, env, S, he, si, h.bind fun x S1 r1 v H1 _ e1 rv si1 h1 => ?_⟩
  cases rv with
  | tup hq hs => exact ⟨_, _, rfl, .inr ⟨hq, h1 r1 _ H1 (Xt.refl _ _) (repI_revT si1 hq hs) si1⟩⟩
  | ref q =>
    simp only at h1
    split at h1
    · rename_i ys ei
      obtain ⟨zs, e2, hz⟩ := si1.lst ei q
      rw [hz.length] at h1
      exact ⟨_, zs, rfl, .inl ⟨SqL.of e2, h1 r1 _ H1 (Xt.refl _ _) (repI_revL q) si1⟩⟩
    · exact False.elim h1
  | str => exact False.elim h1
  | non => exact False.elim h1
  | bl => exact False.elim h1
  | int => exact False.elim h1
  | fl => exact False.elim h1
theorem pi_val {tg e : Expr} {ie : IE} (p : PE X e (RE X.K T W (evE C ie))) : PI X tg e (RI X.K T W (evI C (.val ie))) :=
  PI_imp (PI_or (pi_list p) (PI_or (pi_tup p) (pi_str p))) fun σ H Q q => ri_val q
theorem snd_I (ih : Snd C n) (h : Ctx C T X c W) {a tg : Expr} {ii : II} (e : trI (n + 1) c a = some ii) (ht : (pairsOnly ii && !isTup tg) = false) : PI X tg a (RI X.K T W (evI C ii)) ∧ isSet a = false := by
  simp only [trI] at e
  split at e
  · cases e
  · rename_i hset
    refine ⟨?_, by simpa using hset⟩
    split at e
    · rename_i x p es ks pos
      cases ks with
      | cons _ _ => cases e
      | nil =>
        simp only at e
        split at e
        · rename_i q
          simp only [Bool.and_eq_true] at q
          obtain ⟨g1, g2⟩ := glob_ok h q.1
          split at e
          · rename_i hx
            subst hx
            have hm := h.bn "range" (by decide)
            split at e
            · rename_i a1
              split at e
              · cases e
              · rename_i s1
                simp only [Option.map_eq_some_iff] at e
                obtain ⟨ia, e1, rfl⟩ := e
                have s1 : starred a1 = false := by simpa using s1
                exact PI_imp (pi_range1 g1 hm (pa_cons (ih.E h e1) pa_nil (star_ok s1)) (star_ok s1)) fun σ H Q q => ri_rng1 q
            · rename_i a1 a2
              split at e
              · cases e
              · rename_i s1
                simp only [Option.bind_eq_bind, Option.bind_eq_some_iff, Option.some.injEq] at e
                obtain ⟨ia, e1, ib, e2, rfl⟩ := e
                simp only [Bool.or_eq_true, not_or, Bool.not_eq_true] at s1
                have z2 : starEach [a2] X.env = [(false, eval a2 X.env)] := star_ok s1.2
                have z1 : starEach [a1, a2] X.env = (false, eval a1 X.env) :: starEach [a2] X.env := star_ok s1.1
                exact PI_imp (pi_range2 g1 hm (pa_cons (ih.E h e1) (pa_cons (ih.E h e2) pa_nil z2) z1) (by rw [z1, z2]) z2) fun σ H Q q => ri_rng2 q
            · rename_i a1 a2 a3
              split at e
              · cases e
              · rename_i s1
                simp only [Option.bind_eq_bind, Option.bind_eq_some_iff, Option.some.injEq] at e
                obtain ⟨ia, e1, ib, e2, ic, e3, rfl⟩ := e
                simp only [Bool.or_eq_true, not_or, Bool.not_eq_true] at s1
                have z3 : starEach [a3] X.env = (false, eval a3 X.env) :: starEach [] X.env := star_ok s1.2
                have z2 : starEach [a2, a3] X.env = (false, eval a2 X.env) :: starEach [a3] X.env := star_ok s1.1.2
                have z1 : starEach [a1, a2, a3] X.env = (false, eval a1 X.env) :: starEach [a2, a3] X.env := star_ok s1.1.1
                exact PI_imp (pi_range3 g1 hm (pa_cons (ih.E h e1) (pa_cons (ih.E h e2) (pa_cons (ih.E h e3) pa_nil z3) z2) z1) z1 (by rw [z2, z3]; rfl)) fun σ H Q q => ri_rng3 q
            · cases e
          · split at e
            · rename_i hx
              subst hx
              have hm := h.bn "enumerate" (by decide)
              split at e
              · rename_i a1
                split at e
                · cases e
                · rename_i s1
                  simp only [Option.map_eq_some_iff] at e
                  obtain ⟨ia, e1, rfl⟩ := e
                  have s1 : starred a1 = false := by simpa using s1
                  cases tg with
                  | Tuple elts kk tpos => exact PI_imp (PI_or (pi_enum g1 hm (pa_cons (ih.E h e1) pa_nil (star_ok s1)) (star_ok s1)) (pi_enumT g1 hm (pa_cons (ih.E h e1) pa_nil (star_ok s1)) (star_ok s1))) fun σ H Q q => ri_enum q
                  | _ => cases ht
              · cases e
            · split at e
              · rename_i hx
                subst hx
                have hm := h.bn "zip" (by decide)
                split at e
                · rename_i a1 a2
                  split at e
                  · cases e
                  · rename_i s1
                    simp only [Option.bind_eq_bind, Option.bind_eq_some_iff, Option.some.injEq] at e
                    obtain ⟨ia, e1, ib, e2, rfl⟩ := e
                    simp only [Bool.or_eq_true, not_or, Bool.not_eq_true] at s1
                    have z2 : starEach [a2] X.env = (false, eval a2 X.env) :: starEach [] X.env := star_ok s1.2
                    have z1 : starEach [a1, a2] X.env = (false, eval a1 X.env) :: starEach [a2] X.env := star_ok s1.1
                    cases tg with
                    | Tuple elts kk tpos => exact PI_imp (RZ.pi_zipA g1 hm (pa_cons (ih.E h e1) (pa_cons (ih.E h e2) pa_nil z2) z1) z1 (by rw [z2]; rfl)) fun σ H Q q => ri_zip q
                    | _ => cases ht
                · cases e
              · split at e
                · rename_i hx
                  subst hx
                  have hm := h.bn "reversed" (by decide)
                  split at e
                  · rename_i a1
                    split at e
                    · cases e
                    · rename_i s1
                      simp only [Option.map_eq_some_iff] at e
                      obtain ⟨ia, e1, rfl⟩ := e
                      have s1 : starred a1 = false := by simpa using s1
                      exact PI_imp (RT.pi_revA g1 hm (ih.E h e1) (star_ok s1)) fun σ H Q q => ri_rev q
                  · cases e
                · simp only [Option.map_eq_some_iff] at e
                  obtain ⟨ia, e1, rfl⟩ := e
                  exact pi_val (ih.E h e1)
        · simp only [Option.map_eq_some_iff] at e
          obtain ⟨ia, e1, rfl⟩ := e
          exact pi_val (ih.E h e1)
    · simp only [Option.map_eq_some_iff] at e
      obtain ⟨ia, e1, rfl⟩ := e
      exact pi_val (ih.E h e1)

/-! ### comprehensions -/
/-- one clause and what stands within it, in a block -/
structure One (C : CallS) (T : Tx) (X : Cx) (c : Cn) (scope : Scope) (tg iter : Expr) (ifs : List Expr) (ig : IG) (iifs : IEs) : Prop where
  g : ∀ (s : Shared) (H : Hp) (A : Addr) (cl : List (Str × Addr)) (fp : List Addr), PG (X.blk s H scope (compEnvC scope cl A X.env) fp) tg (RG X.K T C ig)
  t : ∀ (s : Shared) (H : Hp) (A : Addr) (cl : List (Str × Addr)) (fp : List Addr), PTs (X.blk s H scope (compEnvC scope cl A X.env) fp) ifs (RTs X.K T C iifs)
theorem one_of (ih : Snd C n) (h : Ctx C T X c W) {scope : Scope} (b : blkB c.N c.sc scope = true) {tg iter : Expr} {ifs : List Expr} {ig : IG} {iifs : IEs} (e1 : trG n { c with sc := relS' scope c.sc } tg = some ig)
    (e2 : trT n { c with sc := relS' scope c.sc } ifs = some iifs) (hg : (gslots ig).all ((ownOf c.N scope.names).map (·.2)).contains = true) : One C T X c scope tg iter ifs ig iifs :=
  ⟨fun s H A cl fp => ih.G (blk_ctx h (s := s) (H := H) (cl := cl) (A := A) (fp := fp) rfl) e1 (rg_wr h b rfl hg), fun s H A cl fp => ih.Ts (blk_ctx h (s := s) (H := H) (cl := cl) (A := A) (fp := fp) rfl) e2⟩
theorem in_E (ih : Snd C n) (h : Ctx C T X c W) {scope : Scope} {e : Expr} {ie : IE} (e1 : trE n { c with sc := relS' scope c.sc } e = some ie) (s : Shared) (H : Hp) (A : Addr) (cl : List (Str × Addr)) (fp : List Addr) : PE (X.blk s H scope (compEnvC scope cl A X.env) fp) e (RB X.K T C ie) :=
  ih.E (blk_ctx h (s := s) (H := H) (cl := cl) (A := A) (fp := fp) rfl) e1
theorem in_I (ih : Snd C n) (h : Ctx C T X c W) {scope : Scope} {e tg : Expr} {ii : II} (e1 : trI n { c with sc := relS' scope c.sc } e = some ii) (hp : (pairsOnly ii && !isTup tg) = false) (s : Shared) (H : Hp) (A : Addr) (cl : List (Str × Addr)) (fp : List Addr) : PI (X.blk s H scope (compEnvC scope cl A X.env) fp) tg e (RIb X.K T C ii) :=
  (ih.I (blk_ctx h (s := s) (H := H) (cl := cl) (A := A) (fp := fp) rfl) e1 hp).1
/-- the parts of a list comprehension -/
theorem lc_parts {elt : Expr} {gens : List Comprehension} {scope : Scope} {pos : Pos} {ie : IE} (e : trE (n + 1) c (.ListComp elt gens scope pos) = some ie) : blkB c.N c.sc scope = true ∧
    ((∃ tg iter ifs it g iifs ielt, gens = [⟨tg, iter, ifs, 0⟩] ∧ ie = .lc ((ownOf c.N scope.names).map (·.2)) g it iifs ielt ∧ trI n c iter = some it ∧ trG n { c with sc := relS' scope c.sc } tg = some g ∧ trT n { c with sc := relS' scope c.sc } ifs = some iifs ∧
        trE n { c with sc := relS' scope c.sc } elt = some ielt ∧ (gslots g).all ((ownOf c.N scope.names).map (·.2)).contains = true ∧ (pairsOnly it && !isTup tg) = false) ∨
      ∃ tg iter ifs it g iifs tg1 iter1 ifs1 it1 g1 iifs1 ielt, gens = [⟨tg, iter, ifs, 0⟩, ⟨tg1, iter1, ifs1, 0⟩] ∧ ie = .lc2 ((ownOf c.N scope.names).map (·.2)) g it iifs (gslots g1) g1 it1 iifs1 ielt ∧ trI n c iter = some it ∧ trG n { c with sc := relS' scope c.sc } tg = some g ∧
        trT n { c with sc := relS' scope c.sc } ifs = some iifs ∧ trI n { c with sc := relS' scope c.sc } iter1 = some it1 ∧ trG n { c with sc := relS' scope c.sc } tg1 = some g1 ∧ trT n { c with sc := relS' scope c.sc } ifs1 = some iifs1 ∧ trE n { c with sc := relS' scope c.sc } elt = some ielt ∧
        (gslots g).all ((ownOf c.N scope.names).map (·.2)).contains = true ∧ (gslots g1).all ((ownOf c.N scope.names).map (·.2)).contains = true ∧ (pairsOnly it && !isTup tg) = false ∧ (pairsOnly it1 && !isTup tg1) = false) := by
  simp only [trE] at e
  split at e
  · rename_i tg iter ifs
    split at e
    · rename_i b
      simp only [Option.bind_eq_bind, Option.bind_eq_some_iff] at e
      obtain ⟨it, e1, g, e2, iifs, e3, ielt, e4, e⟩ := e
      split at e
      · rename_i q
        simp only [Bool.and_eq_true, Bool.not_eq_true'] at q
        cases e
        exact ⟨b, .inl ⟨tg, iter, ifs, it, g, iifs, ielt, rfl, rfl, e1, e2, e3, e4, q.1.2, q.2⟩⟩
      · cases e
    · cases e
  · rename_i tg iter ifs tg1 iter1 ifs1
    split at e
    · rename_i b
      simp only [Option.bind_eq_bind, Option.bind_eq_some_iff] at e
      obtain ⟨it, e1, g, e2, iifs, e3, it1, e4, g1, e5, iifs1, e6, ielt, e7, e⟩ := e
      split at e
      · rename_i q
        simp only [Bool.and_eq_true, Bool.not_eq_true'] at q
        cases e
        exact ⟨b, .inr ⟨tg, iter, ifs, it, g, iifs, tg1, iter1, ifs1, it1, g1, iifs1, ielt, rfl, rfl, e1, e2, e3, e4, e5, e6, e7, q.1.1.1.1.2, q.1.1.2, q.1.2, q.2⟩⟩
      · cases e
    · cases e
  · cases e
theorem dc_parts {kx vx : Expr} {gens : List Comprehension} {scope : Scope} {pos : Pos} {ie : IE} (e : trE (n + 1) c (.DictComp kx vx gens scope pos) = some ie) : blkB c.N c.sc scope = true ∧
    ((∃ tg iter ifs it g iifs ik iv, gens = [⟨tg, iter, ifs, 0⟩] ∧ ie = .dc ((ownOf c.N scope.names).map (·.2)) g it iifs ik iv ∧ trI n c iter = some it ∧ trG n { c with sc := relS' scope c.sc } tg = some g ∧ trT n { c with sc := relS' scope c.sc } ifs = some iifs ∧
        trE n { c with sc := relS' scope c.sc } kx = some ik ∧ trE n { c with sc := relS' scope c.sc } vx = some iv ∧ (gslots g).all ((ownOf c.N scope.names).map (·.2)).contains = true ∧ (pairsOnly it && !isTup tg) = false) ∨
      ∃ tg iter ifs it g iifs tg1 iter1 ifs1 it1 g1 iifs1 ik iv, gens = [⟨tg, iter, ifs, 0⟩, ⟨tg1, iter1, ifs1, 0⟩] ∧ ie = .dc2 ((ownOf c.N scope.names).map (·.2)) g it iifs (gslots g1) g1 it1 iifs1 ik iv ∧ trI n c iter = some it ∧ trG n { c with sc := relS' scope c.sc } tg = some g ∧
        trT n { c with sc := relS' scope c.sc } ifs = some iifs ∧ trI n { c with sc := relS' scope c.sc } iter1 = some it1 ∧ trG n { c with sc := relS' scope c.sc } tg1 = some g1 ∧ trT n { c with sc := relS' scope c.sc } ifs1 = some iifs1 ∧ trE n { c with sc := relS' scope c.sc } kx = some ik ∧ trE n { c with sc := relS' scope c.sc } vx = some iv ∧
        (gslots g).all ((ownOf c.N scope.names).map (·.2)).contains = true ∧ (gslots g1).all ((ownOf c.N scope.names).map (·.2)).contains = true ∧ (pairsOnly it && !isTup tg) = false ∧ (pairsOnly it1 && !isTup tg1) = false) := by
  simp only [trE] at e
  split at e
  · rename_i tg iter ifs
    split at e
    · rename_i b
      simp only [Option.bind_eq_bind, Option.bind_eq_some_iff] at e
      obtain ⟨it, e1, g, e2, iifs, e3, ik, e4, iv, e5, e⟩ := e
      split at e
      · rename_i q
        simp only [Bool.and_eq_true, Bool.not_eq_true'] at q
        cases e
        exact ⟨b, .inl ⟨tg, iter, ifs, it, g, iifs, ik, iv, rfl, rfl, e1, e2, e3, e4, e5, q.1.2, q.2⟩⟩
      · cases e
    · cases e
  · rename_i tg iter ifs tg1 iter1 ifs1
    split at e
    · rename_i b
      simp only [Option.bind_eq_bind, Option.bind_eq_some_iff] at e
      obtain ⟨it, e1, g, e2, iifs, e3, it1, e4, g1, e5, iifs1, e6, ik, e7, iv, e8, e⟩ := e
      split at e
      · rename_i q
        simp only [Bool.and_eq_true, Bool.not_eq_true'] at q
        cases e
        exact ⟨b, .inr ⟨tg, iter, ifs, it, g, iifs, tg1, iter1, ifs1, it1, g1, iifs1, ik, iv, rfl, rfl, e1, e2, e3, e4, e5, e6, e7, e8, q.1.1.1.1.2, q.1.1.2, q.1.2, q.2⟩⟩
      · cases e
    · cases e
  · cases e
theorem snd_lc (ih : Snd C n) (h : Ctx C T X c W) {elt : Expr} {gens : List Comprehension} {scope : Scope} {pos : Pos} {ie : IE} (e : trE (n + 1) c (.ListComp elt gens scope pos) = some ie) : PE X (.ListComp elt gens scope pos) (RE X.K T W (evE C ie)) := by
  obtain ⟨b, ⟨tg, iter, ifs, it, g, iifs, ielt, rfl, rfl, e1, e2, e3, e4, q1, q2⟩ | ⟨tg, iter, ifs, it, g, iifs, tg1, iter1, ifs1, it1, g1, iifs1, ielt, rfl, rfl, e1, e2, e3, e4, e5, e6, e7, q1, q2, q3, q4⟩⟩ := lc_parts e
  · obtain ⟨i1, i2⟩ := ih.I h e1 q2
    have o := one_of (iter := iter) ih h b e2 e3 q1
    exact PE_imp (pe_lc h.calm h.nodup i1 (blk_ok h b) o.g o.t (in_E ih h e4) (set_ok i2)) fun σ H Q q => re_lc (sub_of q1) q
  · obtain ⟨i1, i2⟩ := ih.I h e1 q3
    have o := one_of (iter := iter) ih h b e2 e3 q1
    have o1 := one_of (iter := iter1) ih h b e5 e6 q2
    have st1 : isSet iter1 = false := (ih.I (blk_ctx h (s := X.s_0) (H := X.H_0) (cl := []) (A := 0) (fp := []) rfl) e4 q4).2
    exact PE_imp (pe_lc2 h.calm h.nodup i1 (blk_ok h b) (sub_of q2) o.g o.t (in_I ih h e4 q4) o1.g o1.t (in_E ih h e7) (set_ok i2) fun env => set_ok st1) fun σ H Q q => re_lc2 (sub_of q1) (fun i hi => hi) q
theorem snd_dc (ih : Snd C n) (h : Ctx C T X c W) {kx vx : Expr} {gens : List Comprehension} {scope : Scope} {pos : Pos} {ie : IE} (e : trE (n + 1) c (.DictComp kx vx gens scope pos) = some ie) : PE X (.DictComp kx vx gens scope pos) (RE X.K T W (evE C ie)) := by
  obtain ⟨b, ⟨tg, iter, ifs, it, g, iifs, ik, iv, rfl, rfl, e1, e2, e3, e4, e5, q1, q2⟩ | ⟨tg, iter, ifs, it, g, iifs, tg1, iter1, ifs1, it1, g1, iifs1, ik, iv, rfl, rfl, e1, e2, e3, e4, e5, e6, e7, e8, q1, q2, q3, q4⟩⟩ := dc_parts e
  · obtain ⟨i1, i2⟩ := ih.I h e1 q2
    have o := one_of (iter := iter) ih h b e2 e3 q1
    exact PE_imp (pe_dc h.calm h.nodup i1 (blk_ok h b) o.g o.t (in_E ih h e4) (in_E ih h e5) (set_ok i2)) fun σ H Q q => re_dc (sub_of q1) q
  · obtain ⟨i1, i2⟩ := ih.I h e1 q3
    have o := one_of (iter := iter) ih h b e2 e3 q1
    have o1 := one_of (iter := iter1) ih h b e5 e6 q2
    have st1 : isSet iter1 = false := (ih.I (blk_ctx h (s := X.s_0) (H := X.H_0) (cl := []) (A := 0) (fp := []) rfl) e4 q4).2
    exact PE_imp (pe_dc2 h.calm h.nodup i1 (blk_ok h b) (sub_of q2) (fun s H A cl fp Xb eb => by subst eb; exact ⟨o.g s H A cl fp, o.t s H A cl fp, in_I ih h e4 q4 s H A cl fp, o1.g s H A cl fp, o1.t s H A cl fp, in_E ih h e7 s H A cl fp, in_E ih h e8 s H A cl fp⟩) (set_ok i2) fun env => set_ok st1)
      fun σ H Q q => re_dc2 (sub_of q1) (fun i hi => hi) q
end
end Ev
end
section
set_option maxRecDepth 10000
namespace Ev
open PySem L2 PyProof.Rows
open PySem.W (Frag)

/-! ### isinstance -/
def tyS : Ty → String
  | .int => "int" | .str => "str" | .tuple => "tuple" | .list => "list" | .dict => "dict" | .bool => "bool"
theorem ty_names {x : Str} {t : Ty} (h : tyOf x = some t) : x ∈ bnames ∧ bootBuiltins x = some (.type (tyS t)) ∧ x ≠ ("__name__" : Str) := by
  unfold tyOf at h
  repeat' split at h
  all_goals first
    | (cases h; done)
    | (rename_i q; subst q; cases h; exact ⟨by decide, by decide +kernel, by decide⟩)
section
variable {C : CallS} {T : Tx} {X : Cx} {c : Cn} {W : WX} {n : Nat} {K : Frag} {H : Hp} {r : List Addr} {S : Sto}
theorem isi_ok {t : Ty} {x : D} {v : V} {b : Bool} (rv : RepV K H r x v) (si : SI K T H r S) (h : isiD t x S = some b) : ∃ s : String, TyX K H v (.type s) ∧ PySem.W.kitOne K (.type s) (.type (tyS t)) = some b := by
  cases rv with
  | non => simp only [isiD, Option.some.injEq] at h; subst h; exact ⟨"NoneType", .base .non, by cases t <;> exact kit_ty (by decide +kernel)⟩
  | bl b => simp only [isiD, Option.some.injEq] at h; subst h; exact ⟨"bool", .base (.bl b), by cases t <;> exact kit_ty (by decide +kernel)⟩
  | int i => simp only [isiD, Option.some.injEq] at h; subst h; exact ⟨"int", .base (.int i), by cases t <;> exact kit_ty (by decide +kernel)⟩
  | str s => simp only [isiD, Option.some.injEq] at h; subst h; exact ⟨"str", .base (.str _), by cases t <;> exact kit_ty (by decide +kernel)⟩
  | tup hq _ =>
    simp only [isiD, Option.some.injEq] at h; subst h
    refine ⟨"tuple", ?_, by cases t <;> exact kit_ty (by decide +kernel)⟩
    rcases hq with (e | ⟨o, e⟩) | ⟨o, its, n, e, c, _⟩
    · exact .base (.tup e)
    · exact .fTuple e
    · exact .kTuple e c
  | fl hq _ =>
    simp only [isiD, Option.some.injEq] at h; subst h
    refine ⟨"list", ?_, by cases t <;> exact kit_ty (by decide +kernel)⟩
    rcases hq with ⟨o, e⟩ | ⟨o, its, n, e, c, _⟩
    · exact .base (.frz e)
    · exact .kList e c
  | ref q =>
    simp only [isiD] at h
    split at h
    · rename_i ds es
      simp only [Option.some.injEq] at h; subst h
      obtain ⟨xs, e1, _⟩ := si.lst' es q
      exact ⟨"list", .base (.lst e1), by cases t <;> exact kit_ty (by decide +kernel)⟩
    · rename_i ds es
      simp only [Option.some.injEq] at h; subst h
      obtain ⟨xs, e1, _⟩ := si.dct es q
      exact ⟨"dict", .base (.dK e1), by cases t <;> exact kit_ty (by decide +kernel)⟩
    · cases h
theorem re_isi {t : Ty} {ia : IE} {σ : L2.St} {Q : VK} (h : RE K T W (evE C (.isi t ia)) σ H Q) : tCB (rIsi K) (tCons (RE K T W (evE C ia)) (tCons (tC (.ty (tyS t))) tNil)) σ H Q := by
  obtain ⟨r, env, S, he, si, h⟩ := h
  rw [evE] at h
  refine ⟨r, env, S, he, si, h.bind fun x S1 r1 v H1 _ e1 rv si1 h1 => ?_⟩
  cases ht : isiD t x S1 with
  | none => rw [ht] at h1; exact False.elim h1
  | some b =>
    rw [ht] at h1
    obtain ⟨s, h2, h3⟩ := isi_ok rv si1 ht
    exact ⟨v, .ty (tyS t), _, _, b, rfl, .ty _, h2, h3, h1 r1 _ H1 (Xt.refl _ _) (.bl _) si1⟩
theorem snd_isi (ih : Snd C n) (h : Ctx C T X c W) {a : Expr} {ty : Str} {p p2 pos : Pos} {ia : IE} {t : Ty} (hgl : c.glob "isinstance" = true) (hg2 : c.glob ty = true) (ht : tyOf ty = some t) (hs : starred a = false) (e : trE n c a = some ia) :
    PE X (.Call (.Name "isinstance" p) [a, .Name ty p2] [] pos) (RE X.K T W (evE C (.isi t ia))) := by
  obtain ⟨g1, g2⟩ := glob_ok h hgl
  obtain ⟨g3, g4⟩ := glob_ok h hg2
  obtain ⟨b1, b2, b3⟩ := ty_names ht
  have z2 : starEach [.Name ty p2] X.env = (false, eval (.Name ty p2) X.env) :: starEach [] X.env := rfl
  have z1 : starEach [a, .Name ty p2] X.env = (false, eval a X.env) :: starEach [.Name ty p2] X.env := star_ok hs
  exact PE_imp (pe_callB call_isi g1 (h.bn _ (by decide)) (by decide +kernel) (pa_cons (ih.E h e) (pa_cons (pe_bltn (v := .ty (tyS t)) g3 (h.bn _ b1) b2 rfl b3 g4) pa_nil z2) z1) (by decide) g2 z1 (by rw [z2]; rfl)) fun σ H Q q => re_isi q

/-! ### constants of the module -/
theorem snd_cst (h : Ctx C T X c W) {x : Str} {p : Pos} {ie : IE} (hgl : c.glob x = true) (e : c.cst.lookup x = some ie) : PE X (.Name x p) (RE X.K T W (evE C ie)) := by
  obtain ⟨g1, g2⟩ := glob_ok h hgl
  rcases h.cst x ie e with ⟨i, t, rfl, hm⟩ | ⟨s, t, rfl, hm⟩
  · exact PE_imp (pe_glob g1 hm (v := .int i) ⟨t, rfl⟩ g2) fun σ H Q q => re_c (d := .int i) q fun _ => .int i
  · exact PE_imp (pe_glob g1 hm (v := .str (sv s)) ⟨t, rfl⟩ g2) fun σ H Q q => re_c (d := .str s) q fun _ => .str s

/-! ### a lambda that is told -/
theorem lam_ok {sc scope : Scope} (h : lamB sc scope = true) : LamX.LamS sc scope := by
  unfold lamB at h
  simp only [Bool.and_eq_true, Bool.not_eq_true', List.all_eq_true, Bool.or_eq_true, bne_iff_ne] at h
  obtain ⟨⟨⟨h1, h2⟩, h3⟩, h4⟩ := h
  refine ⟨sk_eq h1, h2, h3, fun y hy => ?_, fun y hy e => ?_⟩
  · have := (h4 y hy).1
    refine ⟨fun z => ?_, fun z => ?_⟩
    · rw [z] at this; exact absurd this.1 (by decide)
    · rw [z] at this; exact absurd this.2 (by decide)
  · rcases (h4 y hy).2 with (z | z) | z
    · rw [e] at z; exact absurd z (by decide)
    · exact .inl (nk_eq z)
    · exact .inr (nk_eq z)
theorem bare_ok {params : Arguments} (h : bareArgs params = true) : params = ⟨[], [], none, [], [], none, []⟩ := by
  unfold bareArgs at h
  split at h
  · rfl
  · cases h
theorem lam_ctx (h : Ctx C T X c W) {d lv : Nat} {scope : Scope} {A : Around} {outer : List PySem.Env} {s : Shared} {H : Hp} {E : XK} {f c' : Addr} (ff : FnsAt C T X c.fns lv)
    (hr : Room (lv + d) (A.deeper (LamX.lamEnv X scope s.heap.objs.size f c'))) :
    Ctx C T (LamX.lamCx X A outer s H E scope f c') { c with sc := scope, d := d, gen := none, lmk := false } (fun cls dd _ H' => E cls dd H') :=
  ⟨h.N, h.nd, rfl, rfl, takes_of rfl rfl rfl rfl, h.bn, ⟨lv, hr, ff⟩, h.cst, h.cl, h.fl, h.sub, h.told, fun k e => (by cases e), fun e => (by cases e), h.tabs⟩
theorem told_w {cls : Value} {q : Str → Prop} (h : Ctx C T X c W) {e : Nat} {Ce : Addr} (he : T.cls[e]? = some Ce) (hc : cls = .ref Ce) : ∀ {hs : List (Nat × List Nat)} {hs' : List (List Nat × List Nat)} {l : List (Addr × Str)}, TL T hs l → toldHs c hs = some hs' →
    ∀ {p : List Nat × List Nat}, hs'.find? (fun h => h.1.contains e) = some p → q (sv p.2) → wTold X.K l cls q
  | [], _, [], _, h1, p, hf, _ => by
    simp [toldHs] at h1; subst h1; simp at hf
  | (j, s) :: hs, hs', (Cj, z) :: l, ⟨t1, t2, t3⟩, h1, p, hf, hq => by
    simp only [toldHs, List.mapM_cons, Option.bind_eq_bind, Option.bind_eq_some_iff, Option.map_eq_some_iff, Option.pure_def, Option.some.injEq] at h1
    obtain ⟨p1, ⟨lj, h2, rfl⟩, r1, h3, rfl⟩ := h1
    have hx := h.sub e j Ce Cj lj he t1 h2
    rw [← hc] at hx
    refine ⟨lj.contains e, hx, fun hb => ?_, fun hb => ?_⟩
    · rw [List.find?_cons_of_pos (by simpa using hb)] at hf
      cases hf
      rw [t2]; exact hq
    · rw [List.find?_cons_of_neg (by simpa using hb)] at hf
      exact told_w h he hc t3 h3 hf hq
  | [], _, _ :: _, h0, _, _, _, _ => h0.elim
  | _ :: _, _, [], h0, _, _, _, _ => h0.elim
theorem SI.grow {H' : Hp} (si : SI K T H r S) (g : Grown T H H') : SI K T H' r S ∧ Xt r H r H' := by
  have x : Xt r H r H' := ⟨⟨[], by simp, by simp⟩, fun a o e _ n => g.keep a o e n, g.there, g.tbl⟩
  refine ⟨⟨si.len, si.nd, fun n o a e1 e2 => (si.obj n o a e1 e2).at x si.noTup ?_, fun t ht => g.tab t ht (si.tab t ht)⟩, x⟩
  have nt := si.noTup a (List.mem_of_getElem? e2)
  cases q : H a with
  | none => exact absurd q nt.1
  | some u => exact g.keep a u q fun ps z => nt.2.2.2.2.1 ps (by rw [q, z])
theorem snd_told (ih : Snd C n) (h : Ctx C T X c W) {x : Str} {params : Arguments} {body : Expr} {scope : Scope} {p lpos pos : Pos} {hs : List (Nat × List Nat)} {hs' : List (List Nat × List Nat)} {ib : IE} {d : Nat}
    (hgl : c.glob x = true) (ht : c.told.lookup x = some hs) (hd : c.d = d + 2) (hm : c.lmk = true) (hp : bareArgs params = true) (hl : lamB c.sc scope = true) (hpos : c.lam.contains (lpos.line, lpos.col) = true) (h1 : toldHs c hs = some hs')
    (e : trE n { c with sc := scope, d := d, gen := none, lmk := false } body = some ib) :
    PE X (.Call (.Name x p) [.Lambda params body scope lpos] [] pos) (RE X.K T W (evE C (.told hs' ib))) := by
  obtain ⟨g1, g2⟩ := glob_ok h hgl
  obtain ⟨l, F, tl⟩ := h.told x hs ht
  obtain ⟨t, cd, t1, t2, t3, t4, t5, t6, t7⟩ := h.lmk hm
  obtain ⟨lv, rm, ff⟩ := h.fn
  have hbp := bare_ok hp
  subst hbp
  have L : LamX.LamS X.env.scope scope := by rw [h.sc]; exact lam_ok hl
  have hpm : (lpos.line, lpos.col) ∈ t.ls := by rw [t3]; simpa using hpos
  rw [hd] at rm
  refine PE_imp (pe_told (T := T) (t := t) (l := l) (k := lv + d) (tb := fun E => RE X.K T (fun cls dd _ H' => E cls dd H') (evE C ib)) g1 F t6 t5 t2 hpm t4
    (fun t' h1 h2 => (t7 t' h1 h2).imp id fun z => ⟨by rw [z.1]; exact hpm, z.2⟩) (fun t' ht' => (h.tabs t' ht').1) rm L rfl (fun _ _ _ _ _ => rfl)
    (fun A outer s H E f c' hr => (ih.E (lam_ctx h ff hr) e)) g2) fun σ H Q q => ?_
  · obtain ⟨r, env, S, he, si, g⟩ := q
    refine ⟨si.tab t t1, fun H1 G => ?_⟩
    obtain ⟨si1, x1⟩ := si.grow G
    refine ⟨r, env, S, he.at si x1, si1, ?_⟩
    rw [evE] at g
    have g := g.shift x1
    cases hb : evE C ib env S with
    | bad => rw [hb] at g; exact g
    | ok v S1 => rw [hb] at g; exact g
    | exc ex S1 =>
      rw [hb] at g
      simp only at g
      split at g
      · rename_i pp hf
        intro r' H' cls dd xt si' xr
        obtain ⟨Ce, q1, q2, _⟩ := xr
        exact told_w h q1 q2 tl h1 hf (g r' _ H' xt (.str _) si')
      · exact False.elim g
end
end Ev
end
section
set_option maxRecDepth 10000
/-! any, all of a generator expression: what the evaluator says is what they do. -/
namespace Ev
open PySem L2 PyProof.Rows
open PySem.W (Frag)

def Tadd (T : Tx) (c P : Addr) : Tx := { T with tab := ⟨P, some c, 0, [], ⟨#[]⟩⟩ :: T.tab }
/-- the tables known in the new frame -/
def InT (T : Tx) (k : Nat) (code : Value) (T' : Tx) : Prop := match k with
  | 0 => T' = T
  | _ + 1 => ∃ c P, code = .ref c ∧ T' = Tadd T c P
theorem InT.cls {T T' : Tx} {k : Nat} {code : Value} (h : InT T k code T') : T'.cls = T.cls := by
  cases k with
  | zero => cases h; rfl
  | succ k => obtain ⟨c, P, _, rfl⟩ := h; rfl
theorem InT.sub {T T' : Tx} {k : Nat} {code : Value} (h : InT T k code T') : ∀ t ∈ T.tab, t ∈ T'.tab := by
  cases k with
  | zero => cases h; exact fun _ h => h
  | succ k => obtain ⟨c, P, _, rfl⟩ := h; exact fun _ h => List.mem_cons_of_mem _ h
theorem InT.new {T T' : Tx} {k : Nat} {code : Value} (h : InT T k code T') : ∀ t ∈ T'.tab, t ∈ T.tab ∨ (t.n = 0 ∧ t.ls = []) := by
  cases k with
  | zero => cases h; exact fun _ h => .inl h
  | succ k =>
    obtain ⟨c, P, _, rfl⟩ := h
    intro t ht
    rcases List.mem_cons.mp ht with rfl | ht
    · exact .inr ⟨rfl, rfl⟩
    · exact .inl ht
section
variable {C : CallS} {T T' : Tx} {X : Cx} {c : Cn} {W : WX} {n k : Nat} {K : Frag} {H H' : Hp} {r r' : List Addr} {S S' : Sto} {code : Value}
theorem SI.weak (hs : ∀ t ∈ T.tab, t ∈ T'.tab) (si : SI K T' H r S) : SI K T H r S := ⟨si.len, si.nd, si.obj, fun t ht => si.tab t (hs t ht)⟩
theorem SI.up (hn : ∀ t ∈ T'.tab, t ∈ T.tab ∨ (t.n = 0 ∧ t.ls = [])) (si : SI K T' H r S) (x : Xt r H r' H') (si' : SI K T H' r' S') : SI K T' H' r' S' := ⟨si'.len, si'.nd, si'.obj, fun t ht => by
  rcases hn t ht with z | ⟨z, _⟩
  · exact si'.tab t z
  · obtain ⟨h1, h2⟩ := si.tab t ht
    rw [z] at h1
    obtain ⟨ps, h3, h4⟩ := h1
    refine ⟨by rw [z]; exact x.tbl _ _ h3 h4, fun c e => x.keep _ _ (h2 c e) (fun m => ?_) codeG_ne⟩
    exact (si.noTup c m).2.2.2.2.2 _ (h2 c e)⟩
theorem ExR.cls (h : T'.cls = T.cls) {e : Ex} {cls : Value} {dd : Option Addr} (x : ExR K T H r e cls dd) : ExR K T' H r e cls dd := by
  obtain ⟨Ca, h1, h2⟩ := x
  exact ⟨Ca, by rw [h]; exact h1, h2⟩
/-- a promise told of the tables T holds of more -/
theorem fn_weak {P : Program} {w : World} {mg : Str → Option Value} {base : Heap} {lv m : Nat} {a : Addr} {fd : FuncData} {ps : List Str} {f : List D → Sto → Res D} (hs : ∀ t ∈ T.tab, t ∈ T'.tab) (hn : ∀ t ∈ T'.tab, t ∈ T.tab ∨ (t.n = 0 ∧ t.ls = [])) (hc : T'.cls = T.cls)
    (F : FnOk P w K mg base (L2.CX P w) lv a fd ps (spD K T m f)) : FnOk P w K mg base (L2.CX P w) lv a fd ps (spD K T' m f) := by
  have key : ∀ vs H Q E, spD K T' m f vs H Q E → spD K T m f vs H Q E := fun vs H Q E ⟨r, S, ds, h1, h2, h3, h4⟩ => by
    refine ⟨r, S, ds, h1, h2.weak hs, h3, ?_⟩
    cases hx : f ds S with
    | bad => rw [hx] at h4; exact h4
    | ok d S1 => rw [hx] at h4; exact fun r' v H' xt rv si' => h4 r' v H' xt rv (h2.up hn xt si')
    | exc e S1 => rw [hx] at h4; exact fun r' H' cls dd xt si' xr => h4 r' H' cls dd xt (h2.up hn xt si') (xr.cls hc)
  exact ⟨fun vs H Q E q => F.len vs H Q E (key _ _ _ _ q), fun A outer s H args us vs Q E h1 h2 h3 h4 q => F.run A outer s H args us vs Q E h1 h2 h3 h4 (key _ _ _ _ q)⟩
theorem gen_ctx (h : Ctx C T X c W) (hi : InT T k code T') {d lv : Nat} {scope : Scope} {A : Around} {s : Shared} {H : Hp} {fp : List Addr} {pn : List (Addr × Obj)} (ff : FnsAt C T X c.fns lv) (hr : Room (lv + d) A) (hbm : BmAt X.base X.mg) (hk1 : k ≤ 1) :
    Ctx C T' (genCx X A s H scope code fp pn) { c with sc := scope, d := d, gen := genIn k, lmk := false } Wf := by
  have ic := hi.cls
  refine ⟨h.N, h.nd, rfl, rfl, LamX.takes0, h.bn, ⟨lv, hr, fun x k hx => ?_⟩, h.cst, fun x k hx => by rw [ic]; exact h.cl x k hx, h.fl, by rw [ic]; exact h.sub, fun x hs hx => ?_, fun k' e => ?_, fun e => (by cases e), fun t ht => ?_⟩
  · obtain ⟨a, fd, ps, f1, f2, f3, f4, f5⟩ := ff x k hx
    exact ⟨a, fd, ps, f1, f2, f3, fn_weak hi.sub hi.new ic f4, f5⟩
  · obtain ⟨l, h1, h2⟩ := h.told x hs hx
    refine ⟨l, h1, ?_⟩
    have tl : ∀ (hs : List (Nat × List Nat)) (l : List (Addr × Str)), TL T hs l → TL T' hs l := by
      intro hs
      induction hs with
      | nil => intro l h; cases l <;> exact h
      | cons p hs ih =>
        intro l h
        cases l with
        | nil => exact h
        | cons q l =>
          obtain ⟨h1, h2, h3⟩ := h
          exact ⟨by rw [ic]; exact h1, h2, ih l h3⟩
    exact tl hs l h2
  · cases k with
    | zero => cases e
    | succ k =>
      obtain ⟨cc, P, rfl, rfl⟩ := hi
      obtain rfl : k = 0 := by omega
      cases e
      exact ⟨⟨P, some cc, 0, [], ⟨#[]⟩⟩, cc, List.mem_cons_self .., rfl, rfl, .inl rfl, hbm⟩
  · rcases hi.new t ht with z | ⟨z1, z2⟩
    · exact h.tabs t z
    · exact ⟨by omega, by rw [z2]; simp⟩
/-- the loop -/
theorem gen_ok {v : ItV} {J : It} {ig : IG} {ifs : IEs} {e : IE} {vs : List Nat} {env : Ev.Env} {σ : L2.St} {r1 r2 : List Addr} {H1 H2 : Hp} {S2 Sf : Sto} {stop kk : Bool} {Q : Bool → Hp → Prop} (hi : InT T k code T')
    (hI : RepI K T H1 r1 v J) (he : RepE K H2 r2 env σ) (e12 : Xt r1 H1 r2 H2) (si : SI K T' H2 r2 S2) (hg : ∀ i ∈ gslots ig, i ∈ vs)
    (hc : genL v (fun d S' => evG C ig d (Ev.wipe env vs) S') (fun env1 S' => evT C ifs env1 S') (fun env1 S' => match evE C e env1 S' with | .ok (.bl k) S2 => some (k, S2) | _ => none) stop fuel 0 S2 = some (kk, Sf))
    (hQ : ∀ r' H', Xt r2 H2 r' H' → SI K T' H' r' Sf → Q kk H') :
    tGenL stop J (fun v σ H Q => ∃ T', InT T k code T' ∧ RG K T' C ig v σ H Q) (fun σ H Q => ∃ T', InT T k code T' ∧ RTs K T' C ifs σ H Q) (fun σ H Q => ∃ T', InT T k code T' ∧ RE K T' Wf (evE C e) σ H Q) vs σ Q H2 := by
  refine ⟨fun i m H => ∃ r' S', Xt r2 H2 r' H ∧ SI K T' H r' S' ∧ genL v (fun d S' => evG C ig d (Ev.wipe env vs) S') (fun env1 S' => evT C ifs env1 S') (fun env1 S' => match evE C e env1 S' with | .ok (.bl k) S2 => some (k, S2) | _ => none) stop m i S' = some (kk, Sf), ⟨fuel, r2, S2, Xt.refl _ _, si, hc⟩, ?_⟩
  intro i m H ⟨r', S', x', si', hc'⟩
  cases m with
  | zero => simp [genL] at hc'
  | succ m =>
    unfold genL at hc'
    split at hc'
    · cases hc'
    · rename_i ht
      cases hc'
      exact .inl ⟨hI r' H _ i none (e12.trans x') (si'.weak hi.sub) ht, hQ r' H x' si'⟩
    · rename_i d ht
      obtain ⟨h1, h2⟩ := hI r' H S' i (some d) (e12.trans x') (si'.weak hi.sub) ht
      split at hc'
      · cases hc'
      · rename_i env1 S1 eg
        refine .inr ⟨h1, fun H' => ∃ r'' S'', Xt r2 H2 r'' H' ∧ SI K T' H' r'' S'' ∧ genL v (fun d S' => evG C ig d (Ev.wipe env vs) S') (fun env1 S' => evT C ifs env1 S') (fun env1 S' => match evE C e env1 S' with | .ok (.bl k) S2 => some (k, S2) | _ => none) stop m (i + 1) S'' = some (kk, Sf),
          fun H' ⟨r'', S'', a, b, c⟩ => ⟨m, Nat.lt_succ_self _, r'', S'', a, b, c⟩, fun x H' hy => ?_⟩
        obtain ⟨e3, rd, si3⟩ := h2 x H' hy
        have si3 := si'.up hi.new e3 si3
        have he3 : RepE K H' r' (Ev.wipe env vs) (L2.wipe σ vs) := ((he.at si x').at si' e3).wipe vs
        refine ⟨T', hi, r', _, S', d, env1, S1, he3, si3, rd, eg, fun r4 σ2 H4 e4 he4 si4 sm => ⟨(sm.wipe hg).trans (wipe_wipe vs σ), ?_⟩⟩
        refine ⟨T', hi, r4, env1, S1, he4, si4, ?_⟩
        cases et : evT C ifs env1 S1 with
        | bad => rw [et] at hc'; cases hc'
        | ok b S5 =>
          rw [et] at hc'
          show GoodG _ _ _ _ _ _ _ (tres (evT C ifs env1 S1)) _
          rw [et]
          intro r5 b' H5 e5 eb si5
          cases eb
          have e25 := ((x'.trans e3).trans e4).trans e5
          cases b
          · exact ⟨r5, S5, e25, si5, hc'⟩
          · simp only at hc'
            rw [if_pos rfl]
            refine ⟨T', hi, r5, env1, S5, he4.at si4 e5, si5, ?_⟩
            split at hc'
            · cases hc'
            · rename_i k1 S6 eb
              split at eb
              · rename_i k2 S7 ev
                cases eb
                rw [ev]
                intro r6 y H6 e6 ry si6
                cases ry
                refine ⟨k1, rfl, ?_⟩
                split at hc'
                · rename_i hk
                  cases hc'
                  rw [if_pos hk]
                  exact hQ r6 H6 (e25.trans e6) si6
                · rename_i hk
                  rw [if_neg hk]
                  exact ⟨r6, S6, e25.trans e6, si6, hc'⟩
              · cases eb
theorem re_gen {σ : L2.St} {Q : VK} {t : Tb} {vs : List Nat} {ig : IG} {it : II} {ifs : IEs} {e : IE} {stop : Bool} (ht : t ∈ T.tab) (hg : ∀ i ∈ gslots ig, i ∈ vs) (h : RE K T W (evE C (.gen stop vs ig it ifs e)) σ H Q) :
    tAnyG T t stop (RI K T W (evI C it)) (fun code v σ H Q => ∃ T', InT T t.n code T' ∧ RG K T' C ig v σ H Q) (fun code σ H Q => ∃ T', InT T t.n code T' ∧ RTs K T' C ifs σ H Q) (fun code σ H Q => ∃ T', InT T t.n code T' ∧ RE K T' Wf (evE C e) σ H Q) vs σ H Q := by
  obtain ⟨r, env, S, he, si, h⟩ := h
  rw [evE] at h
  refine ⟨r, env, S, he, si, h.bind fun v S1 r1 J H1 _ e1 rJ si1 h1 => ⟨si1.tab t ht, fun code H2 G cond => ?_⟩⟩
  obtain ⟨si2, x2⟩ := si1.grow G
  split at h1
  · rename_i kk S2 ec
    have main : ∀ T', InT T t.n code T' → SI K T' H2 r1 S1 → tGenL stop J (fun v σ H Q => ∃ T', InT T t.n code T' ∧ RG K T' C ig v σ H Q) (fun σ H Q => ∃ T', InT T t.n code T' ∧ RTs K T' C ifs σ H Q) (fun σ H Q => ∃ T', InT T t.n code T' ∧ RE K T' Wf (evE C e) σ H Q) vs σ (fun k H => Q (.bl k) H) H2 := fun T' hi si3 =>
      gen_ok hi rJ ((he.at si e1).at si1 x2) x2 si3 hg ec fun r' H' a b => h1 r' _ H' (x2.trans a) (.bl kk) (b.weak hi.sub)
    revert cond
    generalize hk : t.n = k at main
    intro cond
    cases k with
    | zero => exact main T rfl si2
    | succ k =>
      obtain ⟨cc, P, rfl, h2, h3⟩ := cond
      refine main (Tadd T cc P) ⟨cc, P, rfl, rfl⟩ ⟨si2.len, si2.nd, si2.obj, fun t' ht' => ?_⟩
      rcases List.mem_cons.mp ht' with rfl | ht'
      · exact ⟨h3.good, fun c e => by cases e; exact h2⟩
      · exact si2.tab t' ht'
  · exact False.elim h1
theorem genFold_ok {iter : Expr} {env : PySem.Env} (h1 : isSet iter = false) (h2 : isListD iter = false) (v : Value) : genFold iter env v = pure v := by
  cases iter <;> first | rfl | (cases h1; done) | (cases h2; done)
theorem snd_gen (ih : Snd C n) (h : Ctx C T X c W) {x : Str} {elt tg iter : Expr} {ifs : List Expr} {scope : Scope} {p gpos pos : Pos} {stop : Bool} {k d : Nat} {it : II} {g : IG} {iifs : IEs} {ie : IE}
    (hgl : c.glob x = true) (hx : genOf x = some stop) (hk : c.gen = some k) (hd : c.d = d + 1) (hb : blkB c.N c.sc scope = true) (hgb : genB c.N scope = true) (hpos : c.lam.contains (gpos.line, gpos.col) = false) (hs1 : isSet iter = false) (hs2 : isListD iter = false)
    (e1 : trI n c iter = some it) (e2 : trG n { c with sc := scope, d := d, gen := genIn k, lmk := false } tg = some g) (e3 : trT n { c with sc := scope, d := d, gen := genIn k, lmk := false } ifs = some iifs)
    (e4 : trE n { c with sc := scope, d := d, gen := genIn k, lmk := false } elt = some ie) (hg : (gslots g).all ((ownOf c.N scope.names).map (·.2)).contains = true) (hp : (pairsOnly it && !isTup tg) = false) :
    PE X (.Call (.Name x p) [.GeneratorExp elt [⟨tg, iter, ifs, 0⟩] scope gpos] [] pos) (RE X.K T W (evE C (.gen stop ((ownOf c.N scope.names).map (·.2)) g it iifs ie))) := by
  obtain ⟨g1, g2⟩ := glob_ok h hgl
  obtain ⟨t, cd, t1, t2, t3⟩ := h.gen k hk
  obtain ⟨lv, rm, ff⟩ := h.fn
  rw [hd] at rm
  have hk1 : k ≤ 1 := by rw [← t2]; exact (h.tabs t t1).1
  unfold genB at hgb
  simp only [Bool.and_eq_true, Bool.not_eq_true', List.all_eq_true, bne_iff_ne, Option.isNone_iff_eq_none] at hgb
  obtain ⟨⟨⟨b1, b2⟩, b3⟩, b4⟩ := hgb
  have ok : GenSc X.N X.env.scope scope (ownOf c.N scope.names) := ⟨blk_ok h hb, b1, fun y hy z => (by have := b2 y hy; rw [z] at this; exact absurd this (by decide)), nk_eq b3⟩
  have hls : ∀ t ∈ T.tab, (gpos.line, gpos.col) ∉ t.ls := fun t ht m => by
    have := (h.tabs t ht).2 _ m
    rw [← List.contains_iff_mem] at this
    rw [hpos] at this; cases this
  have gs : ∀ i ∈ gslots g, i ∈ (ownOf c.N scope.names).map (·.2) := sub_of hg
  have i1 := (ih.I h e1 hp).1
  have wr : ∀ {A : Around} {s : Shared} {H : Hp} {code : Value} {fp : List Addr} {pn : List (Addr × Obj)}, ∀ i ∈ gslots g, Wr (genCx X A s H scope code fp pn) i := fun {A s H code fp pn} i hi => by
    obtain ⟨⟨y, j⟩, hpm, rfl⟩ := List.mem_map.mp (gs i hi)
    obtain ⟨kk, hm, hkk, hj⟩ := own_mem hpm
    intro x hx
    have hx' : c.N[j]? = some x := by rw [← h.N]; exact hx
    have e := ixOf_get hj
    rw [e] at hx'
    obtain rfl := Option.some.inj hx'
    have u := (blk_ok h hb).uniq (y, kk) hm
    rcases hkk with rfl | rfl
    · exact .inr u
    · exact absurd rfl (b2 (y, .cell) hm)
  have hdot : ((".0" : Str)) ∉ X.N := by rw [h.N]; exact ixOf_none b4
  subst t2
  have PG' : ∀ (A : Around) (s : Shared) (H : Hp) (code : Value) (fp : List Addr) (pn : List (Addr × Obj)), Room (lv + d) A → PG (genCx X A s H scope code fp pn) tg (fun v σ H Q => ∃ T', InT T t.n code T' ∧ RG X.K T' C g v σ H Q) := fun A s H code fp pn hr =>
    ⟨fun pins s' σ' H' v u Q I rv ⟨T', hi, q⟩ => (ih.G (gen_ctx h hi ff hr t3.bm hk1) e2 wr).run pins s' σ' H' v u Q I rv q⟩
  have PT' : ∀ (A : Around) (s : Shared) (H : Hp) (code : Value) (fp : List Addr) (pn : List (Addr × Obj)), Room (lv + d) A → PTs (genCx X A s H scope code fp pn) ifs (fun σ H Q => ∃ T', InT T t.n code T' ∧ RTs X.K T' C iifs σ H Q) := fun A s H code fp pn hr =>
    ⟨fun pins s' σ' H' Q I ⟨T', hi, q⟩ => (ih.Ts (gen_ctx h hi ff hr t3.bm hk1) e3).run pins s' σ' H' Q I q⟩
  have PE' : ∀ (A : Around) (s : Shared) (H : Hp) (code : Value) (fp : List Addr) (pn : List (Addr × Obj)), Room (lv + d) A → PE (genCx X A s H scope code fp pn) elt (fun σ H Q => ∃ T', InT T t.n code T' ∧ RE X.K T' Wf (evE C ie) σ H Q) := fun A s H code fp pn hr =>
    ⟨fun pins s' σ' H' Q I ⟨T', hi, q⟩ => (ih.E (gen_ctx h hi ff hr t3.bm hk1) e4).run pins s' σ' H' Q I q⟩
  unfold genOf at hx
  split at hx
  · rename_i hn
    cases hx
    subst hn
    exact PE_imp (pe_anyG (T := T) (k := lv + d) g1 (h.bn _ (by decide)) h.calm h.nodup hdot rm t3 hls (fun t ht => (h.tabs t ht).1) (fun _ => hls t t1) hk1 i1 ok PG' PT' PE' (genFold_ok hs1 hs2)) fun σ H Q q => re_gen t1 gs q
  · split at hx
    · rename_i hn
      cases hx
      subst hn
      exact PE_imp (pe_allG (T := T) (k := lv + d) g1 (h.bn _ (by decide)) h.calm h.nodup hdot rm t3 hls (fun t ht => (h.tabs t ht).1) (fun _ => hls t t1) hk1 i1 ok PG' PT' PE' (genFold_ok hs1 hs2)) fun σ H Q q => re_gen t1 gs q
    · cases hx
end
end Ev
end
section
set_option maxRecDepth 10000
namespace Ev
open PySem L2 PyProof.Rows
open PySem.W (Frag)

section
variable {C : CallS} {T : Tx} {X : Cx} {c : Cn} {W : WX} {n : Nat}
theorem boolR_bl {o : Option Bool} {S S' : Sto} {d : D} (h : boolR o S = .ok d S') : ∃ b, d = .bl b := by
  cases o with
  | none => cases h
  | some b => cases h; exact ⟨b, rfl⟩
theorem bind_ok {α β : Type} {r : Res α} {f : α → Sto → Res β} {b : β} {S' : Sto} (h : r.bind f = .ok b S') : ∃ a S, r = .ok a S ∧ f a S = .ok b S' := by
  cases r with
  | ok a S => exact ⟨a, S, rfl, h⟩
  | exc _ _ => cases h
  | bad => cases h
/-- comparisons, both readings -/
theorem snd_cmp (ih : Snd C n) (h : Ctx C T X c W) {a : Expr} {ops : List CmpOp} {bs : List Expr} {pos : Pos} {ie : IE} (e : trE (n + 1) c (.Compare a ops bs pos) = some ie) :
    PE X (.Compare a ops bs pos) (RE X.K T W (evE C ie)) ∧ PT X (.Compare a ops bs pos) (RT X.K T W (tru (evE C ie))) := by
  simp only [trE] at e
  split at e
  · rename_i o b
    split at e
    · cases e
    · rename_i q
      simp only [Option.bind_eq_bind, Option.bind_eq_some_iff, Option.some.injEq] at e
      obtain ⟨io, e1, ia, e2, ib, e3, rfl⟩ := e
      have m : behindInMarks o b = false := marks_ok (by simpa using q)
      refine ⟨PE_imp (pe_cmpR (copE (T := T) h.un e1) (ih.E h e2) (ih.E h e3) m) fun σ H Q q => re_cmp q, PT_imp (pt_cmpR (copE (T := T) h.un e1) (ih.E h e2) (ih.E h e3) m) fun σ H Q q => ?_⟩
      refine re_cmp (fa := evE C ia) (fb := evE C ib) (o := io) (rt_bool (fun env S d S' hd => ?_) q)
      obtain ⟨_, _, _, h2⟩ := bind_ok (show (evE C ia env S).bind _ = _ from hd)
      obtain ⟨_, _, _, h3⟩ := bind_ok h2
      exact boolR_bl h3
  · rename_i o o' b d
    split at e
    · cases e
    · rename_i q
      simp only [Option.bind_eq_bind, Option.bind_eq_some_iff, Option.some.injEq] at e
      obtain ⟨io, e1, io', e2, ia, e3, ib, e4, id, e5, rfl⟩ := e
      have m : lastMarks [o, o'] [b, d] = false := by
        show behindInMarks o' d = false
        exact marks_ok (by simpa using q)
      refine ⟨PE_imp (pe_chain (copE (T := T) h.un e1) (copE (T := T) h.un e2) (ih.E h e3) (ih.E h e4) (ih.E h e5) m) fun σ H Q q => re_cmp2 q, PT_imp (pt_chain (copE (T := T) h.un e1) (copE (T := T) h.un e2) (ih.E h e3) (ih.E h e4) (ih.E h e5) m) fun σ H Q q => ?_⟩
      refine re_cmp2 (fa := evE C ia) (fb := evE C ib) (fc := evE C id) (o := io) (o' := io') (rt_bool (fun env S d S' hd => ?_) q)
      obtain ⟨_, _, _, h2⟩ := bind_ok (show (evE C ia env S).bind _ = _ from hd)
      obtain ⟨x, S2, _, h3⟩ := bind_ok h2
      split at h3
      · obtain ⟨_, _, _, h4⟩ := bind_ok h3
        exact boolR_bl h4
      · cases h3; exact ⟨false, rfl⟩
      · cases h3
  · cases e
theorem snd_call (ih : Snd C n) (h : Ctx C T X c W) {f : Expr} {es : List Expr} {ks : List Keyword} {pos : Pos} {ie : IE} (e : trE (n + 1) c (.Call f es ks pos) = some ie) : PE X (.Call f es ks pos) (RE X.K T W (evE C ie)) := by
  cases ks with
  | cons _ _ => simp only [trE] at e; cases e
  | nil =>
    cases f with
    | Name x p =>
      simp only [trE] at e
      split at e
      · rename_i hgl
        split at e
        · -- a generator
          rename_i stop elt tg iter ifs scope gpos hx
          split at e
          · rename_i k d hk hd
            split at e
            · rename_i hc
              simp only [Bool.and_eq_true, Bool.not_eq_true', Option.isNone_iff_eq_none] at hc
              obtain ⟨⟨⟨⟨⟨c1, c2⟩, c3⟩, c4⟩, c5⟩, c6⟩ := hc
              simp only [Option.bind_eq_bind, Option.bind_eq_some_iff] at e
              obtain ⟨it, e1, g, e2, iifs, e3, ie', e4, e⟩ := e
              split at e
              · rename_i q
                simp only [Bool.and_eq_true, Bool.not_eq_true'] at q
                cases e
                exact snd_gen ih h hgl hx hk hd c2 c3 c4 c5 c6 e1 e2 e3 e4 q.1.2 q.2
              · cases e
            · cases e
          · cases e
        · -- a lambda
          rename_i params body scope lpos _
          split at e
          · rename_i hs d ht hd
            split at e
            · rename_i hc
              simp only [Bool.and_eq_true] at hc
              obtain ⟨⟨⟨c1, c2⟩, c3⟩, c4⟩ := hc
              simp only [Option.bind_eq_bind, Option.bind_eq_some_iff, Option.some.injEq] at e
              obtain ⟨hs', e1, ib, e2, rfl⟩ := e
              exact snd_told ih h hgl ht hd c1 c2 c3 c4 e1 e2
            · cases e
          · cases e
        · -- isinstance
          rename_i a ty p2 _
          split at e
          · rename_i hx
            subst hx
            split at e
            · rename_i hc
              simp only [Bool.and_eq_true, Bool.not_eq_true', Option.isNone_iff_eq_none] at hc
              obtain ⟨⟨⟨c1, c2⟩, c3⟩, c4⟩ := hc
              simp only [Option.bind_eq_bind, Option.bind_eq_some_iff, Option.some.injEq] at e
              obtain ⟨t, e1, ia, e2, rfl⟩ := e
              exact snd_isi ih h hgl c2 e1 c4 e2
            · cases e
          · exact ih.Cl h hgl e
        · exact ih.Cl h hgl e
      · cases e
    | Attribute o m apos => exact snd_me ih h e
    | _ => simp only [trE] at e; cases e
theorem snd_E (ih : Snd C n) (h : Ctx C T X c W) {a : Expr} {ie : IE} (e : trE (n + 1) c a = some ie) : PE X a (RE X.K T W (evE C ie)) := by
  cases a with
  | Name x pos =>
    simp only [trE] at e
    split at e
    · rename_i i e1
      cases e
      obtain ⟨s1, s2, s3, s4⟩ := slot_ok h e1
      exact PE_imp (pe_var s1 s2 s3 s4) fun σ H Q q => re_var q
    · split at e
      · rename_i hg
        exact snd_cst h hg e
      · cases e
  | Constant k j pos =>
    cases k with
    | none => simp only [trE, Option.some.injEq] at e; subst e; exact PE_imp pe_non fun σ H Q q => re_c (d := .non) q fun _ => .non
    | bool b => simp only [trE, Option.some.injEq] at e; subst e; exact PE_imp pe_bl fun σ H Q q => re_c (d := .bl b) q fun _ => .bl b
    | int i => simp only [trE, Option.some.injEq] at e; subst e; exact PE_imp pe_int fun σ H Q q => re_c (d := .int i) q fun _ => .int i
    | str s => simp only [trE, Option.some.injEq] at e; subst e; exact PE_imp pe_str fun σ H Q q => re_c (d := .str s.cps.toList) q fun r => by have z := RepV.str (K := X.K) (H := H) (r := r) s.cps.toList; rwa [sv_cps] at z
    | _ => simp [trE] at e
  | BinOp a o b pos =>
    simp only [trE, Option.bind_eq_bind, Option.bind_eq_some_iff, Option.some.injEq] at e
    obtain ⟨io, e1, ia, e2, ib, e3, rfl⟩ := e
    exact PE_imp (pe_op (opD e1) (ih.E h e2) (ih.E h e3)) fun σ H Q q => re_op (binD_nx io) q
  | UnaryOp op a pos =>
    cases op with
    | USub =>
      simp only [trE, Option.map_eq_some_iff] at e
      obtain ⟨ia, e1, rfl⟩ := e
      exact PE_imp (pe_un un_neg (ih.E h e1)) fun σ H Q q => re_neg q
    | Not =>
      simp only [trE, Option.map_eq_some_iff] at e
      obtain ⟨ia, e1, rfl⟩ := e
      exact PE_imp (pe_notT (ih.E h e1)) fun σ H Q q => re_not q
    | _ => simp [trE] at e
  | BoolOp op es pos =>
    simp only [trE] at e
    cases es with
    | nil => cases e
    | cons a r =>
      simp only [Option.bind_eq_bind, Option.bind_eq_some_iff] at e
      obtain ⟨ia, e1, e2⟩ := e
      cases op with
      | And => exact ih.A h (ih.E h e1) e2
      | Or => exact ih.O h (ih.E h e1) e2
  | IfExp t a b pos =>
    simp only [trE, Option.bind_eq_bind, Option.bind_eq_some_iff, Option.some.injEq] at e
    obtain ⟨it, e1, ia, e2, ib, e3, rfl⟩ := e
    exact PE_imp (pe_ifExp (ih.P h e1) (ih.E h e2) (ih.E h e3)) fun σ H Q q => re_ife q
  | Compare a ops bs pos => exact (snd_cmp ih h e).1
  | Tuple es k pos =>
    simp only [trE, Option.map_eq_some_iff] at e
    obtain ⟨ia, e1, rfl⟩ := e
    exact PE_imp (pe_tup (ih.Es h e1)) fun σ H Q q => re_tup q
  | List es pos =>
    simp only [trE, Option.map_eq_some_iff] at e
    obtain ⟨ia, e1, rfl⟩ := e
    exact PE_imp (pe_lst (ih.Es h e1)) fun σ H Q q => re_lst q
  | Dict ks vs pos =>
    simp only [trE] at e
    split at e
    · rename_i h15
      simp only [Option.map_eq_some_iff] at e
      obtain ⟨ps, e1, rfl⟩ := e
      obtain ⟨p1, p2, p3⟩ := ih.Ps (pos := pos) h e1
      cases ks with
      | nil =>
        cases vs with
        | cons _ _ => cases p3
        | nil =>
          have : ps = .nil := by
            cases n with
            | zero => simp [trPs] at e1
            | succ m => simp only [trPs, Option.some.injEq] at e1; exact e1.symm
          subst this
          exact PE_imp pe_dnewK fun σ H Q q => re_dct0 q
      | cons k ks => exact PE_imp (pe_disp p1 p2 p3 (by simp) h15) fun σ H Q q => re_dct q
    · cases e
  | Subscript a i pos =>
    simp only [trE] at e
    split at e
    · rename_i lo hi st p2
      split at e
      · simp only [Option.bind_eq_bind, Option.bind_eq_some_iff, Option.some.injEq] at e
        obtain ⟨ia, e1, il, e2, iu, e3, rfl⟩ := e
        exact PE_imp (pe_slice slE (ih.E h e1) (ih.Op h e2) (ih.Op h e3)) fun σ H Q q => re_sl q
      · cases e
    · rename_i hno
      simp only [Option.bind_eq_bind, Option.bind_eq_some_iff, Option.some.injEq] at e
      obtain ⟨ia, e1, ii, e2, rfl⟩ := e
      have hs : isSlice i = false := by cases i <;> first | rfl | exact absurd rfl (hno _ _ _ _)
      exact PE_imp (pe_ix (ixE h.un1) (ih.E h e1) (ih.E h e2) (ix_ok hs)) fun σ H Q q => re_op ixD_nx q
  | Call f es ks pos => exact snd_call ih h e
  | ListComp elt gens scope pos => exact snd_lc ih h e
  | DictComp k v gens scope pos => exact snd_dc ih h e
  | _ => simp [trE] at e
theorem rt_ife {K : Frag} {σ : L2.St} {H : Hp} {QB : Bool → Hp → Prop} {fa fb fc : Ev.Env → Sto → Res D} (h : RT K T W (tru fun env S => (fc env S).bind fun x S1 => match truth S1 x with | some true => fa env S1 | some false => fb env S1 | none => .bad) σ H QB) :
    RT K T W (tru fc) σ H fun k H1 => if k = true then RT K T W (tru fa) σ H1 QB else RT K T W (tru fb) σ H1 QB := by
  obtain ⟨r, env, S, he, si, h⟩ := h
  refine ⟨r, env, S, he, si, ?_⟩
  simp only [tru] at h ⊢
  cases hx : fc env S with
  | bad => rw [hx] at h; exact False.elim h
  | exc e S1 => rw [hx] at h; exact h
  | ok x S1 =>
    rw [hx] at h
    simp only [Res.bind] at h ⊢
    cases ht : truth S1 x with
    | none => rw [ht] at h; exact False.elim h
    | some b =>
      rw [ht] at h
      cases b
      · exact fun r' b' H' e eb si' => by cases eb; exact ⟨r', env, S1, he.at si e, si', GoodG.shift e h⟩
      · exact fun r' b' H' e eb si' => by cases eb; exact ⟨r', env, S1, he.at si e, si', GoodG.shift e h⟩
theorem snd_P (ih : Snd C n) (h : Ctx C T X c W) {a : Expr} {ie : IE} (e : trE (n + 1) c a = some ie) : PT X a (RT X.K T W (tru (evE C ie))) := by
  cases hp : plainT a with
  | true => exact PT_imp (pt_truth (snd_E ih h e) (plainT_ok hp)) fun σ H Q q => rt_truth q
  | false =>
    cases a with
    | UnaryOp op a pos =>
      cases op with
      | Not =>
        simp only [trE, Option.map_eq_some_iff] at e
        obtain ⟨ia, e1, rfl⟩ := e
        exact PT_imp (pt_not (ih.P h e1)) fun σ H Q q => rt_not q
      | _ => cases hp
    | BoolOp op es pos =>
      simp only [trE] at e
      cases es with
      | nil => cases e
      | cons a r =>
        simp only [Option.bind_eq_bind, Option.bind_eq_some_iff] at e
        obtain ⟨ia, e1, e2⟩ := e
        cases op with
        | And => exact (ih.AT h (ih.P h e1) e2).pt
        | Or => exact (ih.OT h (ih.P h e1) e2).pt
    | IfExp t a b pos =>
      simp only [trE, Option.bind_eq_bind, Option.bind_eq_some_iff, Option.some.injEq] at e
      obtain ⟨it, e1, ia, e2, ib, e3, rfl⟩ := e
      exact PT_imp (pt_ifExp (ih.P h e1) (ih.P h e2) (ih.P h e3)) fun σ H Q q => rt_ife q
    | Compare a ops bs pos => exact (snd_cmp ih h e).2
    | _ => cases hp
theorem snd : ∀ n, Snd C n
  | 0 => Snd.zero
  | n + 1 => {
    E := by intro T X c W h; intros; apply snd_E (snd n) h <;> assumption
    P := by intro T X c W h; intros; apply snd_P (snd n) h <;> assumption
    A := by intro T X c W h; intros; apply snd_A (snd n) h <;> assumption
    O := by intro T X c W h; intros; apply snd_O (snd n) h <;> assumption
    AT := by intro T X c W h; intros; apply snd_AT (snd n) h <;> assumption
    OT := by intro T X c W h; intros; apply snd_OT (snd n) h <;> assumption
    Cl := by intro T X c W h; intros; apply snd_Cl (snd n) h <;> assumption
    Es := by intro T X c W h; intros; apply snd_Es (snd n) h <;> assumption
    Ps := by intro T X c W h; intros; apply snd_Ps (snd n) h <;> assumption
    Op := by intro T X c W h; intros; apply snd_Op (snd n) h <;> assumption
    I := by intro T X c W h; intros; apply snd_I (snd n) h <;> assumption
    Ts := by intro T X c h; intros; apply snd_Ts (snd n) h <;> assumption
    G := by intro T X c W h; intros; apply snd_G (snd n) h <;> assumption
    Gs := by intro T X c W h; intros; apply snd_Gs (snd n) h <;> assumption }
end
end Ev
end
section
set_option maxRecDepth 10000
/-! Statements: readings. -/
namespace Ev
open PySem L2 PyProof.Rows
open PySem.W (Frag)

def GoodS (K : Frag) (T : Tx) (W : WX) (D : Ends) (r : List Addr) (H : Hp) (x : SRes) : Prop := match x with
  | .ok f env S => match f with
    | .nx => ∀ r' σ' H', Xt r H r' H' → RepE K H' r' env σ' → SI K T H' r' S → D.nx σ' H'
    | .brk => ∀ r' σ' H', Xt r H r' H' → RepE K H' r' env σ' → SI K T H' r' S → D.bk σ' H'
    | .ct => ∀ r' σ' H', Xt r H r' H' → RepE K H' r' env σ' → SI K T H' r' S → D.ct σ' H'
    | .rt d => ∀ r' v H', Xt r H r' H' → RepV K H' r' d v → SI K T H' r' S → D.rt v H'
  | .exc e env S => ∀ r' σ' H' cls dd, Xt r H r' H' → RepE K H' r' env σ' → SI K T H' r' S → ExR K T H' r' e cls dd → W cls dd σ' H'
  | .bad => False
def RS (K : Frag) (T : Tx) (W : WX) (f : Ev.Env → Sto → SRes) : TS := fun D σ H => ∃ r env S, RepE K H r env σ ∧ SI K T H r S ∧ GoodS K T W D r H (f env S)

section
variable {K : Frag} {T : Tx} {W : WX} {σ : L2.St} {H H1 : Hp} {C : CallS} {D D' : Ends} {r r1 : List Addr}
theorem GoodS.shift {x : SRes} (e : Xt r H r1 H1) (h : GoodS K T W D r H x) : GoodS K T W D r1 H1 x := by
  cases x with
  | ok f env S => cases f <;> exact fun r' v H' e' => h r' v H' (e.trans e')
  | exc ex env S => exact fun r' σ' H' cls dd e' => h r' σ' H' cls dd (e.trans e')
  | bad => exact h
theorem REG_mono {α β : Type} {R : Hp → List Addr → α → β → Prop} {f : Ev.Env → Sto → Res α} {Q Q' : β → Hp → Prop} (h : REG R K T W f σ H Q) (i : ∀ x H', Q x H' → Q' x H') : REG R K T W f σ H Q' := by
  obtain ⟨r, env, S, he, si, g⟩ := h
  refine ⟨r, env, S, he, si, ?_⟩
  cases hx : f env S with
  | bad => rw [hx] at g; exact g
  | exc e S1 => rw [hx] at g; exact g
  | ok d S1 => rw [hx] at g; exact fun r' b H' a b' c => i _ _ (g r' b H' a b' c)
/-- an expression ahead of the rest of a statement -/
theorem of_E {α β : Type} {R : Hp → List Addr → α → β → Prop} {x : Res α} {Q : β → Hp → Prop} {env : Ev.Env} {S : Sto} (he : RepE K H r env σ) (si : SI K T H r S)
    (hb : x = .bad → False) (hx : ∀ e S1, x = .exc e S1 → GoodS K T W D r H (.exc e env S1))
    (hk : ∀ d S1 r1 v H1, x = .ok d S1 → Xt r H r1 H1 → R H1 r1 d v → SI K T H1 r1 S1 → RepE K H1 r1 env σ → Q v H1) : GoodG R K T W r σ H x Q := by
  cases x with
  | ok d S1 => exact fun r1 v H1 e rv si1 => hk d S1 r1 v H1 rfl e rv si1 (he.at si e)
  | exc ex S1 => exact fun r' H' cls dd e si' xr => hx ex S1 rfl r' σ H' cls dd e (he.at si e) si' xr
  | bad => exact hb rfl
theorem rs_asg {g : IG} {e : IE} (h : RS K T W (evS C (.asg g e)) D σ H) : tAsg (RE K T W (evE C e)) (RG K T C g) D σ H := by
  obtain ⟨r, env, S, he, si, h⟩ := h
  rw [evS] at h
  refine ⟨r, env, S, he, si, of_E (D := D) he si (fun q => by rw [q] at h; exact h) (fun e S1 q => by rw [q] at h; exact h) fun d S1 r1 v H1 q e1 rv si1 he1 => ?_⟩
  rw [q] at h
  dsimp only at h
  have h1 := GoodS.shift e1 h
  split at h1
  · rename_i env2 S2 eg
    exact ⟨r1, env, S1, d, env2, S2, he1, si1, rv, eg, fun r' σ' H' a b c _ => h1 r' σ' H' a b c⟩
  · exact False.elim h1
theorem rs_set {i : Nat} {e : IE} (h : RS K T W (evS C (.asg (.var i) e)) D σ H) : RE K T W (evE C e) σ H fun x H1 => gName i x σ H1 D.nx :=
  REG_mono (rs_asg h) fun x H' q => rg_var q
theorem rs_expr {e : IE} (h : RS K T W (evS C (.expr e)) D σ H) : tDrop (RE K T W (evE C e)) D σ H := by
  obtain ⟨r, env, S, he, si, h⟩ := h
  rw [evS] at h
  exact ⟨r, env, S, he, si, of_E (D := D) he si (fun q => by rw [q] at h; exact h) (fun e S1 q => by rw [q] at h; exact h) fun d S1 r1 v H1 q e1 rv si1 he1 => by rw [q] at h; have h1 := GoodS.shift e1 h; exact h1 r1 σ H1 (Xt.refl _ _) he1 si1⟩
theorem rs_ret {e : IE} (h : RS K T W (evS C (.ret e)) D σ H) : tRet (RE K T W (evE C e)) D σ H := by
  obtain ⟨r, env, S, he, si, h⟩ := h
  rw [evS] at h
  exact ⟨r, env, S, he, si, of_E (D := D) he si (fun q => by rw [q] at h; exact h) (fun e S1 q => by rw [q] at h; exact h) fun d S1 r1 v H1 q e1 rv si1 he1 => by rw [q] at h; have h1 := GoodS.shift e1 h; exact h1 r1 v H1 (Xt.refl _ _) rv si1⟩
theorem rs_retN (h : RS K T W (evS C .retN) D σ H) : tRetN D σ H := by
  obtain ⟨r, env, S, he, si, h⟩ := h
  rw [evS] at h
  exact h r _ H (Xt.refl _ _) .non si
theorem rs_pass (h : RS K T W (evS C .pass) D σ H) : tNext D σ H := by
  obtain ⟨r, env, S, he, si, h⟩ := h
  rw [evS] at h
  exact h r _ H (Xt.refl _ _) he si
theorem rs_brk (h : RS K T W (evS C .brk) D σ H) : tBreak D σ H := by
  obtain ⟨r, env, S, he, si, h⟩ := h
  rw [evS] at h
  exact h r _ H (Xt.refl _ _) he si
theorem rs_cont (h : RS K T W (evS C .cont) D σ H) : tCont D σ H := by
  obtain ⟨r, env, S, he, si, h⟩ := h
  rw [evS] at h
  exact h r _ H (Xt.refl _ _) he si
theorem rs_never (h : RS K T W (evS C .never) D σ H) : False := by
  obtain ⟨r, env, S, he, si, h⟩ := h
  rw [evS] at h
  exact h
theorem rs_ite {c : IE} {a b : ISs} (h : RS K T W (evS C (.ite c a b)) D σ H) : tIfS (RT K T W (tru (evE C c))) (RS K T W (evSs C a)) (RS K T W (evSs C b)) D σ H := by
  obtain ⟨r, env, S, he, si, h⟩ := h
  rw [evS] at h
  refine ⟨r, env, S, he, si, ?_⟩
  simp only [tru]
  cases hx : evE C c env S with
  | bad => rw [hx] at h; exact False.elim h
  | exc e S1 => rw [hx] at h; exact fun r' H' cls dd e si' xr => h r' σ H' cls dd e (he.at si e) si' xr
  | ok x S1 =>
    rw [hx] at h
    simp only [Res.bind] at h ⊢
    cases ht : truth S1 x with
    | none => rw [ht] at h; exact False.elim h
    | some k =>
      rw [ht] at h
      intro r1 k' H1 e1 ek si1
      cases ek
      cases k
      · exact ⟨r1, env, S1, he.at si e1, si1, GoodS.shift e1 h⟩
      · exact ⟨r1, env, S1, he.at si e1, si1, GoodS.shift e1 h⟩
theorem rs_nil (h : RS K T W (evSs C .nil) D σ H) : tNext D σ H := by
  obtain ⟨r, env, S, he, si, h⟩ := h
  rw [evSs] at h
  exact h r _ H (Xt.refl _ _) he si
theorem rs_cons {s : IS} {ss : ISs} (h : RS K T W (evSs C (.cons s ss)) D σ H) : tSeq (RS K T W (evS C s)) (RS K T W (evSs C ss)) D σ H := by
  obtain ⟨r, env, S, he, si, h⟩ := h
  rw [evSs] at h
  refine ⟨r, env, S, he, si, ?_⟩
  cases hx : evS C s env S with
  | bad => rw [hx] at h; exact h
  | exc e env1 S1 => rw [hx] at h; exact h
  | ok f env1 S1 =>
    rw [hx] at h
    cases f with
    | nx => exact fun r1 σ1 H1 e1 he1 si1 => ⟨r1, env1, S1, he1, si1, GoodS.shift e1 h⟩
    | brk => exact h
    | ct => exact h
    | rt d => exact h
theorem rs_aug {i : Nat} {o : BOp} {e : IE} (h : RS K T W (evS C (.aug i o e)) D σ H) : tAug i (RE K T W (evE C e)) (rB K T (augD o)) D σ H := by
  obtain ⟨r, env, S, he, si, h⟩ := h
  rw [evS] at h
  split at h
  · rename_i x ex
    obtain ⟨xv, h1, h2⟩ := he.get i x ex
    refine ⟨xv, h1, r, env, S, he, si, of_E (D := D) he si (fun q => by rw [q] at h; exact h) (fun e S1 q => by rw [q] at h; exact h) fun d S1 r1 v H1 q e1 rv si1 he1 => ?_⟩
    rw [q] at h
    dsimp only at h
    have h1 := GoodS.shift e1 h
    refine ⟨r1, S1, x, d, h2.at si e1, rv, si1, ?_⟩
    cases ha : augD o x d S1 with
    | bad => rw [ha] at h1; exact h1
    | exc e' S2 => rw [ha] at h1; exact h1
    | ok z S2 =>
      rw [ha] at h1
      exact fun r2 zv H2 e2 rz si2 => h1 r2 _ H2 e2 ((he1.at si1 e2).set i rz) si2
  · exact False.elim h
/-- the slots of a parallel store -/
theorem rs_par2 {i j : Nat} {es : IEs} (h : RS K T W (evS C (.par [i, j] es)) D σ H) : tPar i j (RA K T W (evEs C es)) D σ H := by
  obtain ⟨r, env, S, he, si, h⟩ := h
  rw [evS] at h
  refine ⟨r, env, S, he, si, of_E (D := D) he si (fun q => by rw [q] at h; exact h) (fun e S1 q => by rw [q] at h; exact h) fun ds S1 r1 vs H1 q e1 rv si1 he1 => ?_⟩
  rw [q] at h
  dsimp only at h
  have h1 := GoodS.shift e1 h
  cases rv with
  | nil => simp [parEnv] at h1; exact False.elim h1
  | cons a b =>
    cases b with
    | nil => simp [parEnv] at h1; exact False.elim h1
    | cons b c =>
      cases c with
      | cons _ _ => simp [parEnv] at h1; exact False.elim h1
      | nil =>
        simp only [parEnv] at h1
        exact ⟨_, _, rfl, h1 r1 _ H1 (Xt.refl _ _) ((he1.set i a).set j b) si1⟩
theorem rs_par3 {i j l : Nat} {es : IEs} (h : RS K T W (evS C (.par [i, j, l] es)) D σ H) : tPar3 i j l (RA K T W (evEs C es)) D σ H := by
  obtain ⟨r, env, S, he, si, h⟩ := h
  rw [evS] at h
  refine ⟨r, env, S, he, si, of_E (D := D) he si (fun q => by rw [q] at h; exact h) (fun e S1 q => by rw [q] at h; exact h) fun ds S1 r1 vs H1 q e1 rv si1 he1 => ?_⟩
  rw [q] at h
  dsimp only at h
  have h1 := GoodS.shift e1 h
  cases rv with
  | nil => simp [parEnv] at h1; exact False.elim h1
  | cons a b =>
    cases b with
    | nil => simp [parEnv] at h1; exact False.elim h1
    | cons b c =>
      cases c with
      | nil => simp [parEnv] at h1; exact False.elim h1
      | cons c d =>
        cases d with
        | cons _ _ => simp [parEnv] at h1; exact False.elim h1
        | nil =>
          simp only [parEnv] at h1
          exact ⟨_, _, _, rfl, h1 r1 _ H1 (Xt.refl _ _) (((he1.set i a).set j b).set l c) si1⟩
theorem rs_whil {c : IE} {b : ISs} (h : RS K T W (evS C (.whil c b)) D σ H) : tWhile (RT K T W (tru (evE C c))) (RS K T W (evSs C b)) D σ H := by
  obtain ⟨r0, env0, S0, he0, si0, h0⟩ := h
  rw [evS] at h0
  refine ⟨fun m σ H => ∃ r env S, RepE K H r env σ ∧ SI K T H r S ∧ GoodS K T W D r H (whileL (fun env' S' => evE C c env' S') (fun env' S' => evSs C b env' S') m env S), ⟨fuel, r0, env0, S0, he0, si0, h0⟩, ?_⟩
  rintro m σ H ⟨r, env, S, he, si, h⟩
  cases m with
  | zero => exact False.elim h
  | succ m =>
    unfold whileL at h
    refine ⟨r, env, S, he, si, ?_⟩
    simp only [tru]
    cases hx : evE C c env S with
    | bad => rw [hx] at h; exact False.elim h
    | exc e S1 => rw [hx] at h; exact fun r' H' cls dd e si' xr => h r' σ H' cls dd e (he.at si e) si' xr
    | ok x S1 =>
      rw [hx] at h
      simp only [Res.bind] at h ⊢
      cases ht : truth S1 x with
      | none => rw [ht] at h; exact False.elim h
      | some k =>
        rw [ht] at h
        intro r1 k' H1 e1 ek si1
        cases ek
        have he1 := he.at si e1
        have h := GoodS.shift e1 h
        cases k
        · exact h r1 σ H1 (Xt.refl _ _) he1 si1
        · refine ⟨fun σ' H' => ∃ r env S, RepE K H' r env σ' ∧ SI K T H' r S ∧ GoodS K T W D r H' (whileL (fun env' S' => evE C c env' S') (fun env' S' => evSs C b env' S') m env S), fun σ' H' q => ⟨m, Nat.lt_succ_self _, q⟩, r1, env, S1, he1, si1, ?_⟩
          simp only at h
          cases hb : evSs C b env S1 with
          | bad => rw [hb] at h; exact h
          | exc e' env2 S2 => rw [hb] at h; exact h
          | ok f env2 S2 =>
            rw [hb] at h
            cases f with
            | nx => exact fun r2 σ2 H2 e2 he2 si2 => ⟨r2, env2, S2, he2, si2, GoodS.shift e2 h⟩
            | ct => exact fun r2 σ2 H2 e2 he2 si2 => ⟨r2, env2, S2, he2, si2, GoodS.shift e2 h⟩
            | brk => exact h
            | rt d => exact h
theorem rs_fori {g : IG} {it : II} {b : ISs} (h : RS K T W (evS C (.fori g it b)) D σ H) : tFor (RI K T W (evI C it)) (RG K T C g) (RS K T W (evSs C b)) D σ H := by
  obtain ⟨r0, env0, S0, he0, si0, h0⟩ := h
  rw [evS] at h0
  refine ⟨r0, env0, S0, he0, si0, of_E (D := D) he0 si0 (fun q => by rw [q] at h0; exact h0) (fun e S1 q => by rw [q] at h0; exact h0) fun v S1 r1 J H1 q e1 rJ si1 he1 => ?_⟩
  rw [q] at h0
  dsimp only at h0
  have h1 := GoodS.shift e1 h0
  generalize hG : (fun d env' S' => match evG C g d env' S' with | some (env2, S2) => SRes.ok .nx env2 S2 | none => .bad) = G at h1
  refine ⟨fun i m σ H => ∃ r env S, Xt r1 H1 r H ∧ RepE K H r env σ ∧ SI K T H r S ∧ GoodS K T W D r H (forL v G (fun env' S' => evSs C b env' S') m i env S), ⟨fuel, r1, env0, S1, Xt.refl _ _, he1, si1, h1⟩, ?_⟩
  rintro i m σ H ⟨r, env, S, xt, he, si, h⟩
  cases m with
  | zero => exact False.elim h
  | succ m =>
    unfold forL at h
    split at h
    · exact False.elim h
    · rename_i ht
      exact .inl ⟨rJ r H S i none xt si ht, h r σ H (Xt.refl _ _) he si⟩
    · rename_i d ht
      obtain ⟨g1, g2⟩ := rJ r H S i (some d) xt si ht
      refine .inr ⟨g1, fun σ' H' => ∃ r env S, Xt r1 H1 r H' ∧ RepE K H' r env σ' ∧ SI K T H' r S ∧ GoodS K T W D r H' (forL v G (fun env' S' => evSs C b env' S') m (i + 1) env S), fun σ' H' q => ⟨m, Nat.lt_succ_self _, q⟩, fun x H' hy => ?_⟩
      obtain ⟨e2, rd, si2⟩ := g2 x H' hy
      subst hG
      cases eg : evG C g d env S with
      | none => simp only [eg] at h; exact False.elim h
      | some p =>
        obtain ⟨env2, S2⟩ := p
        simp only [eg] at h
        refine ⟨r, env, S, d, env2, S2, he.at si e2, si2, rd, eg, fun r3 σ3 H3 e3 he3 si3 _ => ⟨r3, env2, S2, he3, si3, ?_⟩⟩
        have x3 := xt.trans (e2.trans e3)
        have h := GoodS.shift (e2.trans e3) h
        cases hb : evSs C b env2 S2 with
        | bad => rw [hb] at h; exact h
        | exc e' env4 S4 => rw [hb] at h; exact h
        | ok f env4 S4 =>
          rw [hb] at h
          cases f with
          | nx => exact fun r4 σ4 H4 e4 he4 si4 => ⟨r4, env4, S4, x3.trans e4, he4, si4, GoodS.shift e4 h⟩
          | ct => exact fun r4 σ4 H4 e4 he4 si4 => ⟨r4, env4, S4, x3.trans e4, he4, si4, GoodS.shift e4 h⟩
          | brk => exact h
          | rt d => exact h
end
end Ev
end
section
set_option maxRecDepth 10000
/-! Statements: what is translated does as the evaluator says. -/
namespace Ev
open PySem L2 PyProof.Rows
open PySem.W (Frag)

/-- what is known where a def's own statements run -/
structure CtxS (C : CallS) (T : Tx) (X : Cx) (c : Cn) (W : WX) : Prop where
  x : Ctx C T X c W
  fk : X.env.scope.kind = .function
  fa : ∀ x, X.fn x = true
  po : PassesOwn (model X.prog X.w) X.A X.env X.xe

section
variable {C : CallS} {T : Tx} {X : Cx} {c : Cn} {W : WX} {n : Nat}
theorem PS_imp {s : Stmt} {t t' : TS} (h : PS X s t) (i : ∀ D σ H, t' D σ H → t D σ H) : PS X s t' := ⟨fun pins s σ H D I q => h.run pins s σ H D I (i _ _ _ q)⟩
theorem PSs_imp {s : List Stmt} {t t' : TS} (h : PSs X s t) (i : ∀ D σ H, t' D σ H → t D σ H) : PSs X s t' := ⟨fun pins s σ H D I q => h.run pins s σ H D I (i _ _ _ q)⟩
theorem CtxS.wr (h : CtxS C T X c W) (i : Nat) : Wr X i := fun x _ => .inl (h.fa x)

/-! ### stores of a tuple display -/
theorem parOf_ok (h : CtxS C T X c W) {ts vs : List Expr} {k k2 : Nat} {p p2 : Pos} {o : Option (List Str)} (e : parOf c ts vs = some o) : swappedStores [.Tuple ts k p] (.Tuple vs k2 p2) X.env = pure o := by
  have hb : X.env.blockKind = .function := by unfold Env.blockKind; rw [h.fk]; rfl
  obtain ⟨N, sc, fns⟩ := c
  have hsc : X.env.scope = sc := h.x.sc
  subst hsc
  unfold swappedStores
  unfold parOf at e
  simp only [hb]
  by_cases c1 : (!(ts.length == 2 || ts.length == 3) || vs.length != ts.length) = true
  · rw [if_pos c1] at e
    cases e
    have : (!(ts.length == 2 || ts.length == 3) || vs.length != ts.length || (ScopeKind.function != ScopeKind.function)) = true := by rw [c1]; rfl
    simp only [this, if_true]
  · rw [if_neg c1] at e
    have c1' : (!(ts.length == 2 || ts.length == 3) || vs.length != ts.length || (ScopeKind.function != ScopeKind.function)) = false := by
      rw [Bool.not_eq_true] at c1; rw [c1]; rfl
    simp only [c1', Bool.false_eq_true, if_false]
    split
    · rename_i c2
      have c2' : vs.any starred = true := by
        exact c2
      rw [if_pos c2'] at e
      cases e; rfl
    · rename_i c2
      have c2' : ¬ vs.any starred = true := by
        exact c2
      rw [if_neg c2'] at e
      dsimp only at e
      split at e
      · rename_i c3
        cases e
        rw [if_pos]
        exact c3
      · rename_i c3
        rw [if_neg]
        · split at e
          · rename_i c4
            cases e
            rw [if_pos c4]
          · rename_i c4
            rw [if_neg c4]
            split at e
            · cases e
            · rename_i c5
              cases e
              rw [if_neg c5]
              rfl
        · exact c3
theorem swaps_no {v : Expr} {t : Option Expr} {l : Nat} {env : PySem.Env} (h : isComp v = false) : swapsWith v t l env = pure false := by cases v <;> first | rfl | cases h
theorem swaps_no' {v t : Expr} {l : Nat} {env : PySem.Env} (h : ∀ x p, t ≠ .Name x p) : swapsWith v (some t) l env = pure false := by
  cases v <;> first | rfl | (cases t <;> first | rfl | exact absurd rfl (h _ _))
theorem name_of {line : Nat} {t : Expr} {x : Str} (h : (match t with | .Name id pos => if c.sc.names.lookup id == some .local && pos.line == line then some id else none | _ => none) = some x) : ∃ p, t = .Name x p ∧ c.sc.names.lookup x = some .local := by
  cases t with
  | Name id pos =>
    simp only at h
    split at h
    · rename_i q
      simp only [Bool.and_eq_true] at q
      cases h
      exact ⟨pos, rfl, nk_eq q.1⟩
    · cases h
  | _ => cases h
theorem par_parts {ts vs : List Expr} {xs : List Str} (e : parOf c ts vs = some (some xs)) : (∃ x y px py a b, ts = [.Name x px, .Name y py] ∧ vs = [a, b] ∧ xs = [x, y] ∧ c.sc.names.lookup x = some .local ∧ c.sc.names.lookup y = some .local) ∨
    ∃ x y z px py pz a b d, ts = [.Name x px, .Name y py, .Name z pz] ∧ vs = [a, b, d] ∧ xs = [x, y, z] ∧ c.sc.names.lookup x = some .local ∧ c.sc.names.lookup y = some .local ∧ c.sc.names.lookup z = some .local := by
  unfold parOf at e
  split at e
  · cases e
  · rename_i c1
    simp only [Bool.or_eq_true, Bool.not_eq_true', not_or, Bool.not_eq_false, beq_iff_eq, bne_iff_ne, ne_eq, Bool.not_eq_true, Decidable.not_not] at c1
    split at e
    · cases e
    · dsimp only at e
      split at e
      · cases e
      · rename_i c3
        simp only [Bool.or_eq_true, bne_iff_ne, ne_eq, not_or, Decidable.not_not] at c3
        split at e
        · cases e
        · split at e
          · cases e
          · cases e
            obtain ⟨h1, h2⟩ := c1
            have hl := c3.1
            clear c3
            match ts, vs, h1, h2, hl with
            | [t1, t2], [a, b], _, _, hl =>
              left
              unfold parNames at hl ⊢
              rw [List.filterMap_cons, List.filterMap_cons, List.filterMap_nil] at hl ⊢
              split at hl
              · split at hl <;> cases hl
              · rename_i x hx
                split at hl
                · cases hl
                · rename_i y hy
                  obtain ⟨px, rfl, lx⟩ := name_of hx
                  obtain ⟨py, rfl, ly⟩ := name_of hy
                  exact ⟨x, y, px, py, a, b, rfl, rfl, rfl, lx, ly⟩
            | [t1, t2, t3], [a, b, d], _, _, hl =>
              right
              unfold parNames at hl ⊢
              rw [List.filterMap_cons, List.filterMap_cons, List.filterMap_cons, List.filterMap_nil] at hl ⊢
              split at hl
              · split at hl <;> (first | (cases hl; done) | (split at hl <;> cases hl))
              · rename_i x hx
                split at hl
                · split at hl <;> cases hl
                · rename_i y hy
                  split at hl
                  · cases hl
                  · rename_i z hz
                    obtain ⟨px, rfl, lx⟩ := name_of hx
                    obtain ⟨py, rfl, ly⟩ := name_of hy
                    obtain ⟨pz, rfl, lz⟩ := name_of hz
                    exact ⟨x, y, z, px, py, pz, a, b, d, rfl, rfl, rfl, lx, ly, lz⟩
            | [], _, h1, _, _ => simp at h1
            | [_], _, h1, _, _ => simp at h1
            | _ :: _ :: _ :: _ :: _, _, h1, _, _ => simp at h1
            | [_, _], [], _, h2, _ => simp at h2
            | [_, _], [_], _, h2, _ => simp at h2
            | [_, _], _ :: _ :: _ :: _, _, h2, _ => simp at h2
            | [_, _, _], [], _, h2, _ => simp at h2
            | [_, _, _], [_], _, h2, _ => simp at h2
            | [_, _, _], [_, _], _, h2, _ => simp at h2
            | [_, _, _], _ :: _ :: _ :: _ :: _, _, h2, _ => simp at h2
theorem dups3 {i j l : Nat} (h : ([i, j, l].eraseDups.length == [i, j, l].length) = true) : i ≠ j ∧ i ≠ l ∧ j ≠ l := by
  refine ⟨fun e => ?_, fun e => ?_, fun e => ?_⟩
  · subst e; by_cases q : l = i <;> simp_all [List.eraseDups_cons]
  · subst e; by_cases q : j = i <;> simp_all [List.eraseDups_cons]
  · subst e; by_cases q : j = i <;> simp_all [List.eraseDups_cons]
theorem dups2 {i j : Nat} (h : ([i, j].eraseDups.length == [i, j].length) = true) : i ≠ j := by
  intro e; subst e; simp [List.eraseDups_cons] at h

structure SndS (C : CallS) (T : Tx) (n : Nat) : Prop where
  S : ∀ {X : Cx} {c : Cn} {W : WX}, CtxS C T X c W → ∀ {s : Stmt} {i : IS}, trS n c s = some i → PS X s (RS X.K T W (evS C i))
  Ss : ∀ {X : Cx} {c : Cn} {W : WX}, CtxS C T X c W → ∀ {s : List Stmt} {i : ISs}, trSs n c s = some i → PSs X s (RS X.K T W (evSs C i))
theorem nm_ix (h : CtxS C T X c W) {x : Str} {i : Nat} (e : c.slotW x = some i) : X.N[i]? = some x := (slotW_ok h.x e).1
theorem loc_of (h : CtxS C T X c W) {x : Str} (e : c.sc.names.lookup x = some .local) : X.env.scope.names.lookup x = some .local := by rw [h.x.sc]; exact e
/-- name = comprehension -/
theorem snd_comp (h : CtxS C T X c W) {x : Str} {px pos : Pos} {v : Expr} {i : Nat} {ie : IE} (hi : c.slotW x = some i) (hv : isComp v = true) (e : trE (n + 1) c v = some ie) :
    PS X (.Assign [.Name x px] v pos) (RS X.K T W (evS C (.asg (.var i) ie))) := by
  have ih := snd (C := C) n
  have hx := h.x
  have hN := nm_ix h hi
  cases v with
  | ListComp elt gens scope vp =>
    cases hb : (X.env.blockKind == .function && X.env.kindOf x == some .local && px.line == vp.line && !(scope.names.any fun (n, k) => n == x && (k == .local || k == .cell))) with
    | false =>
      have hs : swapsWith (.ListComp elt gens scope vp) (some (.Name x px)) pos.line X.env = pure false := by rw [← hb]; rfl
      exact PS_imp (ps_set hx.nodup hN (slotW_ok hx hi).2 (snd_E ih hx e) hs (.inl (h.fa x))) fun D σ H q => rs_set q
    | true =>
      have hs : swapsWith (.ListComp elt gens scope vp) (some (.Name x px)) pos.line X.env = pure true := by rw [← hb]; rfl
      simp only [Bool.and_eq_true] at hb
      have hl : X.env.scope.names.lookup x = some .local := nk_eq hb.1.1.2
      obtain ⟨b, ⟨tg, iter, ifs, it, g, iifs, ielt, rfl, rfl, e1, e2, e3, e4, q1, q2⟩ | ⟨tg, iter, ifs, it, g, iifs, tg1, iter1, ifs1, it1, g1, iifs1, ielt, rfl, rfl, e1, e2, e3, e4, e5, e6, e7, q1, q2, q3, q4⟩⟩ := lc_parts e
      · obtain ⟨i1, i2⟩ := ih.I hx e1 q2
        have o := one_of (iter := iter) ih hx b e2 e3 q1
        exact PS_imp (ps_setLc hx.calm hx.nodup hN hl hs i1 (blk_ok hx b) o.g o.t (in_E ih hx e4) (set_ok i2)) fun D σ H q => re_lc (sub_of q1) (rs_set q)
      · obtain ⟨i1, i2⟩ := ih.I hx e1 q3
        have o := one_of (iter := iter) ih hx b e2 e3 q1
        have o1 := one_of (iter := iter1) ih hx b e5 e6 q2
        have st1 : isSet iter1 = false := (ih.I (blk_ctx hx (s := X.s_0) (H := X.H_0) (cl := []) (A := 0) (fp := []) rfl) e4 q4).2
        exact PS_imp (ps_setLc2 hx.calm hx.nodup hN hl hs i1 (blk_ok hx b) (sub_of q2) o.g o.t (in_I ih hx e4 q4) o1.g o1.t (in_E ih hx e7) (set_ok i2) fun env => set_ok st1) fun D σ H q => re_lc2 (sub_of q1) (fun i hi => hi) (rs_set q)
  | DictComp kx vx gens scope vp =>
    cases hb : (X.env.blockKind == .function && X.env.kindOf x == some .local && px.line == vp.line && !(scope.names.any fun (n, k) => n == x && (k == .local || k == .cell))) with
    | false =>
      have hs : swapsWith (.DictComp kx vx gens scope vp) (some (.Name x px)) pos.line X.env = pure false := by rw [← hb]; rfl
      exact PS_imp (ps_set hx.nodup hN (slotW_ok hx hi).2 (snd_E ih hx e) hs (.inl (h.fa x))) fun D σ H q => rs_set q
    | true =>
      have hs : swapsWith (.DictComp kx vx gens scope vp) (some (.Name x px)) pos.line X.env = pure true := by rw [← hb]; rfl
      simp only [Bool.and_eq_true] at hb
      have hl : X.env.scope.names.lookup x = some .local := nk_eq hb.1.1.2
      obtain ⟨b, ⟨tg, iter, ifs, it, g, iifs, ik, iv, rfl, rfl, e1, e2, e3, e4, e5, q1, q2⟩ | ⟨tg, iter, ifs, it, g, iifs, tg1, iter1, ifs1, it1, g1, iifs1, ik, iv, rfl, rfl, e1, e2, e3, e4, e5, e6, e7, e8, q1, q2, q3, q4⟩⟩ := dc_parts e
      · obtain ⟨i1, i2⟩ := ih.I hx e1 q2
        have o := one_of (iter := iter) ih hx b e2 e3 q1
        exact PS_imp (ps_setDc hx.calm hx.nodup hN hl hs i1 (blk_ok hx b) (fun s H A cl fp Xb eb => by subst eb; exact ⟨o.g s H A cl fp, o.t s H A cl fp, in_E ih hx e4 s H A cl fp, in_E ih hx e5 s H A cl fp⟩) (set_ok i2)) fun D σ H q => re_dc (sub_of q1) (rs_set q)
      · obtain ⟨i1, i2⟩ := ih.I hx e1 q3
        have o := one_of (iter := iter) ih hx b e2 e3 q1
        have o1 := one_of (iter := iter1) ih hx b e5 e6 q2
        have st1 : isSet iter1 = false := (ih.I (blk_ctx hx (s := X.s_0) (H := X.H_0) (cl := []) (A := 0) (fp := []) rfl) e4 q4).2
        exact PS_imp (ps_setDc2 hx.calm hx.nodup hN hl hs i1 (blk_ok hx b) (sub_of q2) (fun s H A cl fp Xb eb => by subst eb; exact ⟨o.g s H A cl fp, o.t s H A cl fp, in_I ih hx e4 q4 s H A cl fp, o1.g s H A cl fp, o1.t s H A cl fp, in_E ih hx e7 s H A cl fp, in_E ih hx e8 s H A cl fp⟩)
          (set_ok i2) fun env => set_ok st1) fun D σ H q => re_dc2 (sub_of q1) (fun i hi => hi) (rs_set q)
  | SetComp => simp [trE] at e
  | _ => cases hv
/-- a store of one target -/
theorem snd_asg (h : CtxS C T X c W) {t v : Expr} {pos : Pos} {g : IG} {ie : IE} (ht : starred t = false) (e1 : trG n c t = some g) (e2 : trE n c v = some ie) (hw : swappedStores [t] v X.env = pure none) :
    PS X (.Assign [t] v pos) (RS X.K T W (evS C (.asg g ie))) := by
  have ih := snd (C := C) n
  have h1 : (assignEach [t] X.env).map (·.2) = [assign t X.env] := by rw [assign_ok ht]; rfl
  cases hv : isComp v with
  | false => exact PS_imp (ps_asg (ih.E h.x e2) (ih.G h.x e1 fun i _ => h.wr i) (swaps_no hv) hw h1) fun D σ H q => rs_asg q
  | true =>
    cases n with
    | zero => simp [trE] at e2
    | succ m =>
      by_cases hn : ∃ x p, t = .Name x p
      · obtain ⟨x, p, rfl⟩ := hn
        simp only [trG, Option.map_eq_some_iff] at e1
        obtain ⟨i, hi, rfl⟩ := e1
        exact snd_comp h hi hv e2
      · exact PS_imp (ps_asg (ih.E h.x e2) (ih.G h.x e1 fun i _ => h.wr i) (swaps_no' fun x p z => hn ⟨x, p, z⟩) hw h1) fun D σ H q => rs_asg q
theorem one_store {t v : Expr} {env : PySem.Env} (h : ∀ ts k p vs k2 p2, ¬ (t = .Tuple ts k p ∧ v = .Tuple vs k2 p2)) (hl : ∀ ts p, t ≠ .List ts p) : swappedStores [t] v env = pure none := by
  cases t with
  | Tuple ts k p =>
    cases v with
    | Tuple vs k2 p2 => exact absurd ⟨rfl, rfl⟩ (h _ _ _ _ _ _)
    | _ => rfl
  | List ts p => exact absurd rfl (hl _ _)
  | _ => rfl
theorem sndS_S (ih : SndS C T n) (h : CtxS C T X c W) {s : Stmt} {i : IS} (e : trS (n + 1) c s = some i) : PS X s (RS X.K T W (evS C i)) := by
  have ihe := snd (C := C) n
  have hx := h.x
  cases s with
  | Return v pos =>
    cases v with
    | none => simp only [trS, Option.some.injEq] at e; subst e; exact PS_imp ps_retN fun D σ H q => rs_retN q
    | some v =>
      simp only [trS, Option.map_eq_some_iff] at e
      obtain ⟨ie, e1, rfl⟩ := e
      exact PS_imp (ps_ret (ihe.E hx e1)) fun D σ H q => rs_ret q
  | Expr v pos =>
    simp only [trS] at e
    split at e
    · cases e
    · rename_i q
      simp only [Option.map_eq_some_iff] at e
      obtain ⟨ie, e1, rfl⟩ := e
      exact PS_imp (ps_expr (ihe.E hx e1) (swaps_no (by simpa using q))) fun D σ H q => rs_expr q
  | If t a b pos =>
    simp only [trS, Option.bind_eq_bind, Option.bind_eq_some_iff, Option.some.injEq] at e
    obtain ⟨it, e1, ia, e2, ib, e3, rfl⟩ := e
    exact PS_imp (ps_if (ihe.P hx e1) (ih.Ss h e2) (ih.Ss h e3)) fun D σ H q => rs_ite q
  | While t b o pos =>
    simp only [trS] at e
    split at e
    · simp only [Option.bind_eq_bind, Option.bind_eq_some_iff, Option.some.injEq] at e
      obtain ⟨it, e1, ib, e2, rfl⟩ := e
      exact PS_imp (ps_while h.po (ihe.P hx e1) (ih.Ss h e2)) fun D σ H q => rs_whil q
    · cases e
  | For t it b o pos =>
    simp only [trS] at e
    split at e
    · split at e
      · cases e
      · simp only [Option.bind_eq_bind, Option.bind_eq_some_iff] at e
        obtain ⟨g, e1, ii, e2, ib, e3, e⟩ := e
        split at e
        · cases e
        · rename_i q
          cases e
          obtain ⟨i1, i2⟩ := ihe.I (tg := t) hx e2 (by simpa using q)
          exact PS_imp (ps_for h.po hx.calm i1 (ihe.G hx e1 fun i _ => h.wr i) (ih.Ss h e3) (set_ok i2)) fun D σ H q => rs_fori q
    · cases e
  | Break pos => simp only [trS, Option.some.injEq] at e; subst e; exact PS_imp ps_break fun D σ H q => rs_brk q
  | Continue pos => simp only [trS, Option.some.injEq] at e; subst e; exact PS_imp ps_continue fun D σ H q => rs_cont q
  | Pass pos => simp only [trS, Option.some.injEq] at e; subst e; exact PS_imp ps_pass fun D σ H q => rs_pass q
  | Raise a b pos =>
    simp only [trS] at e
    unfold trRaise at e
    split at e
    · rename_i x xp ar cp
      split at e
      · rename_i k hk
        split at e
        · rename_i hgl
          obtain ⟨g1, g2⟩ := glob_ok hx hgl
          split at e
          · rename_i hf
            rw [hx.fl k] at hf; cases hf
          · split at e
            · rename_i m j mp
              cases e
              obtain ⟨Ca, c1, c2⟩ := hx.cl x k hk
              refine PS_imp (ps_raise hx.calm hx.tk (pmk_own (bmB := He.veBase) PySem.F.excBase_ValueError c2.exc c2.mg c2.keep (raises_own c2.base c2.ty) g1 g2)) fun D σ H q => ?_
              obtain ⟨r, env, S, he, si, q⟩ := q
              rw [evS] at q
              exact q r σ H _ none (Xt.refl _ _) he si ⟨Ca, c1, rfl, rfl⟩
            · cases e
        · cases e
      · cases e
    · cases e; exact PS_imp ps_never fun D σ H q => rs_never q
  | Try b hs o f pos =>
    simp only [trS] at e
    unfold trTry at e
    split at e
    · split at e
      · split at e
        · rename_i hc
          simp only [Bool.and_eq_true] at hc
          have := hc.2
          rw [hx.fl] at this
          cases this
        · cases e
      · cases e
    · cases e
  | AugAssign t o v pos =>
    simp only [trS] at e
    split at e
    · rename_i x p
      simp only [Option.bind_eq_bind, Option.bind_eq_some_iff] at e
      obtain ⟨i, e1, io, e2, ie, e3, e⟩ := e
      split at e
      · cases e
      · rename_i hp
        cases e
        exact PS_imp (ps_aug hx.nodup (nm_ix h e1) (slotW_ok hx e1).2 (ihe.E hx e3) (iopD e2 hp) (.inl (h.fa x))) fun D σ H q => rs_aug q
    · cases e
  | Assign ts v pos =>
    simp only [trS] at e
    split at e
    · rename_i t
      split at e
      · cases e
      · rename_i hst
        have hst : starred t = false := by simpa using hst
        by_cases tt : ∃ ts k p vs k2 p2, t = .Tuple ts k p ∧ v = .Tuple vs k2 p2
        · obtain ⟨ts, k, p, vs, k2, p2, rfl, rfl⟩ := tt
          simp only at e
          split at e
          · cases e
          · rename_i hp
            simp only [Option.bind_eq_bind, Option.bind_eq_some_iff, Option.some.injEq] at e
            obtain ⟨g, e1, ie, e2, rfl⟩ := e
            exact snd_asg h hst e1 e2 (parOf_ok h hp)
          · rename_i xs hp
            simp only [Option.bind_eq_bind, Option.bind_eq_some_iff] at e
            obtain ⟨ies, e1, is, e2, e⟩ := e
            split at e
            · rename_i hd
              cases e
              have hw := parOf_ok (k := k) (k2 := k2) (p := p) (p2 := p2) h hp
              rcases par_parts hp with ⟨x, y, px, py, a, b, rfl, rfl, rfl, lx, ly⟩ | ⟨x, y, z, px, py, pz, a, b, d, rfl, rfl, rfl, lx, ly, lz⟩
              · simp only [List.mapM_cons, List.mapM_nil, Option.bind_eq_bind, Option.bind_eq_some_iff, Option.pure_def, Option.some.injEq] at e2
                obtain ⟨i, hi, r, ⟨j, hj, r', rfl, rfl⟩, rfl⟩ := e2
                exact PS_imp (ps_par hx.calm hx.nodup (nm_ix h hi) (nm_ix h hj) (dups2 hd) (loc_of h lx) (loc_of h ly) (ihe.Es hx e1) hw) fun D σ H q => rs_par2 q
              · simp only [List.mapM_cons, List.mapM_nil, Option.bind_eq_bind, Option.bind_eq_some_iff, Option.pure_def, Option.some.injEq] at e2
                obtain ⟨i, hi, r, ⟨j, hj, r', ⟨l, hl, r'', rfl, rfl⟩, rfl⟩, rfl⟩ := e2
                obtain ⟨n1, n2, n3⟩ := dups3 hd
                exact PS_imp (ps_par3 hx.calm hx.nodup (nm_ix h hi) (nm_ix h hj) (nm_ix h hl) n1 n2 n3 (loc_of h lx) (loc_of h ly) (loc_of h lz) (ihe.Es hx e1) hw) fun D σ H q => rs_par3 q
            · cases e
        · have e' : (do let g ← trG n c t; let e ← trE n c v; some (IS.asg g e)) = some i := by
            split at e
            · exact absurd ⟨_, _, _, _, _, _, rfl, rfl⟩ tt
            · exact e
          simp only [Option.bind_eq_bind, Option.bind_eq_some_iff, Option.some.injEq] at e'
          obtain ⟨g, e1, ie, e2, rfl⟩ := e'
          refine snd_asg h hst e1 e2 (one_store (fun ts k p vs k2 p2 z => tt ⟨ts, k, p, vs, k2, p2, z⟩) fun ts p z => ?_)
          subst z
          cases n <;> simp [trG] at e1
    · cases e
  | _ => simp [trS] at e
theorem sndS_Ss (ih : SndS C T n) (h : CtxS C T X c W) {s : List Stmt} {i : ISs} (e : trSs (n + 1) c s = some i) : PSs X s (RS X.K T W (evSs C i)) := by
  cases s with
  | nil => simp only [trSs, Option.some.injEq] at e; subst e; exact PSs_imp pss_nil fun D σ H q => rs_nil q
  | cons s ss =>
    simp only [trSs, Option.bind_eq_bind, Option.bind_eq_some_iff, Option.some.injEq] at e
    obtain ⟨is, e1, iss, e2, rfl⟩ := e
    exact PSs_imp (pss_cons (ih.S h e1) (ih.Ss h e2)) fun D σ H q => rs_cons q
theorem sndS : ∀ n, SndS C T n
  | 0 => { S := by intro X c W h; intros; rename_i e; simp [trS] at e
           Ss := by intro X c W h; intros; rename_i e; simp [trSs] at e }
  | n + 1 => { S := by intro X c W h; intros; apply sndS_S (sndS n) h <;> assumption
               Ss := by intro X c W h; intros; apply sndS_Ss (sndS n) h <;> assumption }
end
end Ev
end
section
set_option maxRecDepth 10000
/-! Calls: what a def does is what the evaluator says. -/
namespace Ev
open PySem L2 PyProof.Rows
open PySem.W (Frag)

section
variable {K : Frag} {T : Tx} {H H1 : Hp} {r r0 r1 r' : List Addr} {S S0 S1 : Sto}
/-! ### pure values stand anywhere -/
mutual
theorem RepV.any : ∀ (d : D) (x : V), pur d = true → RepV K H r d x → RepV K H r' d x
  | .non, _, _, h => by cases h; exact .non
  | .bl _, _, _, h => by cases h; exact .bl _
  | .int _, _, _, h => by cases h; exact .int _
  | .str _, _, _, h => by cases h; exact .str _
  | .ref _, _, p, _ => by simp [pur] at p
  | .tup ds, _, p, h => by cases h with | tup a b => exact .tup a (RepVs.any ds _ (by simpa [pur] using p) b)
  | .fl ds, _, p, h => by cases h with | fl a b => exact .fl a (RepVs.any ds _ (by simpa [pur] using p) b)
theorem RepVs.any : ∀ (ds : List D) (xs : List V), purs ds = true → RepVs K H r ds xs → RepVs K H r' ds xs
  | [], _, _, h => by cases h; exact .nil
  | d :: ds, _, p, h => by
    simp only [purs, Bool.and_eq_true] at p
    cases h with | cons a b => exact .cons (RepV.any d _ p.1 a) (RepVs.any ds _ p.2 b)
end
theorem RepK.pur : ∀ {kvs : List (D × D)} {ks : List (Key × V)}, kvs.all (fun p => pur p.2) = true → RepK K H r kvs ks → RepK K H r' kvs ks
  | _, _, _, .nil => .nil
  | _, _, p, .cons a b c => by
    simp only [List.all_cons, Bool.and_eq_true] at p
    exact .cons a (RepV.any _ _ p.1 b) (RepK.pur p.2 c)
theorem RepO.any {o : MO} {a : Addr} (p : purO o = true) (h : RepO K H r o a) : RepO K H r' o a := by
  cases o with
  | lst ds => obtain ⟨xs, e, t⟩ := h; exact ⟨xs, e, RepVs.any _ _ p t⟩
  | dct kvs => obtain ⟨xs, e, t⟩ := h; exact ⟨xs, e, RepK.pur p t⟩
  | fd kvs => cases p
/-! ### values told by other places -/
mutual
theorem RepV.ren {f : Nat → Nat} (hf : ∀ (n : Nat) (a : Addr), r[n]? = some a → r'[f n]? = some a) : ∀ (d : D) (x : V), RepV K H r d x → RepV K H r' (ren f d) x
  | .non, _, h => by cases h; exact .non
  | .bl _, _, h => by cases h; exact .bl _
  | .int _, _, h => by cases h; exact .int _
  | .str _, _, h => by cases h; exact .str _
  | .ref _, _, h => by cases h with | ref g => exact .ref (hf _ _ g)
  | .tup ds, _, h => by cases h with | tup a b => exact .tup a (RepVs.ren hf ds _ b)
  | .fl ds, _, h => by cases h with | fl a b => exact .fl a (RepVs.ren hf ds _ b)
theorem RepVs.ren {f : Nat → Nat} (hf : ∀ (n : Nat) (a : Addr), r[n]? = some a → r'[f n]? = some a) : ∀ (ds : List D) (xs : List V), RepVs K H r ds xs → RepVs K H r' (rens f ds) xs
  | [], _, h => by cases h; exact .nil
  | d :: ds, _, h => by cases h with | cons a b => exact .cons (RepV.ren hf d _ a) (RepVs.ren hf ds _ b)
end
theorem RepK.ren {f : Nat → Nat} (hf : ∀ (n : Nat) (a : Addr), r[n]? = some a → r'[f n]? = some a) : ∀ {kvs : List (D × D)} {ks : List (Key × V)}, RepK K H r kvs ks → RepK K H r' (kvs.map fun p => (p.1, ren f p.2)) ks
  | _, _, .nil => .nil
  | _, _, .cons a b c => .cons a (RepV.ren hf _ _ b) (RepK.ren hf c)
theorem RepO.ren {f : Nat → Nat} (hf : ∀ (n : Nat) (a : Addr), r[n]? = some a → r'[f n]? = some a) {o : MO} {a : Addr} (h : RepO K H r o a) : RepO K H r' (renO f o) a := by
  cases o with
  | lst ds => obtain ⟨xs, e, t⟩ := h; exact ⟨xs, e, RepVs.ren hf _ _ t⟩
  | dct kvs => obtain ⟨xs, e, t⟩ := h; exact ⟨xs, e, RepK.ren hf t⟩
  | fd kvs => obtain ⟨o, xs, e, t⟩ := h; exact ⟨o, xs, e, RepK.ren hf t⟩

/-! ### going in -/
/-- the places of the objects handed in -/
def Sel (r r0 : List Addr) (is : List Nat) : Prop := r0.length = is.length ∧ ∀ (j n : Nat), is[j]? = some n → r0[j]? = r[n]?
theorem argsIn_ok : ∀ {ds ds' : List D} {is is' : List Nat} {xs : List V}, argsIn ds is = some (ds', is') → is.Nodup → RepVs K H r ds xs → is'.Nodup ∧ (∃ l, is' = is ++ l) ∧ (∀ n ∈ is', n ∈ is ∨ n < r.length) ∧ ∀ r0, Sel r r0 is' → RepVs K H r0 ds' xs
  | [], _, is, _, _, h, nd, .nil => by
    simp only [argsIn, Option.some.injEq, Prod.mk.injEq] at h
    obtain ⟨rfl, rfl⟩ := h
    exact ⟨nd, ⟨[], by simp⟩, fun n hn => .inl hn, fun _ _ => .nil⟩
  | .ref n :: ds, _, is, _, _, h, nd, .cons a b => by
    simp only [argsIn] at h
    split at h
    · cases h
    · rename_i hn
      simp only [Option.map_eq_some_iff, Prod.mk.injEq] at h
      obtain ⟨⟨ds', is'⟩, h1, rfl, rfl⟩ := h
      have nd' : (is ++ [n]).Nodup := List.nodup_append.mpr ⟨nd, by simp, fun a ha b hb z => hn (by rw [List.mem_singleton.mp hb] at z; exact z ▸ ha)⟩
      obtain ⟨i1, ⟨l, rfl⟩, i2, i3⟩ := argsIn_ok h1 nd' b
      cases a with
      | ref g =>
        refine ⟨i1, ⟨[n] ++ l, by simp⟩, fun m hm => ?_, fun r0 hs => .cons (.ref ?_) (i3 r0 hs)⟩
        · rcases i2 m hm with z | z
          · rcases List.mem_append.mp z with z | z
            · exact .inl z
            · rw [List.mem_singleton.mp z]; exact .inr (List.getElem?_eq_some_iff.mp g).1
          · exact .inr z
        · have := hs.2 is.length n (by simp)
          rw [this]; exact g
  | .non :: ds, _, is, _, _, h, nd, .cons a b => by
    simp only [argsIn, pur, if_true, Option.map_eq_some_iff, Prod.mk.injEq] at h
    obtain ⟨⟨ds', is'⟩, h1, rfl, rfl⟩ := h
    obtain ⟨i1, i2, i3, i4⟩ := argsIn_ok h1 nd b
    exact ⟨i1, i2, i3, fun r0 hs => .cons (RepV.any _ _ rfl a) (i4 r0 hs)⟩
  | .bl _ :: ds, _, is, _, _, h, nd, .cons a b => by
    simp only [argsIn, pur, if_true, Option.map_eq_some_iff, Prod.mk.injEq] at h
    obtain ⟨⟨ds', is'⟩, h1, rfl, rfl⟩ := h
    obtain ⟨i1, i2, i3, i4⟩ := argsIn_ok h1 nd b
    exact ⟨i1, i2, i3, fun r0 hs => .cons (RepV.any _ _ rfl a) (i4 r0 hs)⟩
  | .int _ :: ds, _, is, _, _, h, nd, .cons a b => by
    simp only [argsIn, pur, if_true, Option.map_eq_some_iff, Prod.mk.injEq] at h
    obtain ⟨⟨ds', is'⟩, h1, rfl, rfl⟩ := h
    obtain ⟨i1, i2, i3, i4⟩ := argsIn_ok h1 nd b
    exact ⟨i1, i2, i3, fun r0 hs => .cons (RepV.any _ _ rfl a) (i4 r0 hs)⟩
  | .str _ :: ds, _, is, _, _, h, nd, .cons a b => by
    simp only [argsIn, pur, if_true, Option.map_eq_some_iff, Prod.mk.injEq] at h
    obtain ⟨⟨ds', is'⟩, h1, rfl, rfl⟩ := h
    obtain ⟨i1, i2, i3, i4⟩ := argsIn_ok h1 nd b
    exact ⟨i1, i2, i3, fun r0 hs => .cons (RepV.any _ _ rfl a) (i4 r0 hs)⟩
  | .tup _ :: ds, _, is, _, _, h, nd, .cons a b => by
    simp only [argsIn] at h
    split at h
    · rename_i hp
      simp only [Option.map_eq_some_iff, Prod.mk.injEq] at h
      obtain ⟨⟨ds', is'⟩, h1, rfl, rfl⟩ := h
      obtain ⟨i1, i2, i3, i4⟩ := argsIn_ok h1 nd b
      exact ⟨i1, i2, i3, fun r0 hs => .cons (RepV.any _ _ hp a) (i4 r0 hs)⟩
    · cases h
  | .fl _ :: ds, _, is, _, _, h, nd, .cons a b => by
    simp only [argsIn] at h
    split at h
    · rename_i hp
      simp only [Option.map_eq_some_iff, Prod.mk.injEq] at h
      obtain ⟨⟨ds', is'⟩, h1, rfl, rfl⟩ := h
      obtain ⟨i1, i2, i3, i4⟩ := argsIn_ok h1 nd b
      exact ⟨i1, i2, i3, fun r0 hs => .cons (RepV.any _ _ hp a) (i4 r0 hs)⟩
    · cases h
theorem objsIn_ok : ∀ {is : List Nat} {S0 : Sto}, objsIn S is = some S0 → S0.length = is.length ∧ ∀ (j n : Nat), is[j]? = some n → ∃ o, S[n]? = some o ∧ S0[j]? = some o ∧ purO o = true
  | [], _, h => by simp only [objsIn, Option.some.injEq] at h; subst h; exact ⟨rfl, by simp⟩
  | n :: is, _, h => by
    simp only [objsIn] at h
    split at h
    · rename_i o e
      split at h
      · rename_i hp
        simp only [Option.map_eq_some_iff] at h
        obtain ⟨S', h1, rfl⟩ := h
        obtain ⟨i1, i2⟩ := objsIn_ok h1
        refine ⟨by simp [i1], fun j m hj => ?_⟩
        cases j with
        | zero => simp at hj; subst hj; exact ⟨o, e, rfl, hp⟩
        | succ j => exact i2 j m (by simpa using hj)
      · cases h
    · cases h
/-- the places: chosen -/
def sel (r : List Addr) (is : List Nat) : List Addr := is.map fun i => r.getD i 0
theorem sel_ok {is : List Nat} (h : ∀ n ∈ is, n < r.length) : Sel r (sel r is) is := by
  refine ⟨by simp [sel], fun j n hj => ?_⟩
  have hn := h n (List.mem_of_getElem? hj)
  simp [sel, List.getElem?_map, hj, List.getElem?_eq_getElem hn]
theorem start_SI (si : SI K T H r S) {is : List Nat} (nd : is.Nodup) (hi : ∀ n ∈ is, n < r.length) (ho : objsIn S is = some S0) : SI K T H (sel r is) S0 := by
  obtain ⟨h1, h2⟩ := objsIn_ok ho
  have hs := sel_ok hi
  refine ⟨hs.1.trans h1.symm, ?_, fun j o a e1 e2 => ?_, si.tab⟩
  · refine List.pairwise_map.mpr (List.Pairwise.imp_of_mem (fun {a b} ha hb hab z => hab ?_) nd)
    have la := hi a ha
    have lb := hi b hb
    have ea : r[a]? = some (r.getD a 0) := by simp [la]
    have eb : r[b]? = some (r.getD a 0) := by rw [z]; simp [lb]
    exact nodup_ix' si.nd ea eb
  · have hj : j < is.length := by rw [← h1]; exact (List.getElem?_eq_some_iff.mp e1).1
    have hij : is[j]? = some is[j] := List.getElem?_eq_getElem hj
    obtain ⟨o', q1, q2, q3⟩ := h2 j _ hij
    rw [e1] at q2; cases q2
    rw [hs.2 j _ hij] at e2
    exact RepO.any q3 (si.obj _ _ _ q1 e2)

/-! ### coming back -/
theorem back_len : ∀ (S : Sto) (is : List Nat) (os : Sto), (back S is os).length = S.length
  | S, [], _ => by unfold back; rfl
  | S, n :: is, [] => by unfold back; rfl
  | S, n :: is, o :: os => by unfold back; rw [back_len, List.length_set]
theorem back_out : ∀ (S : Sto) (is : List Nat) (os : Sto) (m : Nat), m ∉ is → (back S is os)[m]? = S[m]?
  | S, [], _, _, _ => by unfold back; rfl
  | S, n :: is, [], _, _ => by unfold back; rfl
  | S, n :: is, o :: os, m, h => by
    unfold back
    simp only [List.mem_cons, not_or] at h
    rw [back_out _ is os m h.2, List.getElem?_set_ne (Ne.symm h.1)]
theorem back_in : ∀ (S : Sto) (is : List Nat) (os : Sto) (j m : Nat), is.Nodup → is.length = os.length → is[j]? = some m → m < S.length → (back S is os)[m]? = os[j]?
  | S, [], _, j, _, _, _, h, _ => by simp at h
  | S, n :: is, [], j, _, _, hl, _, _ => by simp at hl
  | S, n :: is, o :: os, j, m, nd, hl, h, hm => by
    unfold back
    have nd' := List.nodup_cons.mp nd
    cases j with
    | zero =>
      simp at h; subst h
      rw [back_out _ is os n nd'.1, List.getElem?_set_self hm]; rfl
    | succ j =>
      exact back_in _ is os j m nd'.2 (by simpa using hl) (by simpa using h) (by rw [List.length_set]; exact hm)
theorem mem_sel {is : List Nat} (hi : ∀ n ∈ is, n < r.length) {a : Addr} (h : a ∈ sel r is) : a ∈ r := by
  obtain ⟨n, hn, rfl⟩ := List.mem_map.mp h
  have := hi n hn
  simp [this]
/-- what is known after the callee's run -/
structure Ret (K : Frag) (T : Tx) (H : Hp) (r : List Addr) (S : Sto) (is : List Nat) (r1 : List Addr) (H1 : Hp) (S1 : Sto) : Prop where
  nd : is.Nodup
  lt : ∀ n ∈ is, n < r.length
  si : SI K T H r S
  xt : Xt (sel r is) H r1 H1
  s1 : SI K T H1 r1 S1
  pu : (S1.take is.length).all purO = true
variable {is : List Nat}
theorem Ret.len (h : Ret K T H r S is r1 H1 S1) : is.length ≤ S1.length := by
  rw [← h.s1.len]
  obtain ⟨l, e, _⟩ := h.xt.new
  rw [e, List.length_append, (sel_ok h.lt).1]; omega
/-- nothing else has changed -/
theorem Ret.out (h : Ret K T H r S is r1 H1 S1) : Xt r H r H1 :=
  ⟨⟨[], by simp, by simp⟩, fun a o e na nt => h.xt.keep a o e (fun m => na (mem_sel h.lt m)) nt, h.xt.there, h.xt.tbl⟩
theorem Ret.ext (h : Ret K T H r S is r1 H1 S1) {l : List Addr} (hl : ∀ a ∈ l, H a = none) : Xt r H (r ++ l) H1 := ⟨⟨l, rfl, hl⟩, h.out.keep, h.xt.there, h.xt.tbl⟩
theorem Ret.place (h : Ret K T H r S is r1 H1 S1) {j n : Nat} (e : is[j]? = some n) : r1[j]? = r[n]? := by
  rw [← (sel_ok h.lt).2 j n e]
  have hj : j < (sel r is).length := by rw [(sel_ok h.lt).1]; exact (List.getElem?_eq_some_iff.mp e).1
  obtain ⟨l, e', _⟩ := h.xt.new
  rw [e', List.getElem?_append_left hj]
/-- the caller's objects behind the call -/
theorem Ret.obj (h : Ret K T H r S is r1 H1 S1) {l : List Addr} (hl : ∀ a ∈ l, H a = none) {n : Nat} {o : MO} {a : Addr} (e1 : (back S is (S1.take is.length))[n]? = some o) (e2 : r[n]? = some a) : RepO K H1 (r ++ l) o a := by
  have hn : n < S.length := by rw [← h.si.len]; exact (List.getElem?_eq_some_iff.mp e2).1
  by_cases hm : n ∈ is
  · obtain ⟨j, hj, ej⟩ := List.getElem_of_mem hm
    have ej' : is[j]? = some n := by rw [List.getElem?_eq_getElem hj, ej]
    have lt : is.length = (S1.take is.length).length := by rw [List.length_take]; have := h.len; omega
    rw [back_in S is _ j n h.nd lt ej' hn] at e1
    have e3 : S1[j]? = some o := by rw [List.getElem?_take_of_lt hj] at e1; exact e1
    have hp : purO o = true := List.all_eq_true.mp h.pu o (List.mem_of_getElem? e1)
    exact RepO.any hp (h.s1.obj j o a e3 (by rw [h.place ej']; exact e2))
  · rw [back_out _ _ _ _ hm] at e1
    have ha : a ∉ sel r is := fun m => by
      obtain ⟨k, hk, ek⟩ := List.mem_map.mp m
      have lk := h.lt k hk
      have : r[k]? = some a := by rw [← ek]; simp [lk]
      exact hm (nodup_ix' h.si.nd e2 this ▸ hk)
    have ro := h.si.obj n o a e1 e2
    have nt := ro.noTup
    have same : H1 a = H a := by
      cases q : H a with
      | none => exact absurd q nt.1
      | some u =>
        refine h.xt.keep a u q ha fun ps z => ?_
        subst z
        cases o with
        | lst ds => obtain ⟨_, e, _⟩ := ro; rw [q] at e; cases e
        | dct ds => obtain ⟨_, e, _⟩ := ro; rw [q] at e; cases e
        | fd ds => obtain ⟨_, _, e, _⟩ := ro; rw [q] at e; cases e
    exact ro.at (h.ext hl) h.si.noTup same
theorem Ret.back (h : Ret K T H r S is r1 H1 S1) : SI K T H1 r (back S is (S1.take is.length)) :=
  ⟨by rw [back_len]; exact h.si.len, h.si.nd, fun n o a e1 e2 => by have := h.obj (l := []) (by simp) e1 e2; rwa [List.append_nil] at this, h.s1.tab⟩
/-- the new places -/
theorem Ret.fresh (h : Ret K T H r S is r1 H1 S1) : ∃ l, r1 = sel r is ++ l ∧ l.Nodup ∧ (∀ a ∈ l, H a = none) ∧ (∀ a ∈ l, a ∉ r) ∧ l.length = S1.length - is.length := by
  obtain ⟨l, e, hn⟩ := h.xt.new
  have nd := h.s1.nd
  rw [e] at nd
  have len := h.s1.len
  rw [e, List.length_append, (sel_ok h.lt).1] at len
  exact ⟨l, e, (List.nodup_append.mp nd).2.1, hn, fun a ha hr => (h.si.noTup a hr).1 (hn a ha), by omega⟩
theorem leave_ok (h : Ret K T H r S is r1 H1 S1) {v : D} {x : V} (hv : RepV K H1 r1 v x) {d : D} {S' : Sto} (e : leave S is v S1 = .ok d S') : ∃ r', Xt r H r' H1 ∧ RepV K H1 r' d x ∧ SI K T H1 r' S' := by
  obtain ⟨l, el, ndl, hn, hr, ll⟩ := h.fresh
  have len := h.len
  have sl := (sel_ok h.lt).1
  unfold leave at e
  rw [if_pos h.pu] at e
  split at e
  · rename_i hp
    cases e
    exact ⟨r, h.out, RepV.any _ _ hp hv, h.back⟩
  · -- all new objects stay
    have whole : ∀ {v : D}, RepV K H1 r1 v x → RepV K H1 (r ++ l) (ren (fun j => if j < is.length then is.getD j 0 else S.length + (j - is.length)) v) x ∧
        SI K T H1 (r ++ l) (back S is (S1.take is.length) ++ (S1.drop is.length).map (renO (fun j => if j < is.length then is.getD j 0 else S.length + (j - is.length)))) := fun {v} hv => by
      have hf : ∀ (n : Nat) (a : Addr), r1[n]? = some a → (r ++ l)[(fun j => if j < is.length then is.getD j 0 else S.length + (j - is.length)) n]? = some a := fun n a ea => by
        dsimp only
        split
        · rename_i hlt
          have ei : is[n]? = some (is.getD n 0) := by simp [hlt]
          have lt := h.lt _ (List.mem_of_getElem? ei)
          rw [List.getElem?_append_left lt, ← h.place ei]; exact ea
        · rename_i hlt
          rw [← h.si.len, List.getElem?_append_right (by omega)]
          rw [el, List.getElem?_append_right (by omega), sl] at ea
          rw [show r.length + (n - is.length) - r.length = n - is.length from by omega]
          exact ea
      refine ⟨RepV.ren hf v x hv, ?_, ?_, fun n o a e1 e2 => ?_, h.s1.tab⟩
      · rw [List.length_append, List.length_append, back_len, List.length_map, List.length_drop, h.si.len, ll]
      · exact List.nodup_append.mpr ⟨h.si.nd, ndl, fun a ha b hb z => hr b hb (z ▸ ha)⟩
      · by_cases hlt : n < r.length
        · rw [List.getElem?_append_left hlt] at e2
          rw [List.getElem?_append_left (by rw [back_len, ← h.si.len]; exact hlt)] at e1
          exact h.obj hn e1 e2
        · rw [List.getElem?_append_right (by omega)] at e2
          rw [List.getElem?_append_right (by rw [back_len, ← h.si.len]; omega), back_len, List.getElem?_map, Option.map_eq_some_iff] at e1
          obtain ⟨o', e3, rfl⟩ := e1
          rw [List.getElem?_drop] at e3
          refine RepO.ren hf (h.s1.obj _ o' a e3 ?_)
          rw [el, List.getElem?_append_right (by omega), sl, ← h.si.len, show is.length + (n - r.length) - is.length = n - r.length from by omega]
          exact e2
    have X' := h.ext hn
    split at e
    · rename_i j _
      split at e
      · rename_i o eo
        split at e
        · rename_i hq
          simp only [Bool.and_eq_true, decide_eq_true_eq] at hq
          cases e
          cases hv with
          | ref ga =>
            rename_i a
            rw [el, List.getElem?_append_right (by omega), sl] at ga
            have hm := List.mem_of_getElem? ga
            have hna := hn a hm
            refine ⟨r ++ [a], h.ext (by simpa using hna), .ref ?_, ?_, ?_, fun n o' b e1 e2 => ?_, h.s1.tab⟩
            · rw [← h.si.len, List.getElem?_concat_length]
            · simp [back_len, h.si.len]
            · exact List.nodup_append.mpr ⟨h.si.nd, by simp, fun b hb c hc z => hr a hm (by rw [List.mem_singleton.mp hc] at z; exact z ▸ hb)⟩
            · by_cases hlt : n < r.length
              · rw [List.getElem?_append_left hlt] at e2
                rw [List.getElem?_append_left (by rw [back_len, ← h.si.len]; exact hlt)] at e1
                exact h.obj (by simpa using hna) e1 e2
              · have hn' : n = r.length := by have := (List.getElem?_eq_some_iff.mp e2).1; simp at this; omega
                subst hn'
                rw [List.getElem?_concat_length] at e2
                cases e2
                rw [show r.length = (Ev.back S is (S1.take is.length)).length by rw [back_len]; exact h.si.len, List.getElem?_concat_length] at e1
                cases e1
                refine RepO.any hq.1 (h.s1.obj j o a eo ?_)
                rw [el, List.getElem?_append_right (by omega), sl]; exact ga
        · cases e
          exact ⟨r ++ l, X', (whole hv).1, (whole hv).2⟩
      · cases e
    · cases e
      exact ⟨r ++ l, X', (whole hv).1, (whole hv).2⟩
theorem leaveX_ok (h : SI K T H r S) (nd : is.Nodup) (lt : ∀ n ∈ is, n < r.length) (xt : Xt (sel r is) H r1 H1) (s1 : SI K T H1 r1 S1) {e e' : Ex} {S' : Sto} (g : leaveX S is e S1 = .exc e' S') {cls : Value} {dd : Option Addr} (xr : ExR K T H1 r1 e cls dd) :
    Xt r H r H1 ∧ SI K T H1 r S' ∧ ExR K T H1 r e' cls dd := by
  unfold leaveX at g
  split at g
  · rename_i hc
    rw [Bool.and_eq_true] at hc
    cases g
    have R : Ret K T H r S is r1 H1 S1 := ⟨nd, lt, h, xt, s1, hc.1⟩
    refine ⟨R.out, R.back, ?_⟩
    obtain ⟨Ca, h1, h2, h3⟩ := xr
    refine ⟨Ca, h1, h2, ?_⟩
    have hp := hc.2
    unfold purX at hp
    cases hf : e.fld with
    | none => rw [hf] at h3; exact h3
    | some d =>
      rw [hf] at h3 hp
      obtain ⟨p, nm, x, a1, a2, a3⟩ := h3
      exact ⟨p, nm, x, a1, a2, RepV.any _ _ hp a3⟩
  · cases g
end
end Ev
end
section
set_option maxRecDepth 10000
/-! All defs of a text. -/
namespace Ev
open PySem L2 PyProof.Rows
open PySem.W (Frag)

section
variable {K : Frag} {T : Tx}
theorem start_RepE {H : Hp} {r : List Addr} {N : List Str} {df : Def} {ds : List D} {vs : List V} (h : RepVs K H r ds vs) (hn : ds.length = df.np) (hs : df.ns = N.length) : RepE K H r (startE df ds) (L2.start N vs) := by
  have hl := h.length
  refine ⟨by unfold startE L2.start; simp; omega, fun i d e => ?_⟩
  unfold startE at e
  unfold L2.start
  by_cases hi : i < ds.length
  · rw [List.getElem?_append_left (by simpa using hi), List.getElem?_map, Option.map_eq_some_iff] at e
    obtain ⟨d', e1, e2⟩ := e
    cases e2
    obtain ⟨x, h1, h2⟩ := h.get e1
    exact ⟨x, by rw [List.getElem?_append_left (by simpa using (List.getElem?_eq_some_iff.mp h1).1), List.getElem?_map, h1]; rfl, h2⟩
  · rw [List.getElem?_append_right (by simpa using hi), List.getElem?_replicate] at e
    split at e <;> cases e
/-- what the body is to do for the call to do what callD says -/
theorem call_shared {df : Def} {C : CallS} {N : List Str} {H : Hp} {r : List Addr} {S : Sto} {ds : List D} {vs : List V} {Q : VK} {E : XK} {σ : L2.St} (hn : ds.length = df.np) (hv : RepVs K H r ds vs) (si : SI K T H r S) (hs : df.ns = N.length)
    (g : GoodG (RV K) K T (fun cls dd _ H' => E cls dd H') r σ H (callShared df C ds S) Q) : RS K T (fun cls dd _ H' => E cls dd H') (evSs C df.body) { nx := fun _ H' => Q .non H', rt := Q } (L2.start N vs) H := by
  refine ⟨r, startE df ds, S, start_RepE hv hn hs, si, ?_⟩
  unfold callShared at g
  cases hb : evSs C df.body (startE df ds) S with
  | bad => rw [hb] at g; exact g
  | exc e env S1 => rw [hb] at g; exact fun r' σ' H' cls dd xt _ si' xr => g r' H' cls dd xt si' xr
  | ok f env S1 =>
    rw [hb] at g
    cases f with
    | nx => exact fun r1 σ1 H1 xt he s1 => g r1 _ H1 xt .non s1
    | brk => exact False.elim g
    | ct => exact False.elim g
    | rt v => exact fun r1 x H1 xt rv s1 => g r1 x H1 xt rv s1
theorem call_body {df : Def} {C : CallS} {N : List Str} {H : Hp} {r : List Addr} {S : Sto} {ds : List D} {vs : List V} {Q : VK} {E : XK} {σ : L2.St} (hv : RepVs K H r ds vs) (si : SI K T H r S) (hs : df.ns = N.length)
    (g : GoodG (RV K) K T (fun cls dd _ H' => E cls dd H') r σ H (callD df C ds S) Q) : RS K T (fun cls dd _ H' => E cls dd H') (evSs C df.body) { nx := fun _ H' => Q .non H', rt := Q } (L2.start N vs) H := by
  unfold callD at g
  split at g
  · rename_i hn
    split at g
    · rename_i args is ea
      split at g
      · rename_i S0 eo
        obtain ⟨nd, _, i3, i4⟩ := argsIn_ok ea List.nodup_nil hv
        have lt : ∀ n ∈ is, n < r.length := fun n hn => (i3 n hn).resolve_left (by simp)
        have hv0 := i4 _ (sel_ok lt)
        refine ⟨sel r is, startE df args, S0, start_RepE hv0 (by rw [hv0.length, ← hv.length]; exact hn) hs, start_SI si nd lt eo, ?_⟩
        have fin : ∀ {v : D} {x : V} {r1 : List Addr} {H1 : Hp} {S1 : Sto}, GoodG (RV K) K T (fun cls dd _ H' => E cls dd H') r σ H (leave S is v S1) Q → Xt (sel r is) H r1 H1 → RepV K H1 r1 v x → SI K T H1 r1 S1 → Q x H1 := fun {v x r1 H1 S1} g xt rv s1 => by
          cases el : leave S is v S1 with
          | bad => rw [el] at g; exact False.elim g
          | exc _ _ => unfold leave at el; repeat' split at el
                       all_goals cases el
          | ok d S' =>
            rw [el] at g
            have pu : (S1.take is.length).all purO = true := by
              cases q : (S1.take is.length).all purO with
              | true => rfl
              | false => unfold leave at el; rw [q] at el; cases el
            obtain ⟨r', a, b, c⟩ := leave_ok ⟨nd, lt, si, xt, s1, pu⟩ rv el
            exact g r' x H1 a b c
        cases hb : evSs C df.body (startE df args) S0 with
        | bad => rw [hb] at g; exact g
        | exc e env S1 =>
          rw [hb] at g
          intro r' σ' H' cls dd xt _ si' xr
          simp only at g
          cases el : leaveX S is e S1 with
          | bad => rw [el] at g; exact False.elim g
          | ok _ _ => unfold leaveX at el; split at el <;> cases el
          | exc e' S' =>
            rw [el] at g
            obtain ⟨a, b, c⟩ := leaveX_ok si nd lt xt si' el xr
            exact g r H' cls dd a b c
        | ok f env S1 =>
          rw [hb] at g
          cases f with
          | nx => exact fun r1 σ1 H1 xt he s1 => fin g xt .non s1
          | brk => exact False.elim g
          | ct => exact False.elim g
          | rt v => exact fun r1 x H1 xt rv s1 => fin g xt rv s1
      · exact call_shared hn hv si hs g
    · exact call_shared hn hv si hs g
  · exact False.elim g
theorem callD_len {df : Def} {C : CallS} {ds : List D} {S : Sto} (h : callD df C ds S ≠ .bad) : ds.length = df.np := by
  unfold callD at h
  split at h
  · assumption
  · exact absurd rfl h

/-! ### the text's defs -/
/-- what a def makes: 0 nothing, 1 generators, 2 lambdas that are told -/
def genF (m : Nat) : Option Nat := if m = 1 then some 1 else none
def lamF (m : Nat) : Bool := decide (m = 2)
/-- the table of a def that makes generators or lambdas -/
structure TabF (K : Frag) (mg : Str → Option Value) (base : Heap) (T : Tx) (lam : List (Nat × Nat)) (m : Nat) (q : Str) (code : Value) : Prop where
  ok : ∃ t cd, t ∈ T.tab ∧ t.n = 1 ∧ code = .ref cd ∧ LamX.TabB base mg cd t.P ∧ (m = 2 → t.ls = lam ∧ t.q = q ∧ ∀ t' ∈ T.tab, t'.P = t.P → t'.n = 0 ∨ (t'.ls = t.ls ∧ t'.q = t.q))
/-- what the head tells of a def -/
structure FnFact (K : Frag) (mg : Str → Option Value) (base : Heap) (T : Tx) (X : Txt) (dd : Nat) (d : DefT) (m : Nat) (df : Def) : Prop where
  sc : FnScope d.N d.ps (scopeOf d.st)
  tr : ∃ j, trSs j (X.cn dd d (genF m) (lamF m)) (bodyOf d.st) = some df.body
  np : df.np = d.ps.length
  ns : df.ns = d.N.length
  fn : ∃ f fd prm, mg d.name = some (.ref f) ∧ FunD K d.name d.name prm (bodyOf d.st) (scopeOf d.st) [] [] f fd ∧ Binds K fd d.ps []
structure Facts (K : Frag) (mg : Str → Option Value) (base : Heap) (T : Tx) (X : Txt) (dd : Nat) (ds : List DefT) (ms : List Nat) (P : List Def) : Prop where
  len : P.length = ds.length
  lenm : ms.length = ds.length
  fns : X.fns = ds.map (·.name)
  bn : ∀ x ∈ bnames, mg x = none
  fact : ∀ (i : Nat) (d : DefT) (m : Nat) (df : Def), ds[i]? = some d → ms[i]? = some m → P[i]? = some df → FnFact K mg base T X dd d m df
  tabs1 : ∀ (i : Nat) (d : DefT) (m : Nat) (f : Addr) (fd : FuncData) (prm : Arguments), ds[i]? = some d → ms[i]? = some m → mg d.name = some (.ref f) → FunD K d.name d.name prm (bodyOf d.st) (scopeOf d.st) [] [] f fd → m ≠ 0 → TabF K mg base T X.lam m (d.name ++ ".<locals>.<lambda>") fd.code
  cst : ∀ x e, X.cst.lookup x = some e → (∃ i t, e = .int i ∧ mg x = some (.int i t)) ∨ ∃ s t, e = .str s ∧ mg x = some (.str (sv s) t)
  cl : ∀ x k, ixOf x X.cls = some k → ∃ Ca, T.cls[k]? = some Ca ∧ ClsD K mg x Ca
  fl : X.flds = []
  sub : ∀ (i j : Nat) (Ci Cj : Addr) (l : List Nat), T.cls[i]? = some Ci → T.cls[j]? = some Cj → X.sub[j]? = some l → PySem.W.exmOne K (.ref Ci) (.ref Cj) = some (l.contains i)
  told : ∀ x hs, X.told.lookup x = some hs → ∃ l, ToldD K mg x l ∧ TL T hs l
  tabs : ∀ t ∈ T.tab, t.n ≤ 1 ∧ ∀ p ∈ t.ls, p ∈ X.lam
/-- the rule for a def whose code object is asked for -/
theorem okC {P : Program} {w : World} {mg : Str → Option Value} {base : Heap} {x qual : Str} {params : Arguments} {body : List Stmt} {scope : Scope} {dvs : List V} {kws : List (Str × V)} {f : Addr} {fd : FuncData} {CX : CXT} {N ps : List Str} {k : Nat} {sp : Sp}
    (F : FunD K x qual params body scope dvs kws f fd) (S : FnScope N ps scope) (len : ∀ vs H Q E, sp vs H Q E → vs.length = ps.length)
    (hbody : ∀ (A : Around) (outer : List PySem.Env) (s : Shared) (H : Hp) (vs : List V) (Q : VK) (E : XK), Room k (A.deeper (envOfC qual scope s.heap.objs.size f fd.code)) → sp vs H Q E →
      ∃ t, PSs (cxOf CX P w K mg base N qual scope f fd.code A outer s H E) body t ∧ t { nx := fun _ H' => Q .non H', rt := Q } (L2.start N vs) H) : FnOk P w K mg base CX (k + 1) f fd ps sp := by
  obtain ⟨oc, od, dV, kV, doc, pm, an, cdv, ct, osl, rfl, lk, hcd, _, _⟩ := F.ex
  exact fn_of lk hcd S len fun A outer s H vs Q E hr hsp => hbody A outer s H vs Q E hr hsp
variable {Pg : Program} {w : World} {mg : Str → Option Value} {base : Heap} {ds : List DefT} {ms : List Nat} {P : List Def} {X : Txt} {dd : Nat}
theorem all_ok (F : Facts K mg base T X dd ds ms P) : ∀ (n i : Nat) (d : DefT), ds[i]? = some d → ∀ (f : Addr) (fd : FuncData) (prm : Arguments), mg d.name = some (.ref f) → FunD K d.name d.name prm (bodyOf d.st) (scopeOf d.st) [] [] f fd →
    FnOk Pg w K mg base (L2.CX Pg w) ((dd + 1) * n) f fd d.ps (spD K T d.ps.length (callSem P n i))
  | 0, i, d, hd, f, fd, prm, hmf, fun_ => ⟨fun vs H Q E ⟨r, S, ds, hv, _, hl, _⟩ => by rw [← hv.length]; exact hl, fun A outer s H args us vs Q E _ _ _ _ ⟨_, _, _, _, _, _, g⟩ => False.elim g⟩
  | n + 1, i, d, hd, f, fd, prm, hmf, fun_ => by
    have hi := (List.getElem?_eq_some_iff.mp hd).1
    obtain ⟨df, hp⟩ : ∃ df, P[i]? = some df := ⟨_, List.getElem?_eq_getElem (by rw [F.len]; exact hi)⟩
    obtain ⟨m, hm⟩ : ∃ m, ms[i]? = some m := ⟨_, List.getElem?_eq_getElem (by rw [F.lenm]; exact hi)⟩
    have ff := F.fact i d m df hd hm hp
    have el : (dd + 1) * (n + 1) = ((dd + 1) * n + dd) + 1 := by rw [Nat.mul_add]; omega
    rw [el]
    refine okC fun_ ff.sc (fun vs H Q E ⟨r, S, ds, hv, _, hl, _⟩ => by rw [← hv.length]; exact hl) fun A outer s H vs Q E hr hsp => ?_
    refine ⟨RS K T (fun cls dd _ H' => E cls dd H') (evSs (callSem P n) df.body), ?_, ?_⟩
    · obtain ⟨j, htr⟩ := ff.tr
      have hctx : CtxS (callSem P n) T (cxOf (L2.CX Pg w) Pg w K mg base d.N d.name (scopeOf d.st) f fd.code A outer s H E) (X.cn dd d (genF m) (lamF m)) (fun cls dd _ H' => E cls dd H') := by
        refine ⟨⟨rfl, ff.sc.nd, rfl, rfl, takes_of rfl rfl rfl rfl, F.bn, ⟨(dd + 1) * n, hr, ?_⟩, F.cst, F.cl, fun k => ?_, F.sub, F.told, fun k e => ?_, fun e => ?_, F.tabs⟩, ff.sc.kind, fun _ => rfl, passes_of rfl⟩
        · intro x k hx
          have hx : ixOf x X.fns = some k := hx
          rw [F.fns] at hx
          have hk := ixOf_get hx
          simp only [List.getElem?_map, Option.map_eq_some_iff] at hk
          obtain ⟨d', hd', rfl⟩ := hk
          have hi' := (List.getElem?_eq_some_iff.mp hd').1
          obtain ⟨df', hp'⟩ : ∃ df, P[k]? = some df := ⟨_, List.getElem?_eq_getElem (by rw [F.len]; exact hi')⟩
          obtain ⟨m', hm'⟩ : ∃ m, ms[k]? = some m := ⟨_, List.getElem?_eq_getElem (by rw [F.lenm]; exact hi')⟩
          have ff' := F.fact k d' m' df' hd' hm' hp'
          obtain ⟨f', fd', prm', g1, g2, g3⟩ := ff'.fn
          refine ⟨f', fd', d'.ps, g1, g2.kp, g3, all_ok F n k d' hd' f' fd' prm' g1 g2, fun ds S hb => ?_⟩
          cases n with
          | zero => exact absurd rfl hb
          | succ m =>
            have : callSem P (m + 1) k ds S = callD df' (callSem P m) ds S := by simp only [callSem, hp']
            rw [this] at hb
            rw [callD_len hb, ff'.np]
        · show X.flds.contains k = false
          rw [F.fl]; rfl
        · have e : genF m = some k := e
          unfold genF at e
          split at e
          · rename_i h1
            cases e
            obtain ⟨t, cd, t1, t2, t3, t4, _⟩ := (F.tabs1 i d m f fd prm hd hm hmf fun_ (by omega)).ok
            obtain ⟨bm, o, b1, b2, b3, b4, b5, b6, b7, b8⟩ := t4.bm
            exact ⟨t, cd, t1, t2, t3, .inr t4.code, ⟨bm, o, b1, b2, b5, b6, b7, b8⟩⟩
          · cases e
        · have e : lamF m = true := e
          unfold lamF at e
          have h2 : m = 2 := by simpa using e
          obtain ⟨t, cd, t1, t2, t3, t4, t5⟩ := (F.tabs1 i d m f fd prm hd hm hmf fun_ (by omega)).ok
          obtain ⟨t6, t7, t8⟩ := t5 h2
          exact ⟨t, cd, t1, t2, t6, t7, t3, t4, t8⟩
      exact (sndS j).Ss hctx htr
    · obtain ⟨r, S, ds', hv, si, hl, g⟩ := hsp
      have : callSem P (n + 1) i ds' S = callD df (callSem P n) ds' S := by simp only [callSem, hp]
      rw [this] at g
      exact call_body hv si ff.ns g
end
end Ev
end
section
set_option maxRecDepth 10000
/-! From the head's facts to the law's walk. -/
namespace Ev
open PySem L2 PyProof.Rows
open PySem.W (Frag)

/-! ### what is asked of the head -/
def toD (d : DefT) : He.DefD := ⟨(d.name, none), d.name, d.name, defArgs d.st, bodyOf d.st, scopeOf d.st, [], []⟩
def fnOf (ds ts : List DefT) : List He.DefD := (ds ++ ts).map toD
def cstF : Str × IE → He.Fa
  | (x, .int i) => .int x i
  | (x, .str s) => .str x (sv s)
  | (x, _) => .glo x
def exmF (X : Txt) : List He.Fa := (List.range X.cls.length).flatMap fun j => (List.range X.cls.length).map fun i => .exm (X.cls.getD i ⟨#[]⟩) (X.cls.getD j ⟨#[]⟩) ((X.sub.getD j []).contains i)
def faOf (X : Txt) (ds ts : List DefT) : List He.Fa := (ds ++ ts).map (fun d => He.Fa.glo d.name) ++ bnames.map He.Fa.free ++ X.cst.map cstF ++ X.cls.map He.Fa.exc ++ X.cls.map He.Fa.glo ++ exmF X
/-- defs that make generators, lambdas -/
def tfOf : List DefT → List Nat → List He.Defn
  | d :: ds, m :: ms => if m = 0 then tfOf ds ms else (d.name, none) :: tfOf ds ms
  | _, _ => []
def exOf (tf : List He.Defn) (K : Frag) : Bool := decide ((tf.map fun p => (He.cT K p).2).Nodup)
def tbOf (K : Frag) (X : Txt) (d : DefT) (m : Nat) : Tb := ⟨(He.cT K (d.name, none)).2, none, 1, if m = 2 then X.lam else [], d.name ++ ".<locals>.<lambda>"⟩
def tbsOf (K : Frag) (X : Txt) : List DefT → List Nat → List Tb
  | d :: ds, m :: ms => if m = 0 then tbsOf K X ds ms else tbOf K X d m :: tbsOf K X ds ms
  | _, _ => []
def txOf (K : Frag) (X : Txt) (ds : List DefT) (ms : List Nat) : Tx := ⟨X.cls.map (He.ga K), tbsOf K X ds ms⟩
abbrev hkOf (X : Txt) (ds : List DefT) (ms : List Nat) (ts : List DefT) : PySem.W.Hook := He.hookX 5 (faOf X ds ts) (fnOf ds ts) [] (tfOf ds ms) (exOf (tfOf ds ms))
/-! ### what a text's defs are -/
structure DefOk (X : Txt) (dd : Nat) (d : DefT) (m : Nat) (df : Def) : Prop where
  sc : FnScope d.N d.ps (scopeOf d.st)
  tr : trSs 200 (X.cn dd d (genF m) (lamF m)) (bodyOf d.st) = some df.body
  np : df.np = d.ps.length
  ns : df.ns = d.N.length
  bi : ∀ (K : Frag) (f : Addr) (fd : FuncData), FunD K d.name d.name (defArgs d.st) (bodyOf d.st) (scopeOf d.st) [] [] f fd → Binds K fd d.ps []
def Oks (X : Txt) (dd : Nat) : List DefT → List Nat → List Def → Prop
  | [], [], [] => True
  | d :: ds, m :: ms, f :: fs => DefOk X dd d m f ∧ Oks X dd ds ms fs
  | _, _, _ => False
section
variable {X : Txt} {dd : Nat}
theorem Oks.len : ∀ {ds : List DefT} {ms : List Nat} {fs : List Def}, Oks X dd ds ms fs → fs.length = ds.length ∧ ms.length = ds.length
  | [], [], [], _ => ⟨rfl, rfl⟩
  | _ :: _, _ :: _, _ :: _, h => by simp [Oks.len h.2]
  | [], _ :: _, _, h => h.elim
  | [], [], _ :: _, h => h.elim
  | _ :: _, [], _, h => h.elim
  | _ :: _, _ :: _, [], h => h.elim
theorem Oks.get : ∀ {ds : List DefT} {ms : List Nat} {fs : List Def}, Oks X dd ds ms fs → ∀ (i : Nat) (d : DefT) (m : Nat) (f : Def), ds[i]? = some d → ms[i]? = some m → fs[i]? = some f → DefOk X dd d m f
  | [], [], [], _, i, _, _, _, h, _, _ => by simp at h
  | _ :: _, _ :: _, _ :: _, h, 0, _, _, _, e1, e2, e3 => by simp at e1 e2 e3; subst e1 e2 e3; exact h.1
  | _ :: _, _ :: _, _ :: _, h, i + 1, _, _, _, e1, e2, e3 => Oks.get h.2 i _ _ _ (by simpa using e1) (by simpa using e2) (by simpa using e3)
  | [], _ :: _, _, h, _, _, _, _, _, _, _ => h.elim
  | [], [], _ :: _, h, _, _, _, _, _, _, _ => h.elim
  | _ :: _, [], _, h, _, _, _, _, _, _, _ => h.elim
  | _ :: _, _ :: _, [], h, _, _, _, _, _, _, _ => h.elim
theorem tfOf_mem {d : DefT} {m : Nat} (h0 : m ≠ 0) : ∀ {ds : List DefT} {ms : List Nat} {i : Nat}, ds[i]? = some d → ms[i]? = some m → (d.name, none) ∈ tfOf ds ms
  | [], _, _, h, _ => by simp at h
  | _ :: _, [], _, _, h => by simp at h
  | a :: ds, b :: ms, 0, e1, e2 => by simp at e1 e2; subst e1 e2; unfold tfOf; rw [if_neg h0]; exact List.mem_cons_self ..
  | a :: ds, b :: ms, i + 1, e1, e2 => by
    have := tfOf_mem h0 (i := i) (ds := ds) (ms := ms) (by simpa using e1) (by simpa using e2)
    unfold tfOf
    split
    · exact this
    · exact List.mem_cons_of_mem _ this
theorem tbsOf_get {K : Frag} {d : DefT} {m : Nat} (h0 : m ≠ 0) : ∀ {ds : List DefT} {ms : List Nat} {i : Nat}, ds[i]? = some d → ms[i]? = some m → tbOf K X d m ∈ tbsOf K X ds ms
  | [], _, _, h, _ => by simp at h
  | _ :: _, [], _, _, h => by simp at h
  | a :: ds, b :: ms, 0, e1, e2 => by simp at e1 e2; subst e1 e2; unfold tbsOf; rw [if_neg h0]; exact List.mem_cons_self ..
  | a :: ds, b :: ms, i + 1, e1, e2 => by
    have := tbsOf_get (K := K) h0 (i := i) (ds := ds) (ms := ms) (by simpa using e1) (by simpa using e2)
    unfold tbsOf
    split
    · exact this
    · exact List.mem_cons_of_mem _ this
theorem tbsOf_mem {K : Frag} {t : Tb} : ∀ {ds : List DefT} {ms : List Nat}, t ∈ tbsOf K X ds ms → ∃ d m, m ≠ 0 ∧ t = tbOf K X d m ∧ (d.name, none) ∈ tfOf ds ms
  | [], _, h => by unfold tbsOf at h; simp at h
  | _ :: _, [], h => by unfold tbsOf at h; simp at h
  | a :: ds, b :: ms, h => by
    unfold tbsOf at h
    unfold tfOf
    split at h
    · rename_i h0
      rw [if_pos h0]
      exact tbsOf_mem h
    · rename_i h0
      rw [if_neg h0]
      rcases List.mem_cons.mp h with e | e
      · exact ⟨a, b, h0, e, List.mem_cons_self ..⟩
      · obtain ⟨d, m, h1, h2, h3⟩ := tbsOf_mem e
        exact ⟨d, m, h1, h2, List.mem_cons_of_mem _ h3⟩
theorem tbs_P {K : Frag} : ∀ {ds : List DefT} {ms : List Nat}, (tbsOf K X ds ms).map (·.P) = (tfOf ds ms).map fun p => (He.cT K p).2
  | [], _ => by unfold tbsOf tfOf; rfl
  | _ :: _, [] => by unfold tbsOf tfOf; rfl
  | a :: ds, b :: ms => by
    unfold tbsOf tfOf
    split
    · exact tbs_P
    · simp only [List.map_cons, tbs_P]; rfl
theorem nodup_P {l : List Tb} (h : (l.map (·.P)).Nodup) : ∀ t ∈ l, ∀ t' ∈ l, t'.P = t.P → t' = t := fun t ht t' ht' e => by
  obtain ⟨i, hi, ei⟩ := List.getElem_of_mem ht
  obtain ⟨j, hj, ej⟩ := List.getElem_of_mem ht'
  have := nodup_ix' h (i := i) (j := j) (a := t.P) (by rw [List.getElem?_map, List.getElem?_eq_getElem hi, ei]; rfl) (by rw [List.getElem?_map, List.getElem?_eq_getElem hj, ej, ← e]; rfl)
  subst this
  exact ej.symm.trans ei
end
/-! ### told defs -/
/-- the clauses of a told def's text -/
def hsB (sg : Scope) : List ExceptHandler → Option (List (Str × Str))
  | [] => some []
  | .ExceptHandler (some (.Name e _)) none [.Return (some (.Constant (.str z) _ _)) _] _ :: r => if sg.names.lookup e == some .globalImplicit && !(e == ("__debug__" : Str)) then (hsB sg r).map ((e, z) :: ·) else none
  | _ => none
theorem hsB_ok {K : Frag} {mg : Str → Option Value} {sg : Scope} : ∀ {hs : List ExceptHandler} {l : List (Str × Str)}, hsB sg hs = some l → (∀ p ∈ l, mg p.1 = some (.ref (He.ga K p.1))) → ToldHs mg sg hs (l.map fun p => (He.ga K p.1, p.2)) := by
  intro hs
  induction hs with
  | nil => intro l h _; unfold hsB at h; cases h; exact .nil
  | cons a r ih =>
    intro l h hm
    unfold hsB at h
    split at h
    · rename_i e; cases e
    · rename_i e
      cases e
      split at h
      · rename_i q
        obtain ⟨l', h1, rfl⟩ := Option.map_eq_some_iff.mp h
        simp only [Bool.and_eq_true, Bool.not_eq_true'] at q
        exact .cons (nk_eq q.1) q.2 (hm _ (List.mem_cons_self ..)) (ih h1 fun p hp => hm p (List.mem_cons_of_mem _ hp))
      · cases h
    · cases h
/-- what a told def's text is -/
structure ToldT (X : Txt) (d : DefT) (hs : List (Nat × List Nat)) : Prop where
  ex : ∃ (a : Str) (hds : List ExceptHandler) (h₀ : ExceptHandler) (p1 p2 p3 p4 : Pos) (l : List (Str × Str)), d.ps = [a] ∧ FnScope d.N [a] (scopeOf d.st) ∧ d.N[0]? = some a ∧ Vis (scopeOf d.st) a ∧ (a == ("__debug__" : Str)) = false ∧ (a == ("__classdict__" : Str)) = false ∧
    bodyOf d.st = [.Try [.Return (some (.Call (.Name a p1) [] [] p2)) p3] (h₀ :: hds) [] [] p4] ∧ hsB (scopeOf d.st) (h₀ :: hds) = some l ∧ l = hs.map fun p => (X.cls.getD p.1 ⟨#[]⟩, sv p.2)
  cl : ∀ p ∈ hs, p.1 < X.cls.length
  bi : ∀ (K : Frag) (f : Addr) (fd : FuncData), FunD K d.name d.name (defArgs d.st) (bodyOf d.st) (scopeOf d.st) [] [] f fd → Binds K fd d.ps []
section
variable {K : Frag} {h : Heap} {mg : Str → Option Value} {ds ts : List DefT} {ms : List Nat} {P : List Def} {X : Txt} {dd : Nat}
theorem fact_free (x : Str) (hx : x ∈ bnames) : He.Fa.free x ∈ faOf X ds ts := by
  unfold faOf
  simp only [List.mem_append, List.mem_map]
  exact .inl (.inl (.inl (.inl (.inr ⟨x, hx, rfl⟩))))
theorem fact_glo {d : DefT} (hd : d ∈ ds ++ ts) : He.Fa.glo d.name ∈ faOf X ds ts := by
  unfold faOf
  rw [List.mem_append, List.mem_append, List.mem_append, List.mem_append, List.mem_append]
  exact .inl (.inl (.inl (.inl (.inl (List.mem_map.mpr ⟨d, hd, rfl⟩)))))
theorem fact_cst {p : Str × IE} (hp : p ∈ X.cst) : cstF p ∈ faOf X ds ts := by
  unfold faOf
  rw [List.mem_append, List.mem_append, List.mem_append, List.mem_append, List.mem_append]
  exact .inl (.inl (.inl (.inr (List.mem_map.mpr ⟨p, hp, rfl⟩))))
theorem fact_exc {x : Str} (hx : x ∈ X.cls) : He.Fa.exc x ∈ faOf X ds ts := by
  unfold faOf
  rw [List.mem_append, List.mem_append, List.mem_append, List.mem_append, List.mem_append]
  exact .inl (.inl (.inr (List.mem_map.mpr ⟨x, hx, rfl⟩)))
theorem fact_cls {x : Str} (hx : x ∈ X.cls) : He.Fa.glo x ∈ faOf X ds ts := by
  unfold faOf
  rw [List.mem_append, List.mem_append, List.mem_append, List.mem_append, List.mem_append]
  exact .inl (.inr (List.mem_map.mpr ⟨x, hx, rfl⟩))
theorem fact_exm {i j : Nat} (hi : i < X.cls.length) (hj : j < X.cls.length) : He.Fa.exm (X.cls.getD i ⟨#[]⟩) (X.cls.getD j ⟨#[]⟩) ((X.sub.getD j []).contains i) ∈ faOf X ds ts := by
  unfold faOf exmF
  rw [List.mem_append, List.mem_append, List.mem_append, List.mem_append, List.mem_append]
  refine .inr (List.mem_flatMap.mpr ⟨j, List.mem_range.mpr hj, List.mem_map.mpr ⟨i, List.mem_range.mpr hi, rfl⟩⟩)
theorem ixOf_mem {x : Str} {l : List Str} {k : Nat} (h : ixOf x l = some k) : x ∈ l := List.mem_of_getElem? (ixOf_get h)
theorem lookup_in {α β : Type} [BEq α] [LawfulBEq α] {x : α} {e : β} : ∀ {l : List (α × β)}, l.lookup x = some e → (x, e) ∈ l
  | [], h => by simp at h
  | (a, b) :: r, h => by
    rw [List.lookup_cons] at h
    cases q : x == a with
    | true => rw [q] at h; cases h; rw [eq_of_beq q]; exact List.mem_cons_self ..
    | false => rw [q] at h; exact List.mem_cons_of_mem _ (lookup_in h)
theorem def_of (Xh : K.In h) (G : h.Ns mainGlobals mg) (c : He.SaysD (faOf X ds ts) (fnOf ds ts) K) {d : DefT} (hd : d ∈ ds ++ ts) :
    ∃ fd, mg d.name = some (.ref (He.ga K d.name)) ∧ FunD K d.name d.name (defArgs d.st) (bodyOf d.st) (scopeOf d.st) [] [] (He.ga K d.name) fd := by
  obtain ⟨fd, F⟩ := c.defs (d := toD d) (by unfold fnOf; exact List.mem_map.mpr ⟨d, hd, rfl⟩)
  exact ⟨fd, He.glo_ok Xh G (c.facts (fact_glo hd)), F⟩
theorem told_of (Xh : K.In h) (G : h.Ns mainGlobals mg) (c : He.SaysD (faOf X ds ts) (fnOf ds ts) K) {d : DefT} {hs : List (Nat × List Nat)} (hd : d ∈ ts) (t : ToldT X d hs) : ∃ l, ToldD K mg d.name l ∧ TL (txOf K X ds ms) hs l := by
  obtain ⟨fd, hm, F⟩ := def_of Xh G c (List.mem_append_right _ hd)
  obtain ⟨a, hds, h₀, p1, p2, p3, p4, l, e1, e2, e3, e4, e5, e6, e7, e8, e9⟩ := t.ex
  have hb := t.bi K _ fd F
  obtain ⟨oc, od, dV, kV, doc, pm, an, cdv, ct, osl, rfl, lk, hcd, _, _⟩ := F.ex
  rw [e1] at hb
  have hl : ∀ p ∈ l, mg p.1 = some (.ref (He.ga K p.1)) := fun p hp => by
    rw [e9] at hp
    obtain ⟨q, hq, rfl⟩ := List.mem_map.mp hp
    have := t.cl q hq
    refine He.glo_ok Xh G (c.facts (fact_cls ?_))
    simp only [List.getD_eq_getElem?_getD, List.getElem?_eq_getElem this, Option.getD_some, List.getElem_mem]
  refine ⟨_, ⟨He.ga K d.name, defArgs d.st, bodyOf d.st, scopeOf d.st, dV, kV, doc, pm, cdv, ct, oc, an, od, osl, d.N, a, hds, h₀, p1, p2, p3, p4, hm, F.kp, lk, hcd, hb, e2, e3, e4, e5, e6, e7, hsB_ok e8 hl⟩, ?_⟩
  subst e9
  have : ∀ hs : List (Nat × List Nat), (∀ p ∈ hs, p.1 < X.cls.length) → TL (txOf K X ds ms) hs ((hs.map fun p => (X.cls.getD p.1 ⟨#[]⟩, sv p.2)).map fun p => (He.ga K p.1, p.2)) := by
    intro hs
    induction hs with
    | nil => intro _; trivial
    | cons p r ih =>
      intro hc
      have hp := hc p (List.mem_cons_self ..)
      refine ⟨?_, rfl, ih fun q hq => hc q (List.mem_cons_of_mem _ hq)⟩
      show (X.cls.map (He.ga K))[p.1]? = _
      rw [List.getElem?_map, List.getElem?_eq_getElem hp]
      show some (He.ga K _) = some (He.ga K (X.cls.getD p.1 ⟨#[]⟩))
      rw [List.getD_eq_getElem?_getD, List.getElem?_eq_getElem hp]
      rfl
  exact this hs t.cl
/-- every told def of the text has its text -/
def Tolds (X : Txt) (ts : List DefT) : Prop := ∀ p ∈ X.told, ∃ d ∈ ts, d.name = p.1 ∧ ToldT X d p.2
structure TxtOk (X : Txt) (dd : Nat) (ds : List DefT) (ms : List Nat) (ts : List DefT) (P : List Def) : Prop where
  fns : X.fns = ds.map (·.name)
  oks : Oks X dd ds ms P
  told : Tolds X ts
  fl : X.flds = []
  cst : X.cst.all (fun p => match p.2 with | .int _ => true | .str _ => true | _ => false) = true
  subl : X.sub.length = X.cls.length
theorem facts_of {w : World} {base : Heap} (Xb : K.In base) (Gb : base.Ns mainGlobals mg) (c : He.SaysX (faOf X ds ts) (fnOf ds ts) [] (tfOf ds ms) (exOf (tfOf ds ms)) w h K) (ok : TxtOk X dd ds ms ts P)
    (tb : ∀ p ∈ tfOf ds ms, LamX.TabB base mg (He.cT K p).1 (He.cT K p).2) : Facts K mg base (txOf K X ds ms) X dd ds ms P where
  len := ok.oks.len.1
  lenm := ok.oks.len.2
  fns := ok.fns
  bn := fun x hx => He.free_ok Xb Gb (c.t.d.facts (fact_free x hx))
  fact := fun i d m df hd hm hp => by
    have o := ok.oks.get i d m df hd hm hp
    obtain ⟨fd, g, F⟩ := def_of Xb Gb c.t.d (List.mem_append_left _ (List.mem_of_getElem? hd))
    exact ⟨o.sc, ⟨200, o.tr⟩, o.np, o.ns, _, fd, _, g, F, o.bi K _ fd F⟩
  tabs1 := fun i d m f fd prm hd hm hg F h0 => by
    obtain ⟨fd', g, F'⟩ := def_of Xb Gb c.t.d (List.mem_append_left _ (List.mem_of_getElem? hd))
    rw [hg] at g
    have ef : f = He.ga K d.name := by injection g with g; injection g
    subst ef
    have hin := tfOf_mem h0 hd hm
    obtain ⟨oc, od, dV, kV, doc, pm, an, cdv, ct, osl, rfl, lk, hcd, _, _⟩ := F.ex
    obtain ⟨cd, e⟩ := He.codeIn_ref hcd
    have ec : He.codeOf K (d.name, none) = cd := He.codeOf_eq (fd := PySem.W.fnOf d.name d.name prm (bodyOf d.st) (scopeOf d.st) dV kV doc pm an cdv ct) lk e
    refine ⟨tbOf K X d m, cd, tbsOf_get h0 hd hm, rfl, e, ?_, fun h2 => ⟨by unfold tbOf; simp [h2], rfl, fun t' ht' e' => .inr ?_⟩⟩
    · have := tb _ hin
      unfold He.cT at this
      simp only [ec] at this
      unfold tbOf He.cT
      simp only [ec]
      exact this
    · have nd : ((tbsOf K X ds ms).map (·.P)).Nodup := by
        rw [tbs_P]
        have := c.more
        unfold exOf at this
        exact of_decide_eq_true this
      rw [nodup_P nd _ (tbsOf_get h0 hd hm) t' ht' e']
      exact ⟨rfl, rfl⟩
  cst := fun x e he => by
    have hm := lookup_in he
    have hk := c.t.d.facts (fact_cst hm)
    have := List.all_eq_true.mp ok.cst _ hm
    cases e with
    | int i => exact .inl ⟨i, by obtain ⟨t, z⟩ := He.int_ok Xb Gb hk; exact ⟨t, rfl, z⟩⟩
    | str s => exact .inr ⟨s, by obtain ⟨t, z⟩ := He.str_ok Xb Gb hk; exact ⟨t, rfl, z⟩⟩
    | _ => cases this
  cl := fun x k hx => by
    have hm := ixOf_mem hx
    obtain ⟨a, b, c1, d⟩ := He.exc_ok (c.t.d.facts (fact_exc hm))
    refine ⟨He.ga K x, ?_, He.glo_ok Xb Gb (c.t.d.facts (fact_cls hm)), b, c1, d, a⟩
    show (X.cls.map (He.ga K))[k]? = _
    rw [List.getElem?_map, ixOf_get hx]; rfl
  fl := ok.fl
  sub := fun i j Ci Cj l hi hj hl => by
    have hi' : (X.cls.map (He.ga K))[i]? = some Ci := hi
    have hj' : (X.cls.map (He.ga K))[j]? = some Cj := hj
    rw [List.getElem?_map, Option.map_eq_some_iff] at hi' hj'
    obtain ⟨xi, ei, rfl⟩ := hi'
    obtain ⟨xj, ej, rfl⟩ := hj'
    have := He.exm_ok (c.t.d.facts (fact_exm (X := X) (ds := ds) (ts := ts) (i := i) (j := j) (List.getElem?_eq_some_iff.mp ei).1 (List.getElem?_eq_some_iff.mp ej).1))
    rw [List.getD_eq_getElem?_getD, ei, List.getD_eq_getElem?_getD, ej, List.getD_eq_getElem?_getD, hl] at this
    exact this
  told := fun x hs hx => by
    obtain ⟨d, hd, e, t⟩ := ok.told _ (lookup_in hx)
    have e : d.name = x := e
    subst e
    exact told_of Xb Gb c.t.d hd t
  tabs := fun t ht => by
    obtain ⟨d, m, h0, e, _⟩ := tbsOf_mem ht
    subst e
    refine ⟨Nat.le_refl 1, fun p hp => ?_⟩
    unfold tbOf at hp
    simp only at hp
    split at hp
    · exact hp
    · simp at hp
/-- a list that is tracked may be looked at as locked -/
theorem hok_freeze {Pg : Program} {w : World} {H : Hp} {hp : Heap} {a : Addr} {xs : List V} {o : Obj} (k : HOk Pg w H hp) (e : H a = some (.lst xs)) (g : hp.get? a = some o) : HOk Pg w (upd H a (.frz o (.lst xs))) hp := by
  have ne : ∀ {b : Addr} {u : HO}, H b = some u → (∀ ys, u ≠ .lst ys) → upd H a (.frz o (.lst xs)) b = some u := fun {b u} hb hn => by
    rw [upd_ne]
    · exact hb
    · rintro rfl; rw [e] at hb; cases hb; exact hn _ rfl
  have go : ∀ (u : HO) (b : Addr), ObjOk Pg w H hp b u → ObjOk Pg w (upd H a (.frz o (.lst xs))) hp b u := by
    intro u
    induction u with
    | dT kvs => intro b q
                obtain ⟨q1, q2, xs', q3, q4⟩ := q
                refine ⟨q1, q2, xs', ?_, q4⟩
                exact q3.mono fun p q ⟨z1, z2, z3⟩ => ⟨z1, ne z2 (fun _ z => by cases z), z3⟩
    | ins C dx fs => intro b q
                     obtain ⟨q1, q2⟩ := q
                     exact ⟨ne q1 (fun _ z => by cases z), q2⟩
    | frz o' u ih => intro b q; exact ⟨q.1, ih b q.2⟩
    | _ => intro b q; exact q
  intro b u hb
  by_cases hb' : b = a
  · subst hb'
    rw [upd_same] at hb
    cases hb
    exact ⟨g, go _ _ (k b _ e)⟩
  · rw [upd_ne hb'] at hb
    exact go _ _ (k b u hb)
def spF (sp : Sp) : Sp := fun vs H Q E => sp vs H Q E ∨ ∃ a xs, H a = some (.lst xs) ∧ (E = fun _ _ _ => False) ∧ ∀ o, sp vs (upd H a (.frz o (.lst xs))) Q E
theorem FnOk_freeze {Pg : Program} {w : World} {base : Heap} {k : Nat} {f : Addr} {fd : FuncData} {ps : List Str} {sp : Sp} (F : FnOk Pg w K mg base (L2.CX Pg w) k f fd ps sp) : FnOk Pg w K mg base (L2.CX Pg w) k f fd ps (spF sp) := by
  refine ⟨fun vs H Q E q => ?_, fun A outer s H args us vs Q E hr he hb hv hs => ?_⟩
  · rcases q with q | ⟨a, xs, _, _, q⟩
    · exact F.len _ _ _ _ q
    · exact F.len _ _ _ _ (q default)
  · rcases hs with q | ⟨a, xs, e, rfl, q⟩
    · exact F.run A outer s H args us vs Q _ hr he hb hv q
    · obtain ⟨o, g⟩ : ∃ o, s.heap.get? a = some o := by
        obtain ⟨_, its, n, _, g⟩ := he.hok a _ e
        exact ⟨_, g⟩
      have he' : Env0 Pg w K mg base A outer s (upd H a (.frz o (.lst xs))) := ⟨he.frames, he.mod, fun b o' e' => ⟨(he.bs b o' e').1, by
          rw [upd_ne (show b ≠ a from fun z => by rw [z] at e'; rw [(he.bs _ o' e').2] at e; cases e)]
          exact (he.bs b o' e').2⟩, he.bsz, he.funs, fun b hb => (upd_ne (show b ≠ a from fun z => by rw [z] at hb; rw [he.frf _ hb] at e; cases e)).trans (he.frf b hb), hok_freeze he.hok e g, he.bare⟩
      refine codeAny_mono (F.run A outer s _ args us vs Q _ hr he' hb hv (q o)) fun r s' h => ?_
      cases r with
      | error x => obtain ⟨_, _, _, _, _, _, _, _, _, _, _, _, z⟩ := h; exact z.elim
      | ok fl =>
        cases fl with
        | ret u =>
          obtain ⟨v, H', os, bare, un, ho, r, q⟩ := h
          refine ⟨v, H', os, bare, ⟨fun b o' h1 h2 => un.keep b o' h1 ?_, fun b o' h1 h2 => un.slot b o' h1 ?_, fun b o' h1 h2 => un.free b o' h1 ?_, un.there, fun b ys h1 => un.tups b ys ?_, fun b o' u h1 => un.frzs b o' u ?_, fun b ps h1 => un.tbls b ps ?_⟩, ho, r, q⟩
          all_goals (rw [upd_ne]; assumption; intro z; subst z; simp_all)
        | _ => exact h
end
section
variable {K : Frag} {h : Heap} {mg : Str → Option Value} {ds ts : List DefT} {ms : List Nat} {P : List Def} {X : Txt} {dd : Nat}
theorem tab0 {H : Hp} {a : Addr} {ls : List (Nat × Nat)} {q : Str} (n : Nat) (e : H a = some (.tbl #[])) : TabG n H a ls q := by
  cases n with
  | zero => exact ⟨#[], e, trivial⟩
  | succ n => exact ⟨#[], e, trivial, fun pos cv z => by cases z⟩
/-- the law's def, walked -/
theorem law_F {l : PySem.W.OpenLaw} {w : World} {fa : Addr} {lv li : Nat} {dl : DefT} {x : Str} (Xh : K.In h) (G : h.Ns mainGlobals mg) (c : He.SaysX (faOf X ds ts) (fnOf ds ts) [] (tfOf ds ms) (exOf (tfOf ds ms)) w h K) (ok : TxtOk X dd ds ms ts P)
    (hl : ds[li]? = some dl) (hps : dl.ps = [x]) (hfa : mg dl.name = some (.ref fa))
    (hb : ∀ (K : Frag) (f : Addr) (fd : FuncData), FunD K dl.name dl.name (defArgs dl.st) (bodyOf dl.st) (scopeOf dl.st) [] [] f fd → ∀ (s : Shared) (u : Value), BindsTo s fd ⟨[u], []⟩ [(x, u)])
    (law : ∀ ns : List Int, ns.length ≤ 63 → ∃ S, callSem P lv li [.fl (ns.map .int)] [] = .ok (.bl true) S) :
    LamX.LawAtS l w K (L2.CX l.prog w) ((dd + 1) * lv) 63 x mg fa h := by
  obtain ⟨fd, g, F⟩ := def_of Xh G c.t.d (List.mem_append_left _ (List.mem_of_getElem? hl))
  have g0 := g
  rw [hfa] at g
  have ef : fa = He.ga K dl.name := by injection g with g; injection g
  rw [← ef] at F
  have cs : ∀ {Q : Addr × Addr → Prop}, (∀ p ∈ tfOf ds ms, Q (He.cT K p)) → ∀ p ∈ (tfOf ds ms).map (He.cT K), Q p := fun {Q} hq p hp => by
    obtain ⟨q, hq', rfl⟩ := List.mem_map.mp hp
    exact hq q hq'
  refine ⟨fd, (tfOf ds ms).map (He.cT K), spF (spD K (txOf K X ds ms) 1 (callSem P lv li)), cs c.empty, cs c.out, cs fun p hp => PySem.W.codeHd_of_K Xh (c.hd p hp), hb K fa fd F, fun H a ns hn _ ht hs => ?_, fun base Kb Gb tb => ?_⟩
  · obtain ⟨S', e⟩ := law ns hn
    have key : ∀ H : Hp, (∀ p ∈ tfOf ds ms, H (He.cT K p).2 = some (.tbl #[])) → SqF K H a (ns.map V.int) → spD K (txOf K X ds ms) 1 (callSem P lv li) [.ref a] H (fun v _ => v = .bl true) fun _ _ _ => False := fun H ht hf => by
      refine ⟨[], [], [.fl (ns.map .int)], .cons (.fl hf (V_ints ns)) .nil, ⟨rfl, List.nodup_nil, by simp, fun t hm => ?_⟩, rfl, ?_⟩
      · obtain ⟨d, m, h0, e, hin⟩ := tbsOf_mem hm
        subst e
        exact ⟨tab0 1 (ht _ hin), fun c e => by cases e⟩
      · rw [e]
        intro r' v H' _ rv _
        cases rv; rfl
    have ht' : ∀ p ∈ tfOf ds ms, H (He.cT K p).2 = some (.tbl #[]) := fun p hp => ht _ (List.mem_map.mpr ⟨p, hp, rfl⟩)
    rcases hs with (z | z) | z
    · right
      refine ⟨a, ns.map V.int, z, rfl, fun o => key _ (fun p hp => ?_) (.inl ⟨o, upd_same⟩)⟩
      rw [upd_ne]
      · exact ht' p hp
      · intro q; have := ht' p hp; rw [q, z] at this; cases this
    · exact .inl (key H ht' (.inl z))
    · exact .inl (key H ht' (.inr z))
  · have := all_ok (Pg := l.prog) (w := w) (base := base) (facts_of Kb Gb c ok fun p hp => tb _ (List.mem_map.mpr ⟨p, hp, rfl⟩)) lv li dl hl fa fd _ hfa F
    rw [hps] at this
    exact FnOk_freeze this
end
/-- the head's last step, where what may be let out is the raised exceptions -/
theorem walk_ev {l : PySem.W.OpenLaw} {k : Nat} {q : Program} {loose : List Str} {XP : (Str → Option Value) → Heap → Prop} {YP : World → Heap → Prop} {d : DefRec} {x : Str} (hn : l.most = some 63) (hdf : d.params.defaults = []) (room : Room k callerA)
    (F : ∀ (w : World) (mg : Str → Option Value) (fa : Addr) (h : Heap), YP w h → h.Ns mainGlobals mg → mg d.name = some (.ref fa) → ∃ K : Frag, K.In h ∧ LamX.LawAtS l w K (L2.CX l.prog w) k 63 x mg fa h) :
    PySem.W.WalkO q loose XP YP l.row.toRowW d [] (fun f vs => PySem.call f vs) :=
  LamX.walk_ofTsE hn (by decide) hdf room F fun _ _ _ _ _ ⟨_, _, _, _, _, _, _, _, _, _, _, _, z⟩ => z
end Ev
end
section
set_option maxRecDepth 100000
namespace K54
open Ev
def Btwos_L0 : ISs := .cons (.aug 1 .add (.var 1)) (.nil)
def Btwos : ISs := .cons (.asg (.var 1) (.int (1))) (.cons (.fori (.var 2) (.rng1 (.var 0)) Btwos_L0) (.cons (.ret (.var 1)) (.nil)))
def Bshortest_L0 : ISs := .cons (.asg (.var 7) (.bin .mod (.bin .add (.var 7) (.bin .mul (.ife (.cmp .lt (.var 8) (.bi .len (.cons (.var 1) (.nil)))) (.ix (.var 1) (.var 8)) (.int (0))) (.ix (.var 0) (.bin .sub (.var 5) (.var 8))))) (.int (2)))) (.nil)
def Bshortest_L1 : ISs := .cons (.asg (.sub (.var 9) (.bin .add (.var 8) (.var 4))) (.bin .mod (.bin .add (.ix (.var 9) (.bin .add (.var 8) (.var 4))) (.var 10)) (.int (2)))) (.nil)
def Bshortest_L2 : ISs := .cons (.asg (.var 7) (.var 6)) (.cons (.fori (.var 8) (.rng2 (.int (1)) (.bin .add (.var 3) (.int (1)))) Bshortest_L0) (.cons (.ite (.cmp .eq (.var 7) (.int (0))) (.cons (.aug 4 .add (.int (1))) (.cons (.cont) (.nil))) (.nil)) (.cons (.asg (.var 9) (.bin .add (.bi .list (.cons (.var 1) (.nil))) (.bin .mul (.lst (.cons (.int (0)) (.nil))) (.bi .max2 (.cons (.int (0)) (.cons (.bin .sub (.bin .add (.bi .len (.cons (.var 2) (.nil))) (.var 4)) (.bi .len (.cons (.var 1) (.nil)))) (.nil))))))) (.cons (.fori (.tup (.cons (.var 8) (.cons (.var 10) (.nil)))) (.enum (.var 2)) Bshortest_L1) (.cons (.ite (.cmp .le (.bin .mul (.int (2)) (.var 3)) (.var 5)) (.cons (.par [2, 3, 4] (.cons (.var 1) (.cons (.bin .sub (.bin .add (.var 5) (.int (1))) (.var 3)) (.cons (.int (1)) (.nil))))) (.nil)) (.cons (.aug 4 .add (.int (1))) (.nil))) (.cons (.asg (.var 1) (.var 9)) (.nil)))))))
def Bshortest : ISs := .cons (.asg (.tup (.cons (.var 1) (.cons (.var 2) (.cons (.var 3) (.cons (.var 4) (.nil)))))) (.tup (.cons (.lst (.cons (.int (1)) (.nil))) (.cons (.lst (.cons (.int (1)) (.nil))) (.cons (.int (0)) (.cons (.int (1)) (.nil))))))) (.cons (.fori (.tup (.cons (.var 5) (.cons (.var 6) (.nil)))) (.enum (.var 0)) Bshortest_L2) (.cons (.asg (.var 11) (.sl (.bin .add (.var 1) (.bin .mul (.lst (.cons (.int (0)) (.nil))) (.var 3))) (.some (.int (1))) (.some (.bin .add (.var 3) (.int (1)))))) (.cons (.ret (.tup (.cons (.var 3) (.cons (.bi .tuple (.cons (.var 11) (.nil))) (.nil))))) (.nil))))
def Bgoes_on_L0 : ISs := .cons (.asg (.var 6) (.bin .mod (.bin .add (.var 6) (.bin .mul (.ix (.var 2) (.var 7)) (.ix (.var 4) (.bin .sub (.bin .sub (.bi .len (.cons (.var 4) (.nil))) (.int (1))) (.var 7))))) (.int (2)))) (.nil)
def Bgoes_on_L1 : ISs := .cons (.asg (.var 6) (.int (0))) (.cons (.fori (.var 7) (.rng1 (.var 1)) Bgoes_on_L0) (.cons (.expr (.me .append (.var 4) (.cons (.var 6) (.nil)))) (.nil)))
def Bgoes_on : ISs := .cons (.asg (.var 4) (.bi .list (.cons (.var 0) (.nil)))) (.cons (.fori (.var 5) (.rng1 (.var 3)) Bgoes_on_L1) (.cons (.ret (.bi .tuple (.cons (.var 4) (.nil)))) (.nil)))
def Brest_L0 : ISs := .cons (.asg (.sub (.var 2) (.bin .add (.var 3) (.var 4))) (.bin .mod (.bin .add (.ix (.var 2) (.bin .add (.var 3) (.var 4))) (.var 5)) (.int (2)))) (.nil)
def Brest_L1 : ISs := .cons (.ite (.cmp .eq (.ix (.var 2) (.var 3)) (.int (1))) (.cons (.fori (.tup (.cons (.var 4) (.cons (.var 5) (.nil)))) (.enum (.var 1)) Brest_L0) (.nil)) (.nil)) (.nil)
def Brest : ISs := .cons (.ite (.ior (.cmp .lt (.bi .len (.cons (.var 1) (.nil))) (.int (2))) (.ior (.cmp .ne (.ix (.var 1) (.int (0))) (.int (1))) (.gen true [5] (.var 5) (.val (.bin .add (.bi .tuple (.cons (.var 0) (.nil))) (.bi .tuple (.cons (.var 1) (.nil))))) (.nil) (.cmp .notin (.var 5) (.tup (.cons (.int (0)) (.cons (.int (1)) (.nil)))))))) (.cons (.rais 0) (.nil)) (.nil)) (.cons (.asg (.var 2) (.bin .add (.bi .list (.cons (.var 0) (.nil))) (.bin .mul (.lst (.cons (.int (0)) (.nil))) (.bin .sub (.bi .len (.cons (.var 1) (.nil))) (.int (1)))))) (.cons (.fori (.var 3) (.rng1 (.bi .len (.cons (.var 0) (.nil)))) Brest_L1) (.cons (.ret (.bi .tuple (.cons (.sl (.var 2) (.some (.bi .len (.cons (.var 0) (.nil)))) (.none)) (.nil)))) (.nil))))
def Brest_by_shifts_L0 : ISs := .cons (.asg (.var 4) (.bin .mod (.bin .add (.ix (.var 2) (.int (0))) (.var 3)) (.int (2)))) (.cons (.asg (.var 2) (.bin .add (.sl (.var 2) (.some (.int (1))) (.none)) (.tup (.cons (.int (0)) (.nil))))) (.cons (.ite (.cmp .eq (.var 4) (.int (1))) (.cons (.asg (.var 2) (.bi .tuple (.cons (.lc [5, 6] (.tup (.cons (.var 5) (.cons (.var 6) (.nil)))) (.zip (.var 2) (.sl (.var 1) (.some (.int (1))) (.none))) (.nil) (.bin .mod (.bin .add (.var 5) (.var 6)) (.int (2)))) (.nil)))) (.nil)) (.nil)) (.nil)))
def Brest_by_shifts : ISs := .cons (.asg (.var 2) (.bin .mul (.tup (.cons (.int (0)) (.nil))) (.bin .sub (.bi .len (.cons (.var 1) (.nil))) (.int (1))))) (.cons (.fori (.var 3) (.val (.var 0)) Brest_by_shifts_L0) (.cons (.ret (.var 2)) (.nil)))
def Bis_sound : ISs := .cons (.asg (.var 2) (.bin .sub (.bi .len (.cons (.var 1) (.nil))) (.int (1)))) (.cons (.ite (.cmp .lt (.bi .len (.cons (.var 0) (.nil))) (.var 2)) (.cons (.rais 0) (.nil)) (.nil)) (.cons (.ret (.cmp .eq (.call 3 (.cons (.sl (.var 0) (.none) (.some (.bin .sub (.bi .len (.cons (.var 0) (.nil))) (.var 2)))) (.cons (.var 1) (.nil)))) (.bi .tuple (.cons (.sl (.var 0) (.some (.bin .sub (.bi .len (.cons (.var 0) (.nil))) (.var 2))) (.none)) (.nil))))) (.nil)))
def Bunseen_L0 : ISs := .cons (.asg (.var 4) (.bi .tuple (.cons (.lc [5] (.var 5) (.rng1 (.var 1)) (.nil) (.bin .mod (.bin .fdiv (.var 3) (.call 0 (.cons (.var 5) (.nil)))) (.int (2)))) (.nil)))) (.cons (.ite (.iand (.cmp .ge (.var 1) (.bin .sub (.bi .len (.cons (.var 0) (.nil))) (.int (1)))) (.call 5 (.cons (.var 4) (.cons (.var 0) (.nil))))) (.cons (.asg (.var 2) (.ife (.cmp .isN (.var 2) (.non)) (.bi .sum (.cons (.var 4) (.nil))) (.bi .min2 (.cons (.var 2) (.cons (.bi .sum (.cons (.var 4) (.nil))) (.nil)))))) (.nil)) (.nil)) (.nil))
def Bunseen : ISs := .cons (.ite (.cmp .gt (.var 1) (.int (8))) (.cons (.rais 3) (.nil)) (.nil)) (.cons (.asg (.var 2) (.non)) (.cons (.fori (.var 3) (.rng2 (.int (1)) (.call 0 (.cons (.var 1) (.nil)))) Bunseen_L0) (.cons (.ret (.var 2)) (.nil))))
def B_law_dice : ISs := .cons (.ite (.cmp2 .lt .lt (.bin .sub (.int (0)) (.int (10))) (.var 0) (.int (10))) (.cons (.ret (.lst (.cons (.bi .abs (.cons (.var 0) (.nil))) (.cons (.int (0)) (.cons (.int (2)) (.nil)))))) (.nil)) (.nil)) (.cons (.ret (.lst (.cons (.var 0) (.cons (.bin .add (.int (1)) (.bin .mod (.bi .int (.cons (.var 0) (.nil))) (.int (1009)))) (.cons (.bi .int (.cons (.cmp .ge (.var 0) (.bin .pow (.int (10)) (.int (18)))) (.nil))) (.nil)))))) (.nil))
def B_law_roll : ISs := .cons (.ite (.ior (.cmp .eq (.ix (.var 0) (.int (2))) (.int (2))) (.iand (.cmp .eq (.ix (.var 0) (.int (2))) (.int (1))) (.cmp .gt (.ix (.var 0) (.int (0))) (.int (0))))) (.cons (.asg (.var 2) (.bin .mod (.bi .int (.cons (.ix (.var 0) (.int (0))) (.nil))) (.var 1))) (.cons (.asg (.sub (.var 0) (.int (0))) (.bin .fdiv (.ix (.var 0) (.int (0))) (.var 1))) (.cons (.ret (.var 2)) (.nil)))) (.nil)) (.cons (.asg (.sub (.var 0) (.int (2))) (.int (0))) (.cons (.asg (.sub (.var 0) (.int (0))) (.bin .mod (.bi .int (.cons (.bin .add (.bin .add (.bin .mul (.ix (.var 0) (.int (0))) (.int (48271))) (.bin .mul (.ix (.var 0) (.int (1))) (.int (69621)))) (.int (11))) (.nil))) (.int (2147483647)))) (.cons (.asg (.sub (.var 0) (.int (1))) (.bin .add (.ix (.var 0) (.int (1))) (.int (1)))) (.cons (.ret (.bin .mod (.bi .int (.cons (.bin .add (.bin .fdiv (.ix (.var 0) (.int (0))) (.int (7))) (.ix (.var 0) (.int (0)))) (.nil))) (.var 1))) (.nil)))))
def B_law_rounds : ISs := .cons (.asg (.var 2) (.sl (.var 0) (.none) (.some (.var 1)))) (.cons (.ite (.cmp .eq (.var 2) (.lst (.nil))) (.cons (.asg (.var 2) (.lst (.cons (.int (0)) (.nil)))) (.nil)) (.nil)) (.cons (.ret (.lc [3] (.var 3) (.val (.var 2)) (.nil) (.call 7 (.cons (.var 3) (.nil))))) (.nil)))
def B_law_rows_L0 : ISs := .cons (.asg (.var 1) (.bin .add (.lc [3] (.var 3) (.val (.var 1)) (.nil) (.bin .add (.var 3) (.tup (.cons (.int (0)) (.nil))))) (.lc [3] (.var 3) (.val (.var 1)) (.nil) (.bin .add (.var 3) (.tup (.cons (.int (1)) (.nil))))))) (.nil)
def B_law_rows : ISs := .cons (.asg (.var 1) (.lst (.cons (.tup (.nil)) (.nil)))) (.cons (.fori (.var 2) (.rng1 (.var 0)) B_law_rows_L0) (.cons (.ret (.var 1)) (.nil)))
def B_law_makes_L0 : ISs := .cons (.ite (.cmp .ne (.bin .mod (.bi .sum (.cons (.lc [3] (.var 3) (.rng1 (.bi .len (.cons (.var 1) (.nil)))) (.nil) (.bin .mul (.ix (.var 1) (.var 3)) (.ix (.var 0) (.bin .sub (.bin .sub (.var 2) (.int (1))) (.var 3))))) (.nil))) (.int (2))) (.ix (.var 0) (.var 2))) (.cons (.ret (.bl false)) (.nil)) (.nil)) (.nil)
def B_law_makes : ISs := .cons (.fori (.var 2) (.rng2 (.bi .len (.cons (.var 1) (.nil))) (.bi .len (.cons (.var 0) (.nil)))) B_law_makes_L0) (.cons (.ret (.bl true)) (.nil))
def B_law_rest_L0 : ISs := .cons (.ite (.cmp .eq (.ix (.var 2) (.var 3)) (.int (1))) (.cons (.asg (.var 2) (.lc [4] (.var 4) (.rng1 (.bi .len (.cons (.var 2) (.nil)))) (.nil) (.bin .mod (.bin .add (.ix (.var 2) (.var 4)) (.ife (.cmp2 .le .lt (.int (0)) (.bin .sub (.var 4) (.var 3)) (.bi .len (.cons (.var 1) (.nil)))) (.ix (.var 1) (.bin .sub (.var 4) (.var 3))) (.int (0)))) (.int (2))))) (.nil)) (.nil)) (.nil)
def B_law_rest : ISs := .cons (.asg (.var 2) (.bin .add (.bi .list (.cons (.var 0) (.nil))) (.bin .mul (.lst (.cons (.int (0)) (.nil))) (.bin .sub (.bi .len (.cons (.var 1) (.nil))) (.int (1)))))) (.cons (.fori (.var 3) (.rng1 (.bi .len (.cons (.var 0) (.nil)))) B_law_rest_L0) (.cons (.ret (.bi .tuple (.cons (.sl (.var 2) (.some (.bi .len (.cons (.var 0) (.nil)))) (.none)) (.nil)))) (.nil)))
def Blaw_L0 : ISs := .cons (.ite (.cmp .ne (.told [([0], [119, 111, 114, 100]), ([1], [110, 101, 116]), ([2], [110, 111, 32, 119, 97, 121]), ([3], [108, 97, 114, 103, 101])] (.call 3 (.cons (.var 13) (.cons (.var 12) (.nil))))) (.str [119, 111, 114, 100])) (.cons (.ret (.bl false)) (.nil)) (.nil)) (.nil)
def Blaw_L1 : ISs := .cons (.asg (.var 3) (.bi .tuple (.cons (.lc [2] (.var 2) (.rng1 (.call 8 (.cons (.var 1) (.cons (.int (8)) (.nil))))) (.nil) (.call 8 (.cons (.var 1) (.cons (.int (2)) (.nil))))) (.nil)))) (.cons (.asg (.tup (.cons (.var 4) (.cons (.var 5) (.nil)))) (.call 1 (.cons (.var 3) (.nil)))) (.cons (.asg (.var 6) (.lc [14] (.var 14) (.rng1 (.bin .add (.bi .len (.cons (.var 3) (.nil))) (.int (1)))) (.cons (.cmp .ne (.lc [15] (.var 15) (.val (.call 10 (.cons (.var 14) (.nil)))) (.cons (.call 11 (.cons (.var 3) (.cons (.var 15) (.nil)))) (.nil)) (.var 15)) (.lst (.nil))) (.nil)) (.var 14))) (.cons (.ite (.ior (.cmp .ne (.var 4) (.bi .minl (.cons (.var 6) (.nil)))) (.ior (.cmp .ne (.bi .len (.cons (.var 5) (.nil))) (.var 4)) (.inot (.call 11 (.cons (.var 3) (.cons (.var 5) (.nil))))))) (.cons (.ret (.bl false)) (.nil)) (.nil)) (.cons (.ite (.cmp .ne (.call 2 (.cons (.sl (.var 3) (.none) (.some (.var 4))) (.cons (.var 4) (.cons (.var 5) (.cons (.bin .sub (.bi .len (.cons (.var 3) (.nil))) (.var 4)) (.nil)))))) (.var 3)) (.cons (.ret (.bl false)) (.nil)) (.nil)) (.cons (.asg (.var 7) (.bin .add (.tup (.cons (.int (1)) (.nil))) (.bi .tuple (.cons (.lc [2] (.var 2) (.rng1 (.bin .add (.int (1)) (.call 8 (.cons (.var 1) (.cons (.int (3)) (.nil)))))) (.nil) (.call 8 (.cons (.var 1) (.cons (.int (2)) (.nil))))) (.nil))))) (.cons (.asg (.tup (.cons (.var 13) (.cons (.var 8) (.nil)))) (.tup (.cons (.bi .tuple (.cons (.lc [2] (.var 2) (.rng1 (.call 8 (.cons (.var 1) (.cons (.int (7)) (.nil))))) (.nil) (.call 8 (.cons (.var 1) (.cons (.int (2)) (.nil))))) (.nil))) (.cons (.bin .sub (.bi .len (.cons (.var 7) (.nil))) (.int (1))) (.nil))))) (.cons (.ite (.ior (.cmp .ne (.call 3 (.cons (.var 13) (.cons (.var 7) (.nil)))) (.call 12 (.cons (.var 13) (.cons (.var 7) (.nil))))) (.cmp .ne (.call 4 (.cons (.var 13) (.cons (.var 7) (.nil)))) (.call 3 (.cons (.var 13) (.cons (.var 7) (.nil)))))) (.cons (.ret (.bl false)) (.nil)) (.nil)) (.cons (.asg (.var 9) (.bin .add (.var 13) (.call 3 (.cons (.var 13) (.cons (.var 7) (.nil)))))) (.cons (.ite (.inot (.call 5 (.cons (.var 9) (.cons (.var 7) (.nil))))) (.cons (.ret (.bl false)) (.nil)) (.nil)) (.cons (.asg (.var 2) (.call 8 (.cons (.var 1) (.cons (.bi .len (.cons (.var 9) (.nil))) (.nil))))) (.cons (.ite (.iand (.cmp .eq (.ix (.var 7) (.bin .sub (.bi .len (.cons (.var 7) (.nil))) (.int (1)))) (.int (1))) (.call 5 (.cons (.bin .add (.bin .add (.sl (.var 9) (.none) (.some (.var 2))) (.tup (.cons (.bin .sub (.int (1)) (.ix (.var 9) (.var 2))) (.nil)))) (.sl (.var 9) (.some (.bin .add (.var 2) (.int (1)))) (.none))) (.cons (.var 7) (.nil))))) (.cons (.ret (.bl false)) (.nil)) (.nil)) (.cons (.asg (.var 10) (.bin .add (.var 8) (.call 8 (.cons (.var 1) (.cons (.int (4)) (.nil)))))) (.cons (.asg (.var 11) (.lc [15] (.var 15) (.val (.call 10 (.cons (.var 10) (.nil)))) (.cons (.iand (.cmp .gt (.bi .sum (.cons (.var 15) (.nil))) (.int (0))) (.call 5 (.cons (.var 15) (.cons (.var 7) (.nil))))) (.nil)) (.bi .sum (.cons (.var 15) (.nil))))) (.cons (.ite (.cmp .ne (.call 6 (.cons (.var 7) (.cons (.var 10) (.nil)))) (.ife (.cmp .ne (.var 11) (.lst (.nil))) (.bi .minl (.cons (.var 11) (.nil))) (.non))) (.cons (.ret (.bl false)) (.nil)) (.nil)) (.cons (.fori (.var 12) (.val (.lst (.cons (.tup (.cons (.int (1)) (.nil))) (.cons (.tup (.cons (.int (0)) (.cons (.int (1)) (.nil)))) (.cons (.tup (.cons (.int (1)) (.cons (.int (2)) (.nil)))) (.nil)))))) Blaw_L0) (.cons (.ite (.cmp .ne (.told [([0], [119, 111, 114, 100]), ([1], [110, 101, 116]), ([2], [110, 111, 32, 119, 97, 121]), ([3], [108, 97, 114, 103, 101])] (.call 5 (.cons (.tup (.nil)) (.cons (.tup (.cons (.int (1)) (.cons (.int (1)) (.nil)))) (.nil))))) (.str [119, 111, 114, 100])) (.cons (.ret (.bl false)) (.nil)) (.nil)) (.nil)))))))))))))))))
def Blaw : ISs := .cons (.fori (.var 1) (.val (.call 9 (.cons (.var 0) (.cons (.int (3)) (.nil))))) Blaw_L1) (.cons (.ret (.bl true)) (.nil))
def P : List Ev.Def := [⟨1, 3, Btwos⟩, ⟨1, 12, Bshortest⟩, ⟨4, 8, Bgoes_on⟩, ⟨2, 6, Brest⟩, ⟨2, 7, Brest_by_shifts⟩, ⟨2, 3, Bis_sound⟩, ⟨2, 6, Bunseen⟩, ⟨1, 1, B_law_dice⟩, ⟨2, 3, B_law_roll⟩, ⟨2, 4, B_law_rounds⟩, ⟨1, 4, B_law_rows⟩, ⟨2, 4, B_law_makes⟩, ⟨2, 5, B_law_rest⟩, ⟨1, 16, Blaw⟩]
end K54
end
section
set_option maxRecDepth 100000
set_option maxHeartbeats 0
namespace K54
open PySem PySem.Spec PyProof.Rows L2 Ev
abbrev prog : Program := PySem.Challenge.pw_circuithall_k54_shortest_taps_and_guards
def top (i : Nat) : Stmt := prog.main.body.getD i (.Pass ⟨0, 0, 0, 0⟩)
def d0 : DefT := ⟨"twos", ["many", "found", "k"], ["many"], top 7⟩
def d1 : DefT := ⟨"shortest", ["row", "taps", "last", "long", "gap", "n", "bit", "wrong", "k", "after", "one", "found"], ["row"], top 9⟩
def d2 : DefT := ⟨"goes_on", ["row", "long", "taps", "many", "found", "k", "bit", "j"], ["row", "long", "taps", "many"], top 10⟩
def d3 : DefT := ⟨"rest", ["word", "guard", "row", "k", "j", "bit"], ["word", "guard"], top 11⟩
def d4 : DefT := ⟨"rest_by_shifts", ["word", "guard", "row", "bit", "over", "a", "b"], ["word", "guard"], top 12⟩
def d5 : DefT := ⟨"is_sound", ["word", "guard", "many"], ["word", "guard"], top 13⟩
def d6 : DefT := ⟨"unseen", ["guard", "wide", "best", "number", "row", "k"], ["guard", "wide"], top 14⟩
def d7 : DefT := ⟨"_law_dice", ["cell"], ["cell"], top 16⟩
def d8 : DefT := ⟨"_law_roll", ["dice", "many", "found"], ["dice", "many"], top 17⟩
def d9 : DefT := ⟨"_law_rounds", ["script", "most", "cells", "cell"], ["script", "most"], top 18⟩
def d10 : DefT := ⟨"_law_rows", ["many", "found", "k", "row"], ["many"], top 20⟩
def d11 : DefT := ⟨"_law_makes", ["row", "taps", "n", "k"], ["row", "taps"], top 21⟩
def d12 : DefT := ⟨"_law_rest", ["word", "guard", "row", "k", "n"], ["word", "guard"], top 22⟩
def d13 : DefT := ⟨"law", ["script", "dice", "k", "row", "long", "taps", "lengths_there", "guard", "many", "whole", "wide", "lets", "bad", "word", "n", "one"], ["script"], top 23⟩
def t0 : DefT := ⟨"_law_told", ["what"], ["what"], top 19⟩
def ds : List DefT := [d0, d1, d2, d3, d4, d5, d6, d7, d8, d9, d10, d11, d12, d13]
def ts : List DefT := [t0]
def ms : List Nat := [0, 0, 0, 1, 0, 0, 0, 0, 0, 0, 0, 0, 0, 2]
def X : Txt := ⟨["twos", "shortest", "goes_on", "rest", "rest_by_shifts", "is_sound", "unseen", "_law_dice", "_law_roll", "_law_rounds", "_law_rows", "_law_makes", "_law_rest", "law"], ["BadWord", "BadNet", "NoWay", "TooLarge"], [], [[0], [1], [2], [3]], [], [("_law_told", [(0, [119, 111, 114, 100]), (1, [110, 101, 116]), (2, [110, 111, 32, 119, 97, 121]), (3, [108, 97, 114, 103, 101])])], [(149, 21), (147, 25)]⟩
theorem ok0 : DefOk X 2 d0 0 ⟨1, 3, Btwos⟩ := ⟨⟨rfl, rfl, rfl, by decide +kernel, rfl, by decide +kernel, by decide +kernel⟩, by kernel_rfl, rfl, rfl, fun K f fd F => F.bindsN fun _ _ _ _ _ _ us hl => match us, hl with | [_], _ => rfl⟩
theorem ok1 : DefOk X 2 d1 0 ⟨1, 12, Bshortest⟩ := ⟨⟨rfl, rfl, rfl, by decide +kernel, rfl, by decide +kernel, by decide +kernel⟩, by kernel_rfl, rfl, rfl, fun K f fd F => F.bindsN fun _ _ _ _ _ _ us hl => match us, hl with | [_], _ => rfl⟩
theorem ok2 : DefOk X 2 d2 0 ⟨4, 8, Bgoes_on⟩ := ⟨⟨rfl, rfl, rfl, by decide +kernel, rfl, by decide +kernel, by decide +kernel⟩, by kernel_rfl, rfl, rfl, fun K f fd F => F.bindsN fun _ _ _ _ _ _ us hl => match us, hl with | [_, _, _, _], _ => rfl⟩
theorem ok3 : DefOk X 2 d3 1 ⟨2, 6, Brest⟩ := ⟨⟨rfl, rfl, rfl, by decide +kernel, rfl, by decide +kernel, by decide +kernel⟩, by kernel_rfl, rfl, rfl, fun K f fd F => F.bindsN fun _ _ _ _ _ _ us hl => match us, hl with | [_, _], _ => rfl⟩
theorem ok4 : DefOk X 2 d4 0 ⟨2, 7, Brest_by_shifts⟩ := ⟨⟨rfl, rfl, rfl, by decide +kernel, rfl, by decide +kernel, by decide +kernel⟩, by kernel_rfl, rfl, rfl, fun K f fd F => F.bindsN fun _ _ _ _ _ _ us hl => match us, hl with | [_, _], _ => rfl⟩
theorem ok5 : DefOk X 2 d5 0 ⟨2, 3, Bis_sound⟩ := ⟨⟨rfl, rfl, rfl, by decide +kernel, rfl, by decide +kernel, by decide +kernel⟩, by kernel_rfl, rfl, rfl, fun K f fd F => F.bindsN fun _ _ _ _ _ _ us hl => match us, hl with | [_, _], _ => rfl⟩
theorem ok6 : DefOk X 2 d6 0 ⟨2, 6, Bunseen⟩ := ⟨⟨rfl, rfl, rfl, by decide +kernel, rfl, by decide +kernel, by decide +kernel⟩, by kernel_rfl, rfl, rfl, fun K f fd F => F.bindsN fun _ _ _ _ _ _ us hl => match us, hl with | [_, _], _ => rfl⟩
theorem ok7 : DefOk X 2 d7 0 ⟨1, 1, B_law_dice⟩ := ⟨⟨rfl, rfl, rfl, by decide +kernel, rfl, by decide +kernel, by decide +kernel⟩, by kernel_rfl, rfl, rfl, fun K f fd F => F.bindsN fun _ _ _ _ _ _ us hl => match us, hl with | [_], _ => rfl⟩
theorem ok8 : DefOk X 2 d8 0 ⟨2, 3, B_law_roll⟩ := ⟨⟨rfl, rfl, rfl, by decide +kernel, rfl, by decide +kernel, by decide +kernel⟩, by kernel_rfl, rfl, rfl, fun K f fd F => F.bindsN fun _ _ _ _ _ _ us hl => match us, hl with | [_, _], _ => rfl⟩
theorem ok9 : DefOk X 2 d9 0 ⟨2, 4, B_law_rounds⟩ := ⟨⟨rfl, rfl, rfl, by decide +kernel, rfl, by decide +kernel, by decide +kernel⟩, by kernel_rfl, rfl, rfl, fun K f fd F => F.bindsN fun _ _ _ _ _ _ us hl => match us, hl with | [_, _], _ => rfl⟩
theorem ok10 : DefOk X 2 d10 0 ⟨1, 4, B_law_rows⟩ := ⟨⟨rfl, rfl, rfl, by decide +kernel, rfl, by decide +kernel, by decide +kernel⟩, by kernel_rfl, rfl, rfl, fun K f fd F => F.bindsN fun _ _ _ _ _ _ us hl => match us, hl with | [_], _ => rfl⟩
theorem ok11 : DefOk X 2 d11 0 ⟨2, 4, B_law_makes⟩ := ⟨⟨rfl, rfl, rfl, by decide +kernel, rfl, by decide +kernel, by decide +kernel⟩, by kernel_rfl, rfl, rfl, fun K f fd F => F.bindsN fun _ _ _ _ _ _ us hl => match us, hl with | [_, _], _ => rfl⟩
theorem ok12 : DefOk X 2 d12 0 ⟨2, 5, B_law_rest⟩ := ⟨⟨rfl, rfl, rfl, by decide +kernel, rfl, by decide +kernel, by decide +kernel⟩, by kernel_rfl, rfl, rfl, fun K f fd F => F.bindsN fun _ _ _ _ _ _ us hl => match us, hl with | [_, _], _ => rfl⟩
theorem ok13 : DefOk X 2 d13 2 ⟨1, 16, Blaw⟩ := ⟨⟨rfl, rfl, rfl, by decide +kernel, rfl, by decide +kernel, by decide +kernel⟩, by kernel_rfl, rfl, rfl, fun K f fd F => F.bindsN fun _ _ _ _ _ _ us hl => match us, hl with | [_], _ => rfl⟩
theorem oks : Oks X 2 ds ms P := ⟨ok0, ok1, ok2, ok3, ok4, ok5, ok6, ok7, ok8, ok9, ok10, ok11, ok12, ok13, trivial⟩
theorem told0 : ToldT X t0 [(0, [119, 111, 114, 100]), (1, [110, 101, 116]), (2, [110, 111, 32, 119, 97, 121]), (3, [108, 97, 114, 103, 101])] := ⟨⟨"what", _, _, _, _, _, _, ([(0, [119, 111, 114, 100]), (1, [110, 101, 116]), (2, [110, 111, 32, 119, 97, 121]), (3, [108, 97, 114, 103, 101])] : List (Nat × List Nat)).map (fun p => (X.cls.getD p.1 ⟨#[]⟩, sv p.2)), rfl, ⟨rfl, rfl, rfl, by decide +kernel, rfl, by decide +kernel, by decide +kernel⟩, rfl, .inl (by decide +kernel), by decide +kernel, by decide +kernel, rfl, by kernel_rfl, rfl⟩, by decide +kernel, fun K f fd F => F.bindsN fun _ _ _ _ _ _ us hl => match us, hl with | [_], _ => rfl⟩
theorem tolds : Tolds X ts := fun p hp => by
  simp only [X, List.mem_cons, List.not_mem_nil, or_false] at hp
  subst hp
  exact ⟨t0, List.mem_cons_self .., rfl, told0⟩
theorem txt : TxtOk X 2 ds ms ts P := ⟨by kernel_rfl, oks, tolds, rfl, by decide +kernel, rfl⟩
theorem bl (K : PySem.W.Frag) (f : Addr) (fd : FuncData) (F : FunD K d13.name d13.name (defArgs d13.st) (bodyOf d13.st) (scopeOf d13.st) [] [] f fd) (s : Shared) (u : Value) : BindsTo s fd ⟨[u], []⟩ [("script", u)] :=
  F.bindsA (ps := ["script"]) (fun _ _ _ _ _ _ us hl => match us, hl with | [_], _ => rfl) s [u] rfl
abbrev R : PySem.W.OpenRow := PySem.W.OpenLaw.row PySem.Challenge.rw_circuithall_k54_shortest_taps_and_guards
abbrev hk : PySem.W.Hook := hkOf X ds ms ts
def ob (s : PySem.W.SharedT) : He.AlX := He.obsX 5 (faOf X ds ts) (fnOf ds ts) [] (tfOf ds ms) (exOf (tfOf ds ms)) (HandSHeadRun.getT s)
theorem ob_eq (s : PySem.W.SharedT) : ob s = hk.obs s.abs := He.obsX_eq (HandSHeadRun.getT_eq s)
def loose : List PySem.Str := (["CircuitFault", "BadWord", "BadNet", "NoWay", "TooLarge", "twos", "shortest", "goes_on", "rest", "rest_by_shifts", "is_sound", "unseen", "_law_dice", "_law_roll", "_law_rounds", "_law_told", "_law_rows", "_law_makes", "_law_rest"] : List PySem.Str)
theorem run (w : World) : HandSHeadRun.RunEq R (PySem.W.view R.prog [23]) hk ob 4000 loose w := by
  intro os
  kernel_rfl
end K54
open PySem PySem.W PySem.Calls PyProof.Rows
theorem K54.holds (lv : Nat) (room : L2.Room ((2 + 1) * lv) PySem.callerA) (law : ∀ ns : List Int, ns.length ≤ 63 → ∃ S, Ev.callSem K54.P lv 13 [.fl (ns.map .int)] [] = .ok (.bl true) S) : PySem.Challenge.rw_circuithall_k54_shortest_taps_and_guards.Holds := by
  w_on; o_law
  refine HandSHeadRun.head_any (r := K54.R) (q := view K54.R.prog [23]) (H := K54.hk) (ob := K54.ob) (M := 4000) (loose := K54.loose) (d := HandSHeadRun.topDef K54.R.prog 23) (kwd := []) K54.ob_eq
    (by kernel_rfl) (fun s => by kernel_rfl) K54.run (by kernel_rfl) (by kernel_rfl) (by kernel_rfl) (by rfl) (by first | assumption | decide +kernel) (by decide +kernel) ⟨rfl, rfl, rfl, rfl, rfl, by decide +kernel⟩ ?hw ?hc
  case hw => w_witness2
  case hc =>
    refine Ev.walk_ev (l := PySem.Challenge.rw_circuithall_k54_shortest_taps_and_guards) (k := (2 + 1) * lv) (x := "script") rfl (by kernel_rfl) room ?F
    case F =>
      intro w mg fa h Y G hmg0
      obtain ⟨K, KX, c⟩ := Y
      have hmg : mg ("law" : PySem.Str) = some (.ref fa) := by
        have e : (HandSHeadRun.topDef K54.R.prog 23).name = ("law" : PySem.Str) := by kernel_rfl
        rw [← e]
        exact hmg0
      exact ⟨K, KX, Ev.law_F (li := 13) (dl := K54.d13) KX G c K54.txt rfl rfl hmg K54.bl law⟩
end
section
/-! Laws about the evaluator: tools. -/
namespace Ev

/-- a run with nothing that is changed in place handed in: its value -/
def runP (C : CallS) (d : Def) (args : List D) : Option D := match evSs C d.body (startE d args) [] with
  | .ok .nx _ _ => some .non
  | .ok (.rt v) _ _ => if pur v then some v else none
  | _ => none
theorem argsIn_pure : ∀ {ds : List D} {is : List Nat}, purs ds = true → argsIn ds is = some (ds, is)
  | [], _, _ => rfl
  | d :: ds, is, h => by
    simp only [purs, Bool.and_eq_true] at h
    have h2 := fun is => argsIn_pure (is := is) h.2
    have h1 := h.1
    cases d <;> first | (simp [pur] at h1; done) | simp [argsIn, h1, h2]
theorem call_pure {P : List Def} {n f : Nat} {d : Def} {args : List D} {v : D} {S : Sto} (hP : P[f]? = some d) (hl : args.length = d.np) (hp : purs args = true) (hr : runP (callSem P n) d args = some v) : callSem P (n + 1) f args S = .ok v S := by
  unfold runP at hr
  simp only [callSem, hP, callD, hl, if_true, argsIn_pure hp, objsIn]
  split at hr
  · rename_i e; cases hr
    (try rw [e]); simp [leave, pur, back]
  · rename_i v' env S1 e
    split at hr
    · rename_i hv; cases hr
      (try rw [e]); simp [leave, hv, back]
    · cases hr
  · cases hr

/-! ### stores that grow -/
theorem app_old {S X : Sto} {n : Nat} (h : n < S.length) : (S ++ X)[n]? = S[n]? := List.getElem?_append_left h
theorem lt_of_some {S : Sto} {n : Nat} {o : MO} (h : S[n]? = some o) : n < S.length := (List.getElem?_eq_some_iff.mp h).1
theorem items_app {S X : Sto} {n : Nat} {ds : List D} (h : items S n = some ds) : items (S ++ X) n = some ds := by
  unfold items at *
  split at h
  · rename_i xs e; rw [app_old (lt_of_some e), e]; exact h
  · cases h
theorem items_new (S : Sto) (ds : List D) : items (S ++ [.lst ds]) S.length = some ds := by unfold items; rw [List.getElem?_concat_length]
theorem addL_new (S : Sto) (acc : List D) (d : D) (h : acc.length < big) : addL S.length d (S ++ [.lst acc]) = some (S ++ [.lst (acc ++ [d])]) := by
  unfold addL
  rw [List.getElem?_concat_length]
  simp only [h, if_true]
  rw [List.set_append_right _ _ (Nat.le_refl _)]
  simp
/-- a comprehension of pure values over what stays -/
theorem compL_lst {v : ItV} {ds : List D} {g : D → Sto → Option (Env × Sto)} {t : Env → Sto → TRes} {b : Env → Sto → Option Sto} {S : Sto} {p : D → Bool} {h : D → D}
    (hv : ∀ i acc, turn v i (S ++ [.lst acc]) = some ds[i]?)
    (hb : ∀ d ∈ ds, ∀ acc, ∃ env1, g d (S ++ [.lst acc]) = some (env1, S ++ [.lst acc]) ∧ t env1 (S ++ [.lst acc]) = .ok (p d) (S ++ [.lst acc]) ∧ (p d = true → b env1 (S ++ [.lst acc]) = addL S.length (h d) (S ++ [.lst acc]))) :
    ∀ (n i : Nat) (acc : List D), ds.length - i < n → acc.length + (ds.length - i) ≤ big → compL v g t b n i (S ++ [.lst acc]) = some (S ++ [.lst (acc ++ ((ds.drop i).filter p).map h)])
  | 0, _, _, hn, _ => by omega
  | n + 1, i, acc, hn, hz => by
    unfold compL
    rw [hv]
    cases e : ds[i]? with
    | none =>
      have : ds.length ≤ i := List.getElem?_eq_none_iff.mp e
      rw [List.drop_of_length_le this]; simp
    | some d =>
      have hi := (List.getElem?_eq_some_iff.mp e).1
      obtain ⟨env1, h1, h2, h3⟩ := hb d (List.mem_of_getElem? e) acc
      have hd : ds.drop i = d :: ds.drop (i + 1) := by
        rw [List.drop_eq_getElem_cons hi]; congr 1
        rw [List.getElem?_eq_getElem hi] at e; exact Option.some.inj e
      simp only [h1, h2]
      cases hp : p d with
      | false =>
        simp only
        rw [compL_lst hv hb n (i + 1) acc (by omega) (by omega), hd, List.filter_cons_of_neg (by simp [hp])]
      | true =>
        simp only
        rw [h3 hp, addL_new _ _ _ (by omega)]
        simp only
        rw [compL_lst hv hb n (i + 1) (acc ++ [h d]) (by omega) (by simp; omega), hd, List.filter_cons_of_pos (by simp [hp])]
        simp
/-- a loop with an invariant -/
theorem forL_inv {v : ItV} {ds : List D} {g : D → Env → Sto → SRes} {b : Env → Sto → SRes} (Inv : Nat → Env → Sto → Prop) (hv : ∀ i env S, Inv i env S → turn v i S = some ds[i]?)
    (hs : ∀ i d env S, Inv i env S → ds[i]? = some d → ∃ env1 S1 env2 S2, g d env S = .ok .nx env1 S1 ∧ (b env1 S1 = .ok .nx env2 S2 ∨ b env1 S1 = .ok .ct env2 S2) ∧ Inv (i + 1) env2 S2) :
    ∀ (n i : Nat) (env : Env) (S : Sto), ds.length - i < n → i ≤ ds.length → Inv i env S → ∃ env' S', forL v g b n i env S = .ok .nx env' S' ∧ Inv ds.length env' S'
  | 0, _, _, _, hn, _, _ => by omega
  | n + 1, i, env, S, hn, hi, hI => by
    unfold forL
    rw [hv i env S hI]
    cases e : ds[i]? with
    | none =>
      have : ds.length ≤ i := List.getElem?_eq_none_iff.mp e
      have : i = ds.length := by omega
      subst this
      exact ⟨env, S, rfl, hI⟩
    | some d =>
      have hlt := (List.getElem?_eq_some_iff.mp e).1
      obtain ⟨env1, S1, env2, S2, h1, h2, h3⟩ := hs i d env S hI e
      simp only [h1]
      rcases h2 with h2 | h2 <;> simp only [h2] <;> exact forL_inv Inv hv hs n (i + 1) env2 S2 (by omega) (by omega) h3
/-- a loop that ends early by return -/
theorem bind_okR {α β : Type} (a : α) (S : Sto) (f : α → Sto → Res β) : (Res.ok a S).bind f = f a S := rfl
/-- the value of a call that makes a new flat list -/
theorem call_list {P : List Def} {n f : Nat} {d : Def} {args : List D} {S S1 : Sto} {env : Env} {j : Nat} {xs : List D} (hP : P[f]? = some d) (hl : args.length = d.np) (hp : purs args = true)
    (hr : evSs (callSem P n) d.body (startE d args) [] = .ok (.rt (.ref j)) env S1) (hj : S1[j]? = some (.lst xs)) (hx : purs xs = true) : callSem P (n + 1) f args S = .ok (.ref S.length) (S ++ [.lst xs]) := by
  simp [callSem, hP, callD, hl, argsIn_pure hp, objsIn, hr, leave, pur, hj, purO, hx, back]

theorem eqv_tup (xs ys : List D) : eqv (.tup xs) (.tup ys) = eqvs xs ys := rfl
theorem eqvs_cons (x y : D) (xs ys : List D) : eqvs (x :: xs) (y :: ys) = (eqv x y && eqvs xs ys) := rfl
theorem eqvs_nil : eqvs [] [] = true := rfl
theorem eqv_str (x y : List Nat) : eqv (.str x) (.str y) = (x == y) := rfl
theorem eqv_int (x y : Int) : eqv (.int x) (.int y) = (x == y) := rfl
theorem ne_str {x y : List Nat} (h : x ≠ y) : eqv (.str x) (.str y) = false := by rw [eqv_str]; simpa using h

theorem set_same {S : Sto} {m : Nat} {o : MO} (h : S[m]? = some o) : S.set m o = S := by
  refine List.ext_getElem? fun i => ?_
  by_cases e : m = i
  · subst e; rw [List.getElem?_set_self (lt_of_some h), h]
  · rw [List.getElem?_set_ne e]
/-- a call with one object handed in, behind a pure value -/
theorem call_pr {P : List Def} {n f m : Nat} {d : Def} {a v : D} {o o' : MO} {S X : Sto} {env : Env} (hP : P[f]? = some d) (hl : d.np = 2) (ha : pur a = true) (hm : S[m]? = some o) (ho : purO o = true)
    (hr : evSs (callSem P n) d.body (startE d [a, .ref 0]) [o] = .ok (.rt v) env (o' :: X)) (hv : pur v = true) (ho' : purO o' = true) : callSem P (n + 1) f [a, .ref m] S = .ok v (S.set m o') := by
  have hi : argsIn [a, .ref m] [] = some ([a, .ref 0], [m]) := by cases a <;> first | (simp [pur] at ha; done) | simp [argsIn, ha]
  simp [callSem, hP, callD, hl, hi, objsIn, hm, ho, hr, leave, hv, ho', back]
theorem call_rp {P : List Def} {n f m : Nat} {d : Def} {a v : D} {o o' : MO} {S X : Sto} {env : Env} (hP : P[f]? = some d) (hl : d.np = 2) (ha : pur a = true) (hm : S[m]? = some o) (ho : purO o = true)
    (hr : evSs (callSem P n) d.body (startE d [.ref 0, a]) [o] = .ok (.rt v) env (o' :: X)) (hv : pur v = true) (ho' : purO o' = true) : callSem P (n + 1) f [.ref m, a] S = .ok v (S.set m o') := by
  have hi : argsIn [.ref m, a] [] = some ([.ref 0, a], [m]) := by cases a <;> first | (simp [pur] at ha; done) | simp [argsIn, ha]
  simp [callSem, hP, callD, hl, hi, objsIn, hm, ho, hr, leave, hv, ho', back]

/-- what a run returns, with the store -/
def retOf : SRes → Option (D × Sto)
  | .ok (.rt v) _ S => some (v, S)
  | _ => none
theorem of_retOf {r : SRes} {v : D} {S : Sto} (h : retOf r = some (v, S)) : ∃ env, r = .ok (.rt v) env S := by
  cases r with
  | ok f env S' => cases f <;> simp [retOf] at h; obtain ⟨rfl, rfl⟩ := h; exact ⟨env, rfl⟩
  | _ => cases h

end Ev
end
section
namespace Ev
def lcB (C : CallS) (e : IE) (n : Nat) (env1 : Env) (S' : Sto) : Option Sto := match evE C e env1 S' with
  | .ok d S2 => addL n d S2
  | _ => none
theorem evE_lc {C : CallS} {vs : List Nat} {g : IG} {it : II} {ifs : IEs} {e : IE} {env : Env} {S S1 Sf : Sto} {v : ItV} (hi : evI C it env S = .ok v S1)
    (hc : compL v (fun d S' => evG C g d (wipe env vs) S') (fun env1 S' => evT C ifs env1 S') (lcB C e S1.length) fuel 0 (S1 ++ [.lst []]) = some Sf) : evE C (.lc vs g it ifs e) env S = .ok (.ref S1.length) Sf := by
  rw [evE, hi]
  show (match compL v (fun d S' => evG C g d (wipe env vs) S') (fun env1 S' => evT C ifs env1 S') (lcB C e S1.length) fuel 0 (S1 ++ [.lst []]) with | some S2 => Res.ok (D.ref S1.length) S2 | none => Res.bad) = _
  rw [hc]
/-- a list comprehension of pure values over what stays -/
theorem lc_lst {C : CallS} {vs : List Nat} {g : IG} {it : II} {ifs : IEs} {e : IE} {env : Env} {S S1 : Sto} {v : ItV} {ds : List D} {p : D → Bool} {h : D → D} (hi : evI C it env S = .ok v S1) (hv : ∀ i acc, turn v i (S1 ++ [.lst acc]) = some ds[i]?) (hz : ds.length < 1000000)
    (hb : ∀ d ∈ ds, ∀ acc, ∃ env1, evG C g d (wipe env vs) (S1 ++ [.lst acc]) = some (env1, S1 ++ [.lst acc]) ∧ evT C ifs env1 (S1 ++ [.lst acc]) = .ok (p d) (S1 ++ [.lst acc]) ∧ (p d = true → evE C e env1 (S1 ++ [.lst acc]) = .ok (h d) (S1 ++ [.lst acc]))) :
    evE C (.lc vs g it ifs e) env S = .ok (.ref S1.length) (S1 ++ [.lst ((ds.filter p).map h)]) := by
  refine evE_lc hi ?_
  have k := compL_lst (v := v) (ds := ds) (S := S1) (p := p) (h := h) (g := fun d S' => evG C g d (wipe env vs) S') (t := fun env1 S' => evT C ifs env1 S') (b := lcB C e S1.length) hv
    (fun d hd acc => by
      obtain ⟨env1, h1, h2, h3⟩ := hb d hd acc
      exact ⟨env1, h1, h2, fun q => by unfold lcB; rw [h3 q]⟩)
    fuel 0 [] (by simpa [fuel] using hz) (by simp [big]; omega)
  simpa using k
/-- over a list that stands in the store -/
theorem turn_lst {S : Sto} {n : Nat} {ds : List D} (h : items S n = some ds) (i : Nat) (X : Sto) : turn (.lst n) i (S ++ X) = some ds[i]? := by simp only [turn]; rw [items_app h]; rfl

/-- the list that a run returns -/
def listOf : SRes → Option (List D)
  | .ok (.rt (.ref j)) _ S => items S j
  | _ => none
theorem call_list' {P : List Def} {n f : Nat} {d : Def} {args : List D} {S : Sto} {xs : List D} (hP : P[f]? = some d) (hl : args.length = d.np) (hp : purs args = true)
    (hr : listOf (evSs (callSem P n) d.body (startE d args) []) = some xs) (hx : purs xs = true) : callSem P (n + 1) f args S = .ok (.ref S.length) (S ++ [.lst xs]) := by
  unfold listOf at hr
  split at hr
  · rename_i j env S1 e
    refine call_list hP hl hp e ?_ hx
    unfold items at hr
    split at hr
    · rename_i ys q; cases hr; exact q
    · cases hr
  · cases hr
theorem cut_take {α : Type} (ds : List α) (k : Nat) : cut ds none (some (k : Int)) = ds.take k := by
  have : ¬ ((k : Int) < 0) := by omega
  simp only [cut, sIx, this, if_false, List.drop_zero, Nat.sub_zero, Int.toNat_natCast]
  by_cases h : k ≤ ds.length
  · rw [Nat.min_eq_left h]
  · rw [Nat.min_eq_right (by omega), List.take_length, List.take_of_length_le (by omega)]
/-- a comprehension that may leave garbage behind its list -/
theorem compL_gar {v : ItV} {ds : List D} {g : D → Sto → Option (Env × Sto)} {t : Env → Sto → TRes} {b : Env → Sto → Option Sto} {S : Sto} {p : D → Bool} {h : D → D}
    (hv : ∀ i acc G, turn v i (S ++ .lst acc :: G) = some ds[i]?)
    (hb : ∀ d ∈ ds, ∀ acc G, ∃ env1 G1, g d (S ++ .lst acc :: G) = some (env1, S ++ .lst acc :: G) ∧ t env1 (S ++ .lst acc :: G) = .ok (p d) (S ++ .lst acc :: G1) ∧ (p d = true → ∃ G2, b env1 (S ++ .lst acc :: G1) = addL S.length (h d) (S ++ .lst acc :: G2))) :
    ∀ (n i : Nat) (acc : List D) (G : Sto), ds.length - i < n → acc.length + (ds.length - i) ≤ big → ∃ G', compL v g t b n i (S ++ .lst acc :: G) = some (S ++ .lst (acc ++ ((ds.drop i).filter p).map h) :: G')
  | 0, _, _, _, hn, _ => by omega
  | n + 1, i, acc, G, hn, hz => by
    unfold compL
    rw [hv]
    cases e : ds[i]? with
    | none =>
      have : ds.length ≤ i := List.getElem?_eq_none_iff.mp e
      rw [List.drop_of_length_le this]; exact ⟨G, by simp⟩
    | some d =>
      have hi := (List.getElem?_eq_some_iff.mp e).1
      obtain ⟨env1, G1, h1, h2, h3⟩ := hb d (List.mem_of_getElem? e) acc G
      have hd : ds.drop i = d :: ds.drop (i + 1) := by
        rw [List.drop_eq_getElem_cons hi]; congr 1
        rw [List.getElem?_eq_getElem hi] at e; exact Option.some.inj e
      simp only [h1, h2]
      cases hp : p d with
      | false =>
        simp only
        rw [hd, List.filter_cons_of_neg (by simp [hp])]
        exact compL_gar hv hb n (i + 1) acc G1 (by omega) (by omega)
      | true =>
        obtain ⟨G2, h4⟩ := h3 hp
        have ha : addL S.length (h d) (S ++ .lst acc :: G2) = some (S ++ .lst (acc ++ [h d]) :: G2) := by
          unfold addL
          rw [List.getElem?_append_right (Nat.le_refl _)]
          simp only [Nat.sub_self, List.getElem?_cons_zero]
          rw [if_pos (by omega), List.set_append_right _ _ (Nat.le_refl _)]
          simp
        simp only
        rw [h4, ha]
        simp only
        obtain ⟨G', h5⟩ := compL_gar hv hb n (i + 1) (acc ++ [h d]) G2 (by omega) (by simp; omega)
        refine ⟨G', ?_⟩
        rw [h5, hd, List.filter_cons_of_pos (by simp [hp])]
        simp
theorem lc_gar {C : CallS} {vs : List Nat} {g : IG} {it : II} {ifs : IEs} {e : IE} {env : Env} {S S1 : Sto} {v : ItV} {ds : List D} {p : D → Bool} {h : D → D} (hi : evI C it env S = .ok v S1) (hv : ∀ i X, turn v i (S1 ++ X) = some ds[i]?) (hz : ds.length < 1000000)
    (hb : ∀ d ∈ ds, ∀ X : Sto, ∃ env1 Y, evG C g d (wipe env vs) (S1 ++ X) = some (env1, S1 ++ X) ∧ evT C ifs env1 (S1 ++ X) = .ok (p d) (S1 ++ X ++ Y) ∧ (p d = true → ∃ Z, evE C e env1 (S1 ++ X ++ Y) = .ok (h d) (S1 ++ X ++ Y ++ Z))) :
    ∃ G, evE C (.lc vs g it ifs e) env S = .ok (.ref S1.length) (S1 ++ .lst ((ds.filter p).map h) :: G) := by
  obtain ⟨G, k⟩ := compL_gar (v := v) (ds := ds) (S := S1) (p := p) (h := h) (g := fun d S' => evG C g d (wipe env vs) S') (t := fun env1 S' => evT C ifs env1 S') (b := lcB C e S1.length) (fun i acc G => hv i _)
    (fun d hd acc G => by
      obtain ⟨env1, Y, h1, h2, h3⟩ := hb d hd (.lst acc :: G)
      refine ⟨env1, G ++ Y, h1, by rw [h2]; simp, fun q => ?_⟩
      obtain ⟨Z, h4⟩ := h3 q
      refine ⟨G ++ Y ++ Z, ?_⟩
      unfold lcB
      rw [show S1 ++ MO.lst acc :: (G ++ Y) = S1 ++ MO.lst acc :: G ++ Y by simp, h4]
      simp)
    fuel 0 [] [] (by simpa [fuel] using hz) (by simp [big]; omega)
  exact ⟨G, evE_lc hi (by simpa using k)⟩
end Ev
end
section
namespace Ev
/-- a comprehension that makes a new object each turn -/
theorem compL_new {v : ItV} {ds : List D} {g : D → Sto → Option (Env × Sto)} {t : Env → Sto → TRes} {b : Env → Sto → Option Sto} {S : Sto} {Good : MO → Prop}
    (hv : ∀ i acc G, turn v i (S ++ .lst acc :: G) = some ds[i]?)
    (hb : ∀ d ∈ ds, ∀ acc G, ∃ env1 o, g d (S ++ .lst acc :: G) = some (env1, S ++ .lst acc :: G) ∧ t env1 (S ++ .lst acc :: G) = .ok true (S ++ .lst acc :: G) ∧ Good o ∧
      b env1 (S ++ .lst acc :: G) = addL S.length (.ref (S.length + 1 + G.length)) (S ++ .lst acc :: (G ++ [o]))) :
    ∀ (n i : Nat) (acc : List D) (G : Sto), ds.length - i < n → acc.length + (ds.length - i) ≤ big → ∃ (ps : List Nat) (G' : Sto), compL v g t b n i (S ++ .lst acc :: G) = some (S ++ .lst (acc ++ ps.map .ref) :: (G ++ G')) ∧ ps.length = ds.length - i ∧
      ∀ q ∈ ps, S.length < q ∧ ∃ o, (S ++ .lst (acc ++ ps.map .ref) :: (G ++ G'))[q]? = some o ∧ Good o
  | 0, _, _, _, hn, _ => by omega
  | n + 1, i, acc, G, hn, hz => by
    unfold compL
    rw [hv]
    cases e : ds[i]? with
    | none =>
      have : ds.length ≤ i := List.getElem?_eq_none_iff.mp e
      exact ⟨[], [], by simp, by simp; omega, by simp⟩
    | some d =>
      have hi := (List.getElem?_eq_some_iff.mp e).1
      obtain ⟨env1, o, h1, h2, h3, h4⟩ := hb d (List.mem_of_getElem? e) acc G
      have ha : addL S.length (.ref (S.length + 1 + G.length)) (S ++ .lst acc :: (G ++ [o])) = some (S ++ .lst (acc ++ [.ref (S.length + 1 + G.length)]) :: (G ++ [o])) := by
        unfold addL
        rw [List.getElem?_append_right (Nat.le_refl _)]
        simp only [Nat.sub_self, List.getElem?_cons_zero]
        rw [if_pos (by omega), List.set_append_right _ _ (Nat.le_refl _)]
        simp
      simp only [h1, h2, h4, ha]
      obtain ⟨ps, G', h5, h6, h7⟩ := compL_new hv hb n (i + 1) (acc ++ [.ref (S.length + 1 + G.length)]) (G ++ [o]) (by omega) (by simp; omega)
      refine ⟨(S.length + 1 + G.length) :: ps, o :: G', ?_, by simp [h6]; omega, fun q hq => ?_⟩
      · rw [h5]; simp
      · rcases List.mem_cons.mp hq with rfl | hq
        · refine ⟨by omega, o, ?_, h3⟩
          rw [List.getElem?_append_right (by omega)]
          rw [show S.length + 1 + G.length - S.length = G.length + 1 by omega, List.getElem?_cons_succ, List.getElem?_append_right (Nat.le_refl _)]
          simp
        · obtain ⟨k1, o', k2, k3⟩ := h7 q hq
          refine ⟨k1, o', ?_, k3⟩
          have : S ++ MO.lst (acc ++ List.map D.ref ((S.length + 1 + G.length) :: ps)) :: (G ++ o :: G') = S ++ MO.lst (acc ++ [D.ref (S.length + 1 + G.length)] ++ List.map D.ref ps) :: (G ++ [o] ++ G') := by simp
          rw [this]; exact k2
/-- a call that makes objects that name one another -/
theorem call_new {P : List Def} {n f : Nat} {d : Def} {args : List D} {S S1 : Sto} {env : Env} {j : Nat} {o : MO} (hP : P[f]? = some d) (hl : args.length = d.np) (hp : purs args = true)
    (hr : evSs (callSem P n) d.body (startE d args) [] = .ok (.rt (.ref j)) env S1) (hj : S1[j]? = some o) (ho : purO o = false) : callSem P (n + 1) f args S = .ok (.ref (S.length + j)) (S ++ S1.map (renO fun k => S.length + k)) := by
  simp [callSem, hP, callD, hl, argsIn_pure hp, objsIn, hr, leave, pur, hj, ho, back, ren]
theorem get_ren {S S1 : Sto} {f : Nat → Nat} {q : Nat} : (S ++ S1.map (renO f))[S.length + q]? = S1[q]?.map (renO f) := by
  rw [List.getElem?_append_right (by omega), Nat.add_sub_cancel_left, List.getElem?_map]
theorem rens_refs (f : Nat → Nat) : ∀ ps : List Nat, rens f (ps.map .ref) = (ps.map f).map .ref
  | [] => rfl
  | p :: ps => by simp [rens, ren, rens_refs f ps]
theorem deps_ints : ∀ l : List Int, deps (l.map .int) = some 0
  | [] => rfl
  | i :: l => by simp [deps, dep, deps_ints l]
theorem pur_ints : ∀ l : List Int, purs (l.map .int) = true
  | [] => rfl
  | i :: l => by simp [purs, pur, pur_ints l]
theorem eqv_nil (l : List D) : eqvs l [] = l.isEmpty := by cases l <;> rfl
end Ev
end
section
/-! Laws about the evaluator: loops by folds, generators, dice. -/
namespace Ev
/-! ### what loops walk over -/
theorem turn_tup (ds : List D) (i : Nat) (S : Sto) : turn (.tup ds) i S = some ds[i]? := rfl
theorem turn_rng (lo c : Int) (n i : Nat) (S : Sto) : turn (.rng lo c n) i S = some (((List.range n).map fun k : Nat => D.int (lo + (k : Int) * c))[i]?) := by
  simp only [turn, List.getElem?_map, List.getElem?_range]
  by_cases h : i < n
  · simp [h]
  · simp [h]
theorem turn_rng1 (n i : Nat) (S : Sto) : turn (.rng 0 1 n) i S = some (((List.range n).map fun k : Nat => D.int (k : Int))[i]?) := by
  rw [turn_rng]; simp
theorem turn_zip {α β : Type} (f : α → D) (g : β → D) (xs : List α) (ys : List β) (i : Nat) (S : Sto) : turn (.zipT (xs.map f) (ys.map g)) i S = some (((xs.zip ys).map fun p => D.tup [f p.1, g p.2])[i]?) := by
  simp only [turn, List.getElem?_map, List.getElem?_zip_eq_some, List.zip, List.getElem?_zipWith]
  cases xs[i]? <;> cases ys[i]? <;> rfl
theorem turn_enum {α : Type} (f : α → D) (xs : List α) (i : Nat) (S : Sto) : turn (.enumT (xs.map f)) i S = some ((xs.zipIdx.map fun p => D.tup [.int (p.2 : Nat), f p.1])[i]?) := by
  simp only [turn, List.getElem?_map, List.getElem?_zipIdx]
  cases xs[i]? <;> simp
theorem turn_rev {α : Type} (f : α → D) (xs : List α) (i : Nat) (S : Sto) : turn (.revT (xs.map f)) i S = some ((xs.reverse.map f)[i]?) := by
  simp only [turn, List.length_map]
  by_cases h : i < xs.length
  · rw [if_pos h, List.getElem?_map, List.getElem?_map, List.getElem?_reverse h]
  · have h' : xs.length ≤ i := by omega
    rw [if_neg h, List.getElem?_eq_none (by simpa using h')]
/-- a fold that may end early -/
def foldE {α σ δ : Type} (step : σ → α → σ ⊕ δ) : List α → σ → σ ⊕ δ
  | [], s => .inl s
  | a :: as, s => match step s a with
    | .inl s' => foldE step as s'
    | .inr d => .inr d
def FoldR {σ : Type} (Rel : σ → Env → Sto → Prop) (Q : D → Env → Sto → Prop) (r : SRes) : σ ⊕ D → Prop
  | .inl s => ∃ env S, (r = .ok .nx env S) ∧ Rel s env S
  | .inr d => ∃ env S, (r = .ok (.rt d) env S) ∧ Q d env S
section
variable {α σ : Type} {C : CallS} {v : ItV} {enc : α → D} {Rel : σ → Env → Sto → Prop} {Q : D → Env → Sto → Prop}
theorem forL_foldE {g : D → Env → Sto → SRes} {b : Env → Sto → SRes} {step : σ → α → σ ⊕ D} (as : List α) (hv : ∀ i s env S, Rel s env S → turn v i S = some ((as.map enc)[i]?))
    (hs : ∀ a ∈ as, ∀ s env S, Rel s env S → ∃ env1 S1, g (enc a) env S = .ok .nx env1 S1 ∧ (match step s a with
      | .inl s' => ∃ env2 S2, (b env1 S1 = .ok .nx env2 S2 ∨ b env1 S1 = .ok .ct env2 S2) ∧ Rel s' env2 S2
      | .inr d => ∃ env2 S2, b env1 S1 = .ok (.rt d) env2 S2 ∧ Q d env2 S2)) :
    ∀ (n i : Nat) (s : σ) (env : Env) (S : Sto), as.length - i < n → Rel s env S → FoldR Rel Q (forL v g b n i env S) (foldE step (as.drop i) s)
  | 0, _, _, _, _, h, _ => by omega
  | n + 1, i, s, env, S, h, hr => by
    unfold forL
    rw [hv i s env S hr, List.getElem?_map]
    cases e : as[i]? with
    | none =>
      have : as.length ≤ i := List.getElem?_eq_none_iff.mp e
      rw [List.drop_of_length_le this]
      exact ⟨env, S, rfl, hr⟩
    | some a =>
      have hi := (List.getElem?_eq_some_iff.mp e).1
      have hd : as.drop i = a :: as.drop (i + 1) := by
        rw [List.drop_eq_getElem_cons hi]; congr 1
        rw [List.getElem?_eq_getElem hi] at e; exact Option.some.inj e
      obtain ⟨env1, S1, h1, h2⟩ := hs a (List.mem_of_getElem? e) s env S hr
      rw [hd]
      simp only [Option.map_some, h1, foldE]
      cases q : step s a with
      | inl s' =>
        rw [q] at h2
        obtain ⟨env2, S2, h3, h4⟩ := h2
        have := forL_foldE as hv hs n (i + 1) s' env2 S2 (by omega) h4
        rcases h3 with h3 | h3 <;> (rw [h3]; exact this)
      | inr d =>
        rw [q] at h2
        obtain ⟨env2, S2, h3, h4⟩ := h2
        rw [h3]
        exact ⟨env2, S2, rfl, h4⟩
theorem fori_foldE {g : IG} {it : II} {b : ISs} {env : Env} {S S1 : Sto} {step : σ → α → σ ⊕ D} {s : σ} (hi : evI C it env S = .ok v S1) (as : List α) (hl : as.length < 1000000) (hv : ∀ i s env S, Rel s env S → turn v i S = some ((as.map enc)[i]?))
    (hs : ∀ a ∈ as, ∀ s env S, Rel s env S → ∃ env1 S1, evG C g (enc a) env S = some (env1, S1) ∧ (match step s a with
      | .inl s' => ∃ env2 S2, (evSs C b env1 S1 = .ok .nx env2 S2 ∨ evSs C b env1 S1 = .ok .ct env2 S2) ∧ Rel s' env2 S2
      | .inr d => ∃ env2 S2, evSs C b env1 S1 = .ok (.rt d) env2 S2 ∧ Q d env2 S2)) (hr : Rel s env S1) : FoldR Rel Q (evS C (.fori g it b) env S) (foldE step as s) := by
  rw [evS, hi]
  refine forL_foldE as hv (fun a ha s env S h => ?_) fuel 0 s env S1 (by simpa [fuel] using hl) hr
  obtain ⟨env1, S1, h1, h2⟩ := hs a ha s env S h
  exact ⟨env1, S1, by rw [h1], h2⟩
theorem foldE_inl {δ : Type} (step : σ → α → σ) : ∀ (as : List α) (s : σ), foldE (δ := δ) (fun s a => .inl (step s a)) as s = .inl (as.foldl step s)
  | [], _ => rfl
  | a :: as, s => foldE_inl step as _
/-- a loop that folds -/
theorem fori_fold {g : IG} {it : II} {b : ISs} {env : Env} {S S1 : Sto} {step : σ → α → σ} {s : σ} (hi : evI C it env S = .ok v S1) (as : List α) (hl : as.length < 1000000) (hv : ∀ i s env S, Rel s env S → turn v i S = some ((as.map enc)[i]?))
    (hs : ∀ a ∈ as, ∀ s env S, Rel s env S → ∃ env1 S1 env2 S2, evG C g (enc a) env S = some (env1, S1) ∧ (evSs C b env1 S1 = .ok .nx env2 S2 ∨ evSs C b env1 S1 = .ok .ct env2 S2) ∧ Rel (step s a) env2 S2) (hr : Rel s env S1) :
    ∃ env' S', evS C (.fori g it b) env S = .ok .nx env' S' ∧ Rel (as.foldl step s) env' S' := by
  have := fori_foldE (Q := fun _ _ _ => False) (step := fun s a => .inl (step s a)) hi as hl hv (fun a ha s env S h => by
    obtain ⟨env1, S1, env2, S2, h1, h2, h3⟩ := hs a ha s env S h
    exact ⟨env1, S1, h1, env2, S2, h2, h3⟩) hr
  rw [foldE_inl] at this
  exact this
/-- any, all over pure values that are only looked at -/
theorem genL_go {g : D → Sto → Option (Env × Sto)} {t : Env → Sto → TRes} {b : Env → Sto → Option (Bool × Sto)} {stop : Bool} {ds : List D} {S : Sto} (p : D → Bool) (hv : ∀ i, turn v i S = some ds[i]?)
    (hb : ∀ d ∈ ds, ∃ env1, g d S = some (env1, S) ∧ t env1 S = .ok true S ∧ b env1 S = some (p d, S)) : ∀ (n i : Nat), ds.length - i < n → genL v g t b stop n i S = some (if (ds.drop i).any (fun d => p d == stop) then stop else !stop, S)
  | 0, _, h => by omega
  | n + 1, i, h => by
    unfold genL
    rw [hv]
    cases e : ds[i]? with
    | none =>
      have : ds.length ≤ i := List.getElem?_eq_none_iff.mp e
      rw [List.drop_of_length_le this]; rfl
    | some d =>
      have hi := (List.getElem?_eq_some_iff.mp e).1
      have hd : ds.drop i = d :: ds.drop (i + 1) := by
        rw [List.drop_eq_getElem_cons hi]; congr 1
        rw [List.getElem?_eq_getElem hi] at e; exact Option.some.inj e
      obtain ⟨env1, h1, h2, h3⟩ := hb d (List.mem_of_getElem? e)
      simp only [h1, h2, h3, hd, List.any_cons]
      by_cases q : p d = stop
      · simp [q]
      · rw [if_neg q, genL_go p hv hb n (i + 1) (by omega)]
        simp [q]
def gnB (C : CallS) (e : IE) (env1 : Env) (S' : Sto) : Option (Bool × Sto) := match evE C e env1 S' with
  | .ok (.bl k) S2 => some (k, S2)
  | _ => none
theorem gen_pure {g : IG} {it : II} {ifs : IEs} {e : IE} {vs : List Nat} {stop : Bool} {env : Env} {S S1 : Sto} {ds : List D} (p : D → Bool) (hi : evI C it env S = .ok v S1) (hl : ds.length < 1000000) (hv : ∀ i, turn v i S1 = some ds[i]?)
    (hb : ∀ d ∈ ds, ∃ env1, evG C g d (wipe env vs) S1 = some (env1, S1) ∧ evT C ifs env1 S1 = .ok true S1 ∧ evE C e env1 S1 = .ok (.bl (p d)) S1) :
    evE C (.gen stop vs g it ifs e) env S = .ok (.bl (if ds.any (fun d => p d == stop) then stop else !stop)) S1 := by
  rw [evE, hi]
  have := genL_go (g := fun d S' => evG C g d (wipe env vs) S') (t := fun env1 S' => evT C ifs env1 S') (b := gnB C e) (stop := stop) p hv (fun d hd => by
    obtain ⟨env1, h1, h2, h3⟩ := hb d hd
    exact ⟨env1, h1, h2, by unfold gnB; rw [h3]⟩) fuel 0 (by simpa [fuel] using hl)
  rw [List.drop_zero] at this
  show (match genL v (fun d S' => evG C g d (wipe env vs) S') (fun env1 S' => evT C ifs env1 S') (gnB C e) stop fuel 0 S1 with | some (k, S2) => Res.ok (D.bl k) S2 | none => .bad) = _
  rw [this]
end
/-! ### the store but the dice -/
structure Kp (q : Nat) (S S' : Sto) : Prop where
  len : S.length ≤ S'.length
  keep : ∀ j, j < S.length → j ≠ q → S'[j]? = S[j]?
theorem Kp.refl (q : Nat) (S : Sto) : Kp q S S := ⟨Nat.le_refl _, fun _ _ _ => rfl⟩
theorem Kp.trans {q : Nat} {S S' S'' : Sto} (a : Kp q S S') (b : Kp q S' S'') : Kp q S S'' := ⟨Nat.le_trans a.len b.len, fun j h n => (b.keep j (Nat.lt_of_lt_of_le h a.len) n).trans (a.keep j h n)⟩
theorem Kp.app (q : Nat) (S X : Sto) : Kp q S (S ++ X) := ⟨by simp, fun j h _ => List.getElem?_append_left h⟩
theorem Kp.set (q : Nat) (S : Sto) (o : MO) : Kp q S (S.set q o) := ⟨by simp, fun j _ h => List.getElem?_set_ne (Ne.symm h)⟩
theorem Kp.get {q j : Nat} {S S' : Sto} {o : MO} (k : Kp q S S') (h : S[j]? = some o) (n : j ≠ q) : S'[j]? = some o := (k.keep j (lt_of_some h) n).trans h
theorem Kp.items {q j : Nat} {S S' : Sto} {xs : List D} (k : Kp q S S') (h : items S j = some xs) (n : j ≠ q) : items S' j = some xs := by
  unfold Ev.items at h ⊢
  split at h
  · rename_i o e; rw [k.get e n]; exact h
  · cases h
/-! ### dice -/
def Bdice : ISs := .cons (.ite (.cmp2 .lt .lt (.bin .sub (.int (0)) (.int (10))) (.var 0) (.int (10))) (.cons (.ret (.lst (.cons (.bi .abs (.cons (.var 0) (.nil))) (.cons (.int (0)) (.cons (.int (2)) (.nil)))))) (.nil)) (.nil)) (.cons (.ret (.lst (.cons (.var 0) (.cons (.bin .add (.int (1)) (.bin .mod (.bi .int (.cons (.var 0) (.nil))) (.int (1009)))) (.cons (.bi .int (.cons (.cmp .ge (.var 0) (.bin .pow (.int (10)) (.int (18)))) (.nil))) (.nil)))))) (.nil))
def Broll : ISs := .cons (.ite (.ior (.cmp .eq (.ix (.var 0) (.int (2))) (.int (2))) (.iand (.cmp .eq (.ix (.var 0) (.int (2))) (.int (1))) (.cmp .gt (.ix (.var 0) (.int (0))) (.int (0))))) (.cons (.asg (.var 2) (.bin .mod (.bi .int (.cons (.ix (.var 0) (.int (0))) (.nil))) (.var 1))) (.cons (.asg (.sub (.var 0) (.int (0))) (.bin .fdiv (.ix (.var 0) (.int (0))) (.var 1))) (.cons (.ret (.var 2)) (.nil)))) (.nil)) (.cons (.asg (.sub (.var 0) (.int (2))) (.int (0))) (.cons (.asg (.sub (.var 0) (.int (0))) (.bin .mod (.bi .int (.cons (.bin .add (.bin .add (.bin .mul (.ix (.var 0) (.int (0))) (.int (48271))) (.bin .mul (.ix (.var 0) (.int (1))) (.int (69621)))) (.int (11))) (.nil))) (.int (2147483647)))) (.cons (.asg (.sub (.var 0) (.int (1))) (.bin .add (.ix (.var 0) (.int (1))) (.int (1)))) (.cons (.ret (.bin .mod (.bi .int (.cons (.bin .add (.bin .fdiv (.ix (.var 0) (.int (0))) (.int (7))) (.ix (.var 0) (.int (0)))) (.nil))) (.var 1))) (.nil)))))
def Brounds (d : Nat) : ISs := .cons (.asg (.var 2) (.sl (.var 0) (.none) (.some (.var 1)))) (.cons (.ite (.cmp .eq (.var 2) (.lst (.nil))) (.cons (.asg (.var 2) (.lst (.cons (.int (0)) (.nil)))) (.nil)) (.nil)) (.cons (.ret (.lc [3] (.var 3) (.val (.var 2)) (.nil) (.call d (.cons (.var 3) (.nil))))) (.nil)))
def Dice (o : MO) : Prop := ∃ v c m : Int, o = .lst [.int v, .int c, .int m]
theorem Dice.pur {o : MO} (h : Dice o) : purO o = true := by obtain ⟨v, c, m, rfl⟩ := h; rfl
section
variable {P : List Def}
theorem dice_ev {f : Nat} (hP : P[f]? = some ⟨1, 1, Bdice⟩) (n : Nat) (i : Int) : ∃ v c m : Int, ∀ S, callSem P (n + 1) f [.int i] S = .ok (.ref S.length) (S ++ [.lst [.int v, .int c, .int m]]) := by
  have h : ∃ v c m : Int, listOf (evSs (callSem P n) Bdice (startE ⟨1, 1, Bdice⟩ [.int i]) []) = some [.int v, .int c, .int m] := by
    by_cases h1 : -10 < i
    · by_cases h2 : i < 10
      · simp [runP, startE, ↓Res.bind, ↓evSs, ↓evS, ↓evE, ↓evEs, ↓evEo, ↓evPs, ↓evI, ↓evG, ↓evGs, ↓evT, ↓compL, ↓forL, turn, wipe, ↓ixD, atI, ixN, getD', ↓cmpD, cmpD.memD, ↓eqD, shal, dep, boolR, truth, eqv, pur, purs, parEnv, binD, augD, biD, meD, meOk, slD, cut, sIx, setD, addL, addK, items, alloc, big, flat, inD, word, small, Bdice, h1, h2, listOf]
      · simp [runP, startE, ↓Res.bind, ↓evSs, ↓evS, ↓evE, ↓evEs, ↓evEo, ↓evPs, ↓evI, ↓evG, ↓evGs, ↓evT, ↓compL, ↓forL, turn, wipe, ↓ixD, atI, ixN, getD', ↓cmpD, cmpD.memD, ↓eqD, shal, dep, boolR, truth, eqv, pur, purs, parEnv, binD, augD, biD, meD, meOk, slD, cut, sIx, setD, addL, addK, items, alloc, big, flat, inD, word, small, Bdice, h1, h2, listOf]
    · simp [runP, startE, ↓Res.bind, ↓evSs, ↓evS, ↓evE, ↓evEs, ↓evEo, ↓evPs, ↓evI, ↓evG, ↓evGs, ↓evT, ↓compL, ↓forL, turn, wipe, ↓ixD, atI, ixN, getD', ↓cmpD, cmpD.memD, ↓eqD, shal, dep, boolR, truth, eqv, pur, purs, parEnv, binD, augD, biD, meD, meOk, slD, cut, sIx, setD, addL, addK, items, alloc, big, flat, inD, word, small, Bdice, h1, listOf]
  obtain ⟨v, c, m, h⟩ := h
  exact ⟨v, c, m, fun S => call_list' hP rfl rfl h rfl⟩
theorem roll_ev {f : Nat} (hP : P[f]? = some ⟨2, 3, Broll⟩) (n : Nat) (k : Int) (hk : 0 < k) (hk2 : k < 1073741824) (v c m : Int) (p : Nat) (S : Sto) (hS : S[p]? = some (.lst [.int v, .int c, .int m])) :
    ∃ r v' c' m' : Int, 0 ≤ r ∧ r < k ∧ callSem P (n + 1) f [.ref p, .int k] S = .ok (.int r) (S.set p (.lst [.int v', .int c', .int m'])) := by
  have h : ∃ r v' c' m' : Int, 0 ≤ r ∧ r < k ∧ ∃ env X, evSs (callSem P n) Broll (startE ⟨2, 3, Broll⟩ [.ref 0, .int k]) [.lst [.int v, .int c, .int m]] = .ok (.rt (.int r)) env (.lst [.int v', .int c', .int m'] :: X) := by
    have a : ∀ x : Int, 0 ≤ x % k ∧ x % k < k := fun x => ⟨Int.emod_nonneg _ (by omega), Int.emod_lt_of_pos _ hk⟩
    by_cases h1 : m = 2
    · subst h1
      refine ⟨v % k, v / k, c, 2, (a _).1, (a _).2, ?_⟩
      simp [runP, startE, ↓Res.bind, ↓evSs, ↓evS, ↓evE, ↓evEs, ↓evEo, ↓evPs, ↓evI, ↓evG, ↓evGs, ↓evT, ↓compL, ↓forL, turn, wipe, ↓ixD, atI, ixN, getD', ↓cmpD, cmpD.memD, ↓eqD, shal, dep, boolR, truth, eqv, pur, purs, parEnv, binD, augD, biD, meD, meOk, slD, cut, sIx, setD, addL, addK, items, alloc, big, flat, inD, word, small, Broll, hk, hk2]
    · by_cases h2 : m = 1
      · subst h2
        by_cases h3 : 0 < v
        · refine ⟨v % k, v / k, c, 1, (a _).1, (a _).2, ?_⟩
          simp [runP, startE, ↓Res.bind, ↓evSs, ↓evS, ↓evE, ↓evEs, ↓evEo, ↓evPs, ↓evI, ↓evG, ↓evGs, ↓evT, ↓compL, ↓forL, turn, wipe, ↓ixD, atI, ixN, getD', ↓cmpD, cmpD.memD, ↓eqD, shal, dep, boolR, truth, eqv, pur, purs, parEnv, binD, augD, biD, meD, meOk, slD, cut, sIx, setD, addL, addK, items, alloc, big, flat, inD, word, small, Broll, hk, hk2, h3]
        · refine ⟨(((v * 48271 + c * 69621 + 11) % 2147483647) / 7 + (v * 48271 + c * 69621 + 11) % 2147483647) % k, (v * 48271 + c * 69621 + 11) % 2147483647, c + 1, 0, (a _).1, (a _).2, ?_⟩
          simp [runP, startE, ↓Res.bind, ↓evSs, ↓evS, ↓evE, ↓evEs, ↓evEo, ↓evPs, ↓evI, ↓evG, ↓evGs, ↓evT, ↓compL, ↓forL, turn, wipe, ↓ixD, atI, ixN, getD', ↓cmpD, cmpD.memD, ↓eqD, shal, dep, boolR, truth, eqv, pur, purs, parEnv, binD, augD, biD, meD, meOk, slD, cut, sIx, setD, addL, addK, items, alloc, big, flat, inD, word, small, Broll, hk, hk2, h3]
      · refine ⟨(((v * 48271 + c * 69621 + 11) % 2147483647) / 7 + (v * 48271 + c * 69621 + 11) % 2147483647) % k, (v * 48271 + c * 69621 + 11) % 2147483647, c + 1, 0, (a _).1, (a _).2, ?_⟩
        have h1' : (m == 2) = false := by simpa using h1
        have h2' : (m == 1) = false := by simpa using h2
        simp [runP, startE, ↓Res.bind, ↓evSs, ↓evS, ↓evE, ↓evEs, ↓evEo, ↓evPs, ↓evI, ↓evG, ↓evGs, ↓evT, ↓compL, ↓forL, turn, wipe, ↓ixD, atI, ixN, getD', ↓cmpD, cmpD.memD, ↓eqD, shal, dep, boolR, truth, eqv, pur, purs, parEnv, binD, augD, biD, meD, meOk, slD, cut, sIx, setD, addL, addK, items, alloc, big, flat, inD, word, small, Broll, hk, hk2, h1', h2']
  obtain ⟨r, v', c', m', h1, h2, env, X, h3⟩ := h
  exact ⟨r, v', c', m', h1, h2, call_rp (P := P) (f := f) (d := ⟨2, 3, Broll⟩) hP rfl rfl hS rfl h3 rfl rfl⟩
/-- a roll: the dice alone change -/
theorem roll_D {f : Nat} (hP : P[f]? = some ⟨2, 3, Broll⟩) (n : Nat) (k : Int) (hk : 0 < k) (hk2 : k < 1073741824) {q : Nat} {S : Sto} (hS : ∃ o, S[q]? = some o ∧ Dice o) :
    ∃ (r : Nat) (S' : Sto), (r : Int) < k ∧ Kp q S S' ∧ (∃ o, S'[q]? = some o ∧ Dice o) ∧ S'.length = S.length ∧ callSem P (n + 1) f [.ref q, .int k] S = .ok (.int r) S' := by
  obtain ⟨o, h, v, c, m, rfl⟩ := hS
  obtain ⟨r, v', c', m', h1, h2, h3⟩ := roll_ev hP n k hk hk2 v c m q S h
  obtain ⟨j, rfl⟩ := Int.eq_ofNat_of_zero_le h1
  exact ⟨j, _, h2, .set _ _ _, ⟨_, List.getElem?_set_self (lt_of_some h), v', c', m', rfl⟩, by simp, h3⟩
theorem rounds_lc {d : Nat} (hP : P[d]? = some ⟨1, 1, Bdice⟩) (n : Nat) (cells : List Int) (hc : cells.length < 1000) (c : Nat) (S : Sto) (x y : Option D) (hS : items S c = some (cells.map .int)) :
    ∃ (ps : List Nat) (G : Sto), evE (callSem P (n + 1)) (.lc [3] (.var 3) (.val (.var 2)) (.nil) (.call d (.cons (.var 3) (.nil)))) [x, y, some (.ref c), none] S = .ok (.ref S.length) (S ++ .lst (ps.map .ref) :: G) ∧ ps.length = cells.length ∧
      ∀ q ∈ ps, S.length < q ∧ ∃ o, (S ++ .lst (ps.map .ref) :: G)[q]? = some o ∧ Dice o := by
  have hi : evI (callSem P (n + 1)) (.val (.var 2)) [x, y, some (.ref c), none] S = .ok (.lst c) S := by simp [↓evI, ↓evE, ↓Res.bind, hS]
  obtain ⟨ps, G, h1, h2, h3⟩ := compL_new (v := .lst c) (ds := cells.map .int) (S := S) (Good := Dice) (g := fun d S' => evG (callSem P (n + 1)) (.var 3) d (wipe [x, y, some (.ref c), none] [3]) S') (t := fun env1 S' => evT (callSem P (n + 1)) .nil env1 S')
    (b := lcB (callSem P (n + 1)) (.call d (.cons (.var 3) (.nil))) S.length) (fun i acc G => turn_lst hS i _)
    (fun d' hd acc G => by
      obtain ⟨i, _, rfl⟩ := List.mem_map.mp hd
      obtain ⟨v, cc, m, e⟩ := dice_ev hP n i
      refine ⟨[x, y, some (.ref c), some (.int i)], _, rfl, rfl, ⟨v, cc, m, rfl⟩, ?_⟩
      simp [lcB, ↓evE, ↓evEs, ↓Res.bind, e, Nat.add_assoc, Nat.add_comm 1])
    fuel 0 [] [] (by simp [fuel]; omega) (by simp [big]; omega)
  simp only [List.nil_append, List.length_map, Nat.sub_zero] at h1 h2 h3
  exact ⟨ps, G, evE_lc hi h1, h2, h3⟩
theorem rounds_ev {d f : Nat} (hd : P[d]? = some ⟨1, 1, Bdice⟩) (hP : P[f]? = some ⟨2, 4, Brounds d⟩) (n k : Nat) (hk : 0 < k ∧ k < 1000) (ns : List Int) (S : Sto) : ∃ (p : Nat) (X : Sto) (ps : List Nat), callSem P (n + 2) f [.fl (ns.map .int), .int k] S = .ok (.ref p) (S ++ X) ∧ items (S ++ X) p = some (ps.map .ref) ∧ ps.length ≤ k ∧ S.length ≤ p ∧
    ∀ q ∈ ps, S.length ≤ q ∧ q ≠ p ∧ ∃ o, (S ++ X)[q]? = some o ∧ Dice o := by
  have key : ∃ (j : Nat) (S1 : Sto) (ps : List Nat) (env : Ev.Env), evSs (callSem P (n + 1)) (Brounds d) (startE ⟨2, 4, Brounds d⟩ [.fl (ns.map .int), .int k]) [] = .ok (.rt (.ref j)) env S1 ∧ S1[j]? = some (.lst (ps.map .ref)) ∧ 1 ≤ ps.length ∧ ps.length ≤ k ∧
      ∀ q ∈ ps, j < q ∧ ∃ o, S1[q]? = some o ∧ Dice o := by
    have hs : ∀ S, slD (.fl (ns.map .int)) none (some (k : Int)) S = .ok (.ref S.length) (S ++ [.lst ((ns.take k).map .int)]) := fun S => by
      show alloc (.lst (cut _ none (some ((k : Nat) : Int)))) S = _
      rw [cut_take, List.map_take]; rfl
    have he : ∀ S : Sto, items S 0 = some ((ns.take k).map .int) → items S 1 = some [] → eqD S (.ref 0) (.ref 1) = some (ns.take k).isEmpty := fun S h0 h1 => by
      have : ((ns.take k).map D.int).isEmpty = (ns.take k).isEmpty := by cases ns.take k <;> rfl
      simp only [eqD, h0, h1, deps_ints, shal, deps, eqv_nil, this]
      rfl
    cases hn : (ns.take k).isEmpty with
    | true =>
      have hnil : ns.take k = [] := List.isEmpty_iff.mp hn
      obtain ⟨ps, G, h1, h2, h3⟩ := rounds_lc hd n [0] (by decide) 2 [.lst [], .lst [], .lst [.int 0]] (some (.fl (ns.map .int))) (some (.int k)) rfl
      refine ⟨3, _, ps, ?_, ?_, ?_, by rw [h2]; decide, by rw [h2]; simp; omega, fun q hq => h3 q hq⟩
      · exact [some (.fl (ns.map .int)), some (.int k), some (.ref 2), none]
      · have he' := he [.lst [], .lst []] (by rw [hnil]; rfl) rfl
        rw [hn] at he'
        rw [hnil] at hs
        simp [Brounds, startE, ↓evSs, ↓evS, ↓h1, ↓evE, ↓evEs, ↓evEo, ↓evG, ↓Res.bind, ↓hs, alloc, ↓cmpD, ↓he', boolR, truth, big]
      · rfl
    | false =>
      have hl : (ns.take k).length ≤ k := by simp; omega
      have hp : 1 ≤ (ns.take k).length := by
        cases h : ns.take k with
        | nil => rw [h] at hn; cases hn
        | cons => simp
      obtain ⟨ps, G, h1, h2, h3⟩ := rounds_lc hd n (ns.take k) (by omega) 0 [.lst ((ns.take k).map .int), .lst []] (some (.fl (ns.map .int))) (some (.int k)) rfl
      refine ⟨2, _, ps, ?_, ?_, ?_, by omega, by omega, fun q hq => h3 q hq⟩
      · exact [some (.fl (ns.map .int)), some (.int k), some (.ref 0), none]
      · have he' := he [.lst ((ns.take k).map .int), .lst []] rfl rfl
        rw [hn] at he'
        simp only [Brounds, startE, List.map_cons, List.map_nil]
        simp [↓evSs, ↓evS, ↓h1, ↓evE, ↓evEs, ↓evEo, ↓evG, ↓Res.bind, ↓hs, alloc, ↓cmpD, ↓he', boolR, truth, big, -List.map_take]
      · rfl
  obtain ⟨j, S1, ps, env, e, hj, l1, l2, hq⟩ := key
  have hnp : purO (.lst (ps.map D.ref)) = false := by
    cases ps with
    | nil => simp at l1
    | cons => rfl
  refine ⟨S.length + j, S1.map (renO fun k => S.length + k), ps.map fun k => S.length + k, call_new (d := ⟨2, 4, Brounds d⟩) hP rfl (by simp [purs, pur, pur_ints]) e hj hnp, ?_, by simpa using l2, by omega, fun q hm => ?_⟩
  · unfold items
    rw [get_ren, hj]
    simp [renO, rens_refs]
  · obtain ⟨k, hk, rfl⟩ := List.mem_map.mp hm
    obtain ⟨k1, o, k2, v, c, m, rfl⟩ := hq k hk
    exact ⟨by omega, by omega, _, by rw [get_ren, k2]; rfl, v, c, m, rfl⟩
/-- the law's loop over the rounds -/
theorem law_for {d f n k : Nat} (hd : P[d]? = some ⟨1, 1, Bdice⟩) (hP : P[f]? = some ⟨2, 4, Brounds d⟩) (hk : 0 < k ∧ k < 1000) (ns : List Int) (v : Nat) (L : ISs) (I : Env → Prop) (env : Env) (S : Sto) (h0 : env[0]? = some (some (.fl (ns.map .int)))) (hI : I env)
    (hb : ∀ q env T, Kp q S T → S.length ≤ q → (∃ o, T[q]? = some o ∧ Dice o) → I env → ∃ env' T', evSs (callSem P (n + 2)) L (env.set v (some (.ref q))) T = .ok .nx env' T' ∧ I env' ∧ Kp q T T' ∧ ∃ o, T'[q]? = some o ∧ Dice o) :
    ∃ env' S', evS (callSem P (n + 2)) (.fori (.var v) (.val (.call f (.cons (.var 0) (.cons (.int k) .nil)))) L) env S = .ok .nx env' S' ∧ I env' ∧ ∀ j, j < S.length → S'[j]? = S[j]? := by
  obtain ⟨p, X, ps, r1, r2, r3, r4, r5⟩ := rounds_ev hd hP n k hk ns S
  have hi : evI (callSem P (n + 2)) (.val (.call f (.cons (.var 0) (.cons (.int k) (.nil))))) env S = .ok (.lst p) (S ++ X) := by
    simp [↓evI, ↓evE, ↓evEs, ↓Res.bind, h0, r1, r2]
  obtain ⟨env', S', h1, h2, h3, h4⟩ := fori_fold (C := callSem P (n + 2)) (g := .var v) (b := L) (Rel := fun (_ : Unit) env' S' => I env' ∧ (items S' p = some (ps.map .ref) ∧ ∀ q ∈ ps, q ≠ p ∧ ∃ o, S'[q]? = some o ∧ Dice o) ∧ S.length ≤ S'.length ∧ ∀ j, j < S.length → S'[j]? = S[j]?) (enc := D.ref) (step := fun _ _ => ()) (s := ()) hi ps (by omega)
    (fun i _ env' S' h => by simp only [turn]; rw [h.2.1.1]; rfl)
    (fun q hq _ env' S' ⟨i1, ⟨i2, i3⟩, i5, i4⟩ => by
      obtain ⟨b1, b2⟩ := i3 q hq
      obtain ⟨env2, T', e1, e2, e3, e4⟩ := hb q env' S' ⟨i5, fun j hj _ => i4 j hj⟩ (r5 q hq).1 b2 i1
      refine ⟨_, S', env2, T', rfl, .inl e1, e2, ⟨e3.items i2 (Ne.symm b1), fun q' hq' => ?_⟩, Nat.le_trans i5 e3.len, fun j hj => ?_⟩
      · obtain ⟨c1, o2, c2, c3⟩ := i3 q' hq'
        refine ⟨c1, ?_⟩
        by_cases hqq : q' = q
        · subst hqq; exact e4
        · exact ⟨o2, e3.get c2 hqq, c3⟩
      · have := (r5 q hq).1
        rw [e3.keep j (Nat.lt_of_lt_of_le hj i5) (by omega)]; exact i4 j hj) ⟨hI, ⟨r2, fun q hq => (r5 q hq).2⟩, by simp, fun j hj => List.getElem?_append_left hj⟩
  exact ⟨env', S', h1, h2, h4.2⟩
end
end Ev
end
section
/-! The evaluator walked by rules: `ev` applies them from the goal. -/
namespace Ev
/-! the evaluator, not to be unfolded -/
@[irreducible] def qE (C : CallS) (e : IE) (env : Env) (S : Sto) : Res D := evE C e env S
@[irreducible] def qEs (C : CallS) (e : IEs) (env : Env) (S : Sto) : Res (List D) := evEs C e env S
@[irreducible] def qEo (C : CallS) (e : IEo) (env : Env) (S : Sto) : Res (Option Int) := evEo C e env S
@[irreducible] def qI (C : CallS) (e : II) (env : Env) (S : Sto) : Res ItV := evI C e env S
@[irreducible] def qT (C : CallS) (e : IEs) (env : Env) (S : Sto) : TRes := evT C e env S
@[irreducible] def qG (C : CallS) (g : IG) (d : D) (env : Env) (S : Sto) : Option (Env × Sto) := evG C g d env S
@[irreducible] def qGs (C : CallS) (g : IGs) (d : List D) (env : Env) (S : Sto) : Option (Env × Sto) := evGs C g d env S
@[irreducible] def qS (C : CallS) (s : IS) (env : Env) (S : Sto) : SRes := evS C s env S
@[irreducible] def qSs (C : CallS) (s : ISs) (env : Env) (S : Sto) : SRes := evSs C s env S
@[irreducible] def qC (P : List Def) (n : Nat) : CallS := callSem P n
theorem qE_eq : @qE = @evE := by funext C e env S; delta qE; rfl
theorem qEs_eq : @qEs = @evEs := by funext C e env S; delta qEs; rfl
theorem qEo_eq : @qEo = @evEo := by funext C e env S; delta qEo; rfl
theorem qI_eq : @qI = @evI := by funext C e env S; delta qI; rfl
theorem qT_eq : @qT = @evT := by funext C e env S; delta qT; rfl
theorem qG_eq : @qG = @evG := by funext C e d env S; delta qG; rfl
theorem qGs_eq : @qGs = @evGs := by funext C e d env S; delta qGs; rfl
theorem qS_eq : @qS = @evS := by funext C e env S; delta qS; rfl
theorem qSs_eq : @qSs = @evSs := by funext C e env S; delta qSs; rfl
theorem qC_eq : @qC = @callSem := by funext P n; delta qC; rfl
section
variable {C : CallS} {env env1 env2 : Env} {S S1 S2 S3 S4 : Sto} {x y z d : D} {a b c e : IE} {es : IEs} {ds : List D}
theorem e_of {d' : D} (h : qE C e env S = .ok d' S1) (hd : d' = d) (hs : S1 = S2) : qE C e env S = .ok d S2 := by (try simp only [qE_eq, qEs_eq, qEo_eq, qI_eq, qT_eq, qG_eq, qGs_eq, qS_eq, qSs_eq, qC_eq] at *); rw [h, hd, hs]
theorem r_int {i : Int} : qE C (.int i) env S = .ok (.int i) S := by (try simp only [qE_eq, qEs_eq, qEo_eq, qI_eq, qT_eq, qG_eq, qGs_eq, qS_eq, qSs_eq, qC_eq] at *); rw [evE]
theorem r_bl {i : Bool} : qE C (.bl i) env S = .ok (.bl i) S := by (try simp only [qE_eq, qEs_eq, qEo_eq, qI_eq, qT_eq, qG_eq, qGs_eq, qS_eq, qSs_eq, qC_eq] at *); rw [evE]
theorem r_str {i : List Nat} : qE C (.str i) env S = .ok (.str i) S := by (try simp only [qE_eq, qEs_eq, qEo_eq, qI_eq, qT_eq, qG_eq, qGs_eq, qS_eq, qSs_eq, qC_eq] at *); rw [evE]
theorem r_non : qE C .non env S = .ok .non S := by (try simp only [qE_eq, qEs_eq, qEo_eq, qI_eq, qT_eq, qG_eq, qGs_eq, qS_eq, qSs_eq, qC_eq] at *); rw [evE]
theorem r_var {i : Nat} (h : env[i]? = some (some d)) : qE C (.var i) env S = .ok d S := by (try simp only [qE_eq, qEs_eq, qEo_eq, qI_eq, qT_eq, qG_eq, qGs_eq, qS_eq, qSs_eq, qC_eq] at *); rw [evE, h]
theorem r_bin {o : BOp} (h1 : qE C a env S = .ok x S1) (h2 : qE C b env S1 = .ok y S2) (h3 : binD o x y S2 = .ok z S3) : qE C (.bin o a b) env S = .ok z S3 := by (try simp only [qE_eq, qEs_eq, qEo_eq, qI_eq, qT_eq, qG_eq, qGs_eq, qS_eq, qSs_eq, qC_eq] at *); rw [evE, h1]; show Res.bind (evE C b env S1) _ = _; rw [h2]; exact h3
theorem r_neg {i : Int} (h1 : qE C a env S = .ok (.int i) S1) : qE C (.neg a) env S = .ok (.int (-i)) S1 := by (try simp only [qE_eq, qEs_eq, qEo_eq, qI_eq, qT_eq, qG_eq, qGs_eq, qS_eq, qSs_eq, qC_eq] at *); rw [evE, h1]
theorem r_not {p : Bool} (h1 : qE C a env S = .ok x S1) (h2 : truth S1 x = some p) : qE C (.inot a) env S = .ok (.bl (!p)) S1 := by (try simp only [qE_eq, qEs_eq, qEo_eq, qI_eq, qT_eq, qG_eq, qGs_eq, qS_eq, qSs_eq, qC_eq] at *); rw [evE, h1]; show boolR ((truth S1 x).map _) _ = _; rw [h2]; rfl
theorem r_cmp {o : COp} {p : Bool} (h1 : qE C a env S = .ok x S1) (h2 : qE C b env S1 = .ok y S2) (h3 : cmpD o x y S2 = some p) : qE C (.cmp o a b) env S = .ok (.bl p) S2 := by
  (try simp only [qE_eq, qEs_eq, qEo_eq, qI_eq, qT_eq, qG_eq, qGs_eq, qS_eq, qSs_eq, qC_eq] at *)
  rw [evE, h1]; show Res.bind (evE C b env S1) _ = _; rw [h2]; show boolR (cmpD o x y S2) S2 = _; rw [h3]; rfl
theorem r_cmp2 {o o' : COp} {p q : Bool} (h1 : qE C a env S = .ok x S1) (h2 : qE C b env S1 = .ok y S2) (h3 : cmpD o x y S2 = some p) (h4 : qE C c env S2 = .ok z S2) (h5 : cmpD o' y z S2 = some q) : qE C (.cmp2 o o' a b c) env S = .ok (.bl (p && q)) S2 := by
  (try simp only [qE_eq, qEs_eq, qEo_eq, qI_eq, qT_eq, qG_eq, qGs_eq, qS_eq, qSs_eq, qC_eq] at *)
  rw [evE, h1]; show Res.bind (evE C b env S1) _ = _; rw [h2]
  show (match cmpD o x y S2 with | some true => (evE C c env S2).bind fun z S3 => boolR (cmpD o' y z S3) S3 | some false => .ok (.bl false) S2 | none => .bad) = _
  rw [h3]
  cases p
  · rfl
  · show Res.bind (evE C c env S2) _ = _; rw [h4]; show boolR (cmpD o' y z S2) S2 = _; rw [h5]; rfl
theorem r_and_f (h1 : qE C a env S = .ok x S1) (h2 : truth S1 x = some false) : qE C (.iand a b) env S = .ok x S1 := by
  (try simp only [qE_eq, qEs_eq, qEo_eq, qI_eq, qT_eq, qG_eq, qGs_eq, qS_eq, qSs_eq, qC_eq] at *)
  rw [evE, h1]; show (match truth S1 x with | some true => evE C b env S1 | some false => .ok x S1 | none => .bad) = _; rw [h2]
theorem r_and_t {r : Res D} (h1 : qE C a env S = .ok x S1) (h2 : truth S1 x = some true) (h3 : qE C b env S1 = r) : qE C (.iand a b) env S = r := by
  (try simp only [qE_eq, qEs_eq, qEo_eq, qI_eq, qT_eq, qG_eq, qGs_eq, qS_eq, qSs_eq, qC_eq] at *)
  rw [evE, h1]; show (match truth S1 x with | some true => evE C b env S1 | some false => .ok x S1 | none => .bad) = _; rw [h2]; exact h3
theorem r_and {p q : Bool} (h1 : qE C a env S = .ok (.bl p) S1) (h2 : qE C b env S1 = .ok (.bl q) S1) : qE C (.iand a b) env S = .ok (.bl (p && q)) S1 := by
  cases p
  · exact r_and_f h1 rfl
  · exact r_and_t h1 rfl h2
theorem r_or_t (h1 : qE C a env S = .ok x S1) (h2 : truth S1 x = some true) : qE C (.ior a b) env S = .ok x S1 := by
  (try simp only [qE_eq, qEs_eq, qEo_eq, qI_eq, qT_eq, qG_eq, qGs_eq, qS_eq, qSs_eq, qC_eq] at *)
  rw [evE, h1]; show (match truth S1 x with | some false => evE C b env S1 | some true => .ok x S1 | none => .bad) = _; rw [h2]
theorem r_or_f {r : Res D} (h1 : qE C a env S = .ok x S1) (h2 : truth S1 x = some false) (h3 : qE C b env S1 = r) : qE C (.ior a b) env S = r := by
  (try simp only [qE_eq, qEs_eq, qEo_eq, qI_eq, qT_eq, qG_eq, qGs_eq, qS_eq, qSs_eq, qC_eq] at *)
  rw [evE, h1]; show (match truth S1 x with | some false => evE C b env S1 | some true => .ok x S1 | none => .bad) = _; rw [h2]; exact h3
theorem r_or {p q : Bool} (h1 : qE C a env S = .ok (.bl p) S1) (h2 : qE C b env S1 = .ok (.bl q) S1) : qE C (.ior a b) env S = .ok (.bl (p || q)) S1 := by
  cases p
  · exact r_or_f h1 rfl h2
  · exact r_or_t h1 rfl
theorem r_ife_t {r : Res D} (h1 : qE C c env S = .ok x S1) (h2 : truth S1 x = some true) (h3 : qE C a env S1 = r) : qE C (.ife c a b) env S = r := by
  (try simp only [qE_eq, qEs_eq, qEo_eq, qI_eq, qT_eq, qG_eq, qGs_eq, qS_eq, qSs_eq, qC_eq] at *)
  rw [evE, h1]; show (match truth S1 x with | some true => evE C a env S1 | some false => evE C b env S1 | none => .bad) = _; rw [h2]; exact h3
theorem r_ife_f {r : Res D} (h1 : qE C c env S = .ok x S1) (h2 : truth S1 x = some false) (h3 : qE C b env S1 = r) : qE C (.ife c a b) env S = r := by
  (try simp only [qE_eq, qEs_eq, qEo_eq, qI_eq, qT_eq, qG_eq, qGs_eq, qS_eq, qSs_eq, qC_eq] at *)
  rw [evE, h1]; show (match truth S1 x with | some true => evE C a env S1 | some false => evE C b env S1 | none => .bad) = _; rw [h2]; exact h3
theorem r_tup (h1 : qEs C es env S = .ok ds S1) (h2 : ds.length ≤ big) : qE C (.tup es) env S = .ok (.tup ds) S1 := by (try simp only [qE_eq, qEs_eq, qEo_eq, qI_eq, qT_eq, qG_eq, qGs_eq, qS_eq, qSs_eq, qC_eq] at *); rw [evE, h1]; show (if ds.length ≤ big then Res.ok (D.tup ds) S1 else .bad) = _; rw [if_pos h2]
theorem r_lst (h1 : qEs C es env S = .ok ds S1) (h2 : ds.length ≤ big) : qE C (.lst es) env S = .ok (.ref S1.length) (S1 ++ [.lst ds]) := by (try simp only [qE_eq, qEs_eq, qEo_eq, qI_eq, qT_eq, qG_eq, qGs_eq, qS_eq, qSs_eq, qC_eq] at *); rw [evE, h1]; show (if ds.length ≤ big then alloc (.lst ds) S1 else .bad) = _; rw [if_pos h2]; rfl
theorem r_ix (h1 : qE C a env S = .ok x S1) (h2 : qE C b env S1 = .ok y S2) (h3 : ixD x y S2 = .ok z S3) : qE C (.ix a b) env S = .ok z S3 := by (try simp only [qE_eq, qEs_eq, qEo_eq, qI_eq, qT_eq, qG_eq, qGs_eq, qS_eq, qSs_eq, qC_eq] at *); rw [evE, h1]; show Res.bind (evE C b env S1) _ = _; rw [h2]; exact h3
theorem r_sl {lo hi : IEo} {l h : Option Int} (h1 : qE C a env S = .ok x S1) (h2 : qEo C lo env S1 = .ok l S2) (h3 : qEo C hi env S2 = .ok h S3) (h4 : slD x l h S3 = .ok z S4) : qE C (.sl a lo hi) env S = .ok z S4 := by
  (try simp only [qE_eq, qEs_eq, qEo_eq, qI_eq, qT_eq, qG_eq, qGs_eq, qS_eq, qSs_eq, qC_eq] at *)
  rw [evE, h1]; show Res.bind (evEo C lo env S1) _ = _; rw [h2]; show Res.bind (evEo C hi env S2) _ = _; rw [h3]; exact h4
theorem r_call {f : Nat} {r : Res D} (h1 : qEs C es env S = .ok ds S1) (h2 : C f ds S1 = r) : qE C (.call f es) env S = r := by (try simp only [qE_eq, qEs_eq, qEo_eq, qI_eq, qT_eq, qG_eq, qGs_eq, qS_eq, qSs_eq, qC_eq] at *); rw [evE, h1]; exact h2
theorem r_bi {f : BI} {r : Res D} (h1 : qEs C es env S = .ok ds S1) (h2 : biD f ds S1 = r) : qE C (.bi f es) env S = r := by (try simp only [qE_eq, qEs_eq, qEo_eq, qI_eq, qT_eq, qG_eq, qGs_eq, qS_eq, qSs_eq, qC_eq] at *); rw [evE, h1]; exact h2
theorem r_me {m : ME} {r : Res D} (h1 : qE C a env S = .ok x S1) (h0 : meOk m x S1 = true) (h2 : qEs C es env S1 = .ok ds S2) (h3 : meD m x ds S2 = r) : qE C (.me m a es) env S = r := by
  (try simp only [qE_eq, qEs_eq, qEo_eq, qI_eq, qT_eq, qG_eq, qGs_eq, qS_eq, qSs_eq, qC_eq] at *)
  rw [evE, h1]; show (if meOk m x S1 = true then (evEs C es env S1).bind fun ds S2 => meD m x ds S2 else .bad) = _; rw [if_pos h0, h2]; exact h3
theorem r_isi {t : Ty} {p : Bool} (h1 : qE C a env S = .ok x S1) (h2 : isiD t x S1 = some p) : qE C (.isi t a) env S = .ok (.bl p) S1 := by (try simp only [qE_eq, qEs_eq, qEo_eq, qI_eq, qT_eq, qG_eq, qGs_eq, qS_eq, qSs_eq, qC_eq] at *); rw [evE, h1]; show boolR (isiD t x S1) S1 = _; rw [h2]; rfl
theorem r_told {hs : List (List Nat × List Nat)} (h1 : qE C b env S = .ok d S1) : qE C (.told hs b) env S = .ok d S1 := by (try simp only [qE_eq, qEs_eq, qEo_eq, qI_eq, qT_eq, qG_eq, qGs_eq, qS_eq, qSs_eq, qC_eq] at *); rw [evE, h1]
theorem r_told_x {hs : List (List Nat × List Nat)} {x : Ex} {h : List Nat × List Nat} (h1 : qE C b env S = .exc x S1) (h2 : hs.find? (fun h => h.1.contains x.cls) = some h) : qE C (.told hs b) env S = .ok (.str h.2) S1 := by
  (try simp only [qE_eq, qEs_eq, qEo_eq, qI_eq, qT_eq, qG_eq, qGs_eq, qS_eq, qSs_eq, qC_eq] at *)
  rw [evE, h1]; show (match hs.find? (fun h => h.1.contains x.cls) with | some h => Res.ok (D.str h.2) S1 | none => .bad) = _; rw [h2]
theorem r_nil : qEs C .nil env S = .ok [] S := by (try simp only [qE_eq, qEs_eq, qEo_eq, qI_eq, qT_eq, qG_eq, qGs_eq, qS_eq, qSs_eq, qC_eq] at *); rw [evEs]
theorem r_cons (h1 : qE C e env S = .ok x S1) (h2 : qEs C es env S1 = .ok ds S2) : qEs C (.cons e es) env S = .ok (x :: ds) S2 := by (try simp only [qE_eq, qEs_eq, qEo_eq, qI_eq, qT_eq, qG_eq, qGs_eq, qS_eq, qSs_eq, qC_eq] at *); rw [evEs, h1]; show Res.bind (evEs C es env S1) _ = _; rw [h2]
theorem r_none : qEo C .none env S = .ok none S := by (try simp only [qE_eq, qEs_eq, qEo_eq, qI_eq, qT_eq, qG_eq, qGs_eq, qS_eq, qSs_eq, qC_eq] at *); rw [evEo]
theorem r_some {i : Int} (h1 : qE C e env S = .ok (.int i) S1) : qEo C (.some e) env S = .ok (some i) S1 := by (try simp only [qE_eq, qEs_eq, qEo_eq, qI_eq, qT_eq, qG_eq, qGs_eq, qS_eq, qSs_eq, qC_eq] at *); rw [evEo, h1]
/-! indices -/
theorem atI_nat {α : Type} {xs : List α} {i : Int} (h : 0 ≤ i) : atI xs i = xs[i.toNat]? := by
  obtain ⟨k, rfl⟩ := Int.eq_ofNat_of_zero_le h
  simp only [atI, ixN, Int.toNat_natCast]
  by_cases q : k < xs.length
  · have : ¬ ((k : Int) < 0) := by omega
    simp [q, this]
  · have h1 : ¬ ((k : Int) < 0) := by omega
    have : xs.length ≤ k := by omega
    simp [h1, q, List.getElem?_eq_none this]
theorem ix_tup {i : Int} (h : 0 ≤ i) (g : ds[i.toNat]? = some d) : ixD (.tup ds) (.int i) S = .ok d S := by unfold ixD; simp only [atI_nat h, g]; rfl
theorem ix_ref {i : Int} {m : Nat} (hm : items S m = some ds) (h : 0 ≤ i) (g : ds[i.toNat]? = some d) : ixD (.ref m) (.int i) S = .ok d S := by unfold ixD; simp only [hm, atI_nat h, g]; rfl
theorem atI_last {α : Type} {xs : List α} : atI xs (-1) = xs.getLast? := by
  simp only [atI, ixN, List.getLast?_eq_getElem?]
  cases xs with
  | nil => rfl
  | cons a r =>
    have h1 : (1 : Int) ≤ (r.length : Int) + 1 := by omega
    have h2 : (-1 + ((r.length : Int) + 1)).toNat = r.length := by omega
    simp [h1, h2]
theorem ix_last (g : ds.getLast? = some d) : ixD (.tup ds) (.int (-1)) S = .ok d S := by unfold ixD; simp only [atI_last, g]; rfl
theorem op_append {n : Nat} {ys : List D} (h : S[n]? = some (.lst ys)) (hl : ys.length < big) : meD .append (.ref n) [y] S = .ok .non (S.set n (.lst (ys ++ [y]))) := by unfold meD; simp only [h]; rw [if_pos hl]
theorem set_lst {n : Nat} {ys : List D} {i : Int} (h : S[n]? = some (.lst ys)) (hi : 0 ≤ i) (hj : i.toNat < ys.length) : setD (.ref n) (.int i) d S = some (S.set n (.lst (ys.set i.toNat d))) := by
  have : i < (ys.length : Int) := by omega
  unfold setD; simp only [h, ixN, hi, this, if_true]
theorem op_addT {l r : List D} (h : l.length + r.length ≤ big) : binD .add (.tup l) (.tup r) S = .ok (.tup (l ++ r)) S := by unfold binD; simp only; rw [if_pos h]
theorem op_mulR {i j : Int} (h : small j = true) : binD .mul (.int i) (.int j) S = .ok (.int (i * j)) S := by unfold binD; simp only; rw [if_pos (by simp [h])]
theorem op_mulL {i j : Int} (h : small i = true) : binD .mul (.int i) (.int j) S = .ok (.int (i * j)) S := by unfold binD; simp only; rw [if_pos (by simp [h])]
theorem op_mulT {l : List D} {k : Int} (h : few l.length k = true) : binD .mul (.tup l) (.int k) S = .ok (.tup (rep k l)) S := by unfold binD; simp only; rw [if_pos h]
theorem op_mulF {m : Nat} {l : List D} {k : Int} (h0 : items S m = some l) (h : few l.length k = true) : binD .mul (.ref m) (.int k) S = .ok (.ref S.length) (S ++ [.lst (rep k l)]) := by unfold binD; simp only [h0]; rw [if_pos h]; rfl
theorem op_fdiv {i j : Int} (h : 0 < j) (h2 : j < 1073741824) : binD .fdiv (.int i) (.int j) S = .ok (.int (i / j)) S := by unfold binD; simp [h, h2]
theorem op_mod {i j : Int} (h : 0 < j) : binD .mod (.int i) (.int j) S = .ok (.int (i % j)) S := by unfold binD; simp [h]
theorem op_pow {i j : Int} (h : 0 ≤ j) (h1 : j ≤ 1000) (h2 : i.natAbs < 2 ^ 64) : binD .pow (.int i) (.int j) S = .ok (.int (i ^ j.toNat)) S := by unfold binD; simp [h, h1, h2]
/-! iterators -/
theorem i_rng1 {j : Int} {n : Nat} (h1 : qE C a env S = .ok (.int j) S1) (h2 : word j = true) (hn : j.toNat = n) : qI C (.rng1 a) env S = .ok (.rng 0 1 n) S1 := by (try simp only [qE_eq, qEs_eq, qEo_eq, qI_eq, qT_eq, qG_eq, qGs_eq, qS_eq, qSs_eq, qC_eq] at *); subst hn; rw [evI, h1]; show (if word j = true then Res.ok (ItV.rng 0 1 j.toNat) S1 else .bad) = _; rw [if_pos h2]
theorem i_rng2 {i j : Int} {n : Nat} (h1 : qE C a env S = .ok (.int i) S1) (h2 : qE C b env S1 = .ok (.int j) S2) (h3 : (word i && word j) = true) (hn : (j - i).toNat = n) : qI C (.rng2 a b) env S = .ok (.rng i 1 n) S2 := by
  (try simp only [qE_eq, qEs_eq, qEo_eq, qI_eq, qT_eq, qG_eq, qGs_eq, qS_eq, qSs_eq, qC_eq] at *)
  subst hn; rw [evI, h1]; show Res.bind (evE C b env S1) _ = _; rw [h2]; show (if (word i && word j) = true then Res.ok (ItV.rng i 1 (j - i).toNat) S2 else .bad) = _; rw [if_pos h3]
theorem i_rng3 {i j k : Int} {n : Nat} (h1 : qE C a env S = .ok (.int i) S1) (h2 : qE C b env S1 = .ok (.int j) S2) (h2' : qE C c env S2 = .ok (.int k) S3) (h3 : (word i && word j && decide (k = -1)) = true) (hn : (i - j).toNat = n) : qI C (.rng3 a b c) env S = .ok (.rng i (-1) n) S3 := by
  (try simp only [qE_eq, qEs_eq, qEo_eq, qI_eq, qT_eq, qG_eq, qGs_eq, qS_eq, qSs_eq, qC_eq] at *)
  subst hn; rw [evI, h1]; show Res.bind (evE C b env S1) _ = _; rw [h2]; show Res.bind (evE C c env S2) _ = _; rw [h2']; show (if (word i && word j && decide (k = -1)) = true then Res.ok (ItV.rng i (-1) (i - j).toNat) S3 else .bad) = _; rw [if_pos h3]
theorem i_tup (h1 : qE C a env S = .ok (.tup ds) S1) : qI C (.val a) env S = .ok (.tup ds) S1 := by (try simp only [qE_eq, qEs_eq, qEo_eq, qI_eq, qT_eq, qG_eq, qGs_eq, qS_eq, qSs_eq, qC_eq] at *); rw [evI, h1]
theorem i_ref {n : Nat} (h1 : qE C a env S = .ok (.ref n) S1) (h2 : items S1 n = some ds) : qI C (.val a) env S = .ok (.lst n) S1 := by
  (try simp only [qE_eq, qEs_eq, qEo_eq, qI_eq, qT_eq, qG_eq, qGs_eq, qS_eq, qSs_eq, qC_eq] at *)
  rw [evI, h1]; show (match items S1 n with | some _ => Res.ok (ItV.lst n) S1 | none => .bad) = _; rw [h2]
theorem i_enumT (h1 : qE C a env S = .ok (.tup ds) S1) : qI C (.enum a) env S = .ok (.enumT ds) S1 := by (try simp only [qE_eq, qEs_eq, qEo_eq, qI_eq, qT_eq, qG_eq, qGs_eq, qS_eq, qSs_eq, qC_eq] at *); rw [evI, h1]
theorem i_enumL {n : Nat} (h1 : qE C a env S = .ok (.ref n) S1) (h2 : items S1 n = some ds) : qI C (.enum a) env S = .ok (.enumL n) S1 := by
  (try simp only [qE_eq, qEs_eq, qEo_eq, qI_eq, qT_eq, qG_eq, qGs_eq, qS_eq, qSs_eq, qC_eq] at *)
  rw [evI, h1]; show (match items S1 n with | some _ => Res.ok (ItV.enumL n) S1 | none => .bad) = _; rw [h2]
theorem i_zipT {es : List D} (h1 : qE C a env S = .ok (.tup ds) S1) (h2 : qE C b env S1 = .ok (.tup es) S2) : qI C (.zip a b) env S = .ok (.zipT ds es) S2 := by (try simp only [qE_eq, qEs_eq, qEo_eq, qI_eq, qT_eq, qG_eq, qGs_eq, qS_eq, qSs_eq, qC_eq] at *); rw [evI, h1]; show Res.bind (evE C b env S1) _ = _; rw [h2]
theorem i_revT (h1 : qE C a env S = .ok (.tup ds) S1) : qI C (.rev a) env S = .ok (.revT ds) S1 := by (try simp only [qE_eq, qEs_eq, qEo_eq, qI_eq, qT_eq, qG_eq, qGs_eq, qS_eq, qSs_eq, qC_eq] at *); rw [evI, h1]
/-! statements -/
variable {ss : ISs} {s : IS} {r : SRes} {g : IG}
theorem s_nil : qSs C .nil env S = .ok .nx env S := by (try simp only [qE_eq, qEs_eq, qEo_eq, qI_eq, qT_eq, qG_eq, qGs_eq, qS_eq, qSs_eq, qC_eq] at *); rw [evSs]
theorem s_cons (h1 : qS C s env S = .ok .nx env1 S1) (h2 : qSs C ss env1 S1 = r) : qSs C (.cons s ss) env S = r := by (try simp only [qE_eq, qEs_eq, qEo_eq, qI_eq, qT_eq, qG_eq, qGs_eq, qS_eq, qSs_eq, qC_eq] at *); rw [evSs, h1]; exact h2
theorem s_ret (h1 : qE C e env S = .ok d S1) : qSs C (.cons (.ret e) ss) env S = .ok (.rt d) env S1 := by (try simp only [qE_eq, qEs_eq, qEo_eq, qI_eq, qT_eq, qG_eq, qGs_eq, qS_eq, qSs_eq, qC_eq] at *); rw [evSs, evS, h1]
theorem s_ite_t {A B : ISs} (h1 : qE C e env S = .ok x S1) (h2 : truth S1 x = some true) (h3 : qSs C A env S1 = .ok .nx env1 S2) (h4 : qSs C ss env1 S2 = r) : qSs C (.cons (.ite e A B) ss) env S = r := by
  (try simp only [qE_eq, qEs_eq, qEo_eq, qI_eq, qT_eq, qG_eq, qGs_eq, qS_eq, qSs_eq, qC_eq] at *)
  rw [evSs, evS, h1]; simp only [h2]; rw [h3]; exact h4
theorem s_ite_tr {A B : ISs} (h1 : qE C e env S = .ok x S1) (h2 : truth S1 x = some true) (h3 : qSs C A env S1 = .ok (.rt d) env1 S2) : qSs C (.cons (.ite e A B) ss) env S = .ok (.rt d) env1 S2 := by
  (try simp only [qE_eq, qEs_eq, qEo_eq, qI_eq, qT_eq, qG_eq, qGs_eq, qS_eq, qSs_eq, qC_eq] at *)
  rw [evSs, evS, h1]; simp only [h2]; rw [h3]
theorem s_ite_f {A B : ISs} (h1 : qE C e env S = .ok x S1) (h2 : truth S1 x = some false) (h3 : qSs C B env S1 = .ok .nx env1 S2) (h4 : qSs C ss env1 S2 = r) : qSs C (.cons (.ite e A B) ss) env S = r := by
  (try simp only [qE_eq, qEs_eq, qEo_eq, qI_eq, qT_eq, qG_eq, qGs_eq, qS_eq, qSs_eq, qC_eq] at *)
  rw [evSs, evS, h1]; simp only [h2]; rw [h3]; exact h4
theorem s_ite_fr {A B : ISs} (h1 : qE C e env S = .ok x S1) (h2 : truth S1 x = some false) (h3 : qSs C B env S1 = .ok (.rt d) env1 S2) : qSs C (.cons (.ite e A B) ss) env S = .ok (.rt d) env1 S2 := by
  (try simp only [qE_eq, qEs_eq, qEo_eq, qI_eq, qT_eq, qG_eq, qGs_eq, qS_eq, qSs_eq, qC_eq] at *)
  rw [evSs, evS, h1]; simp only [h2]; rw [h3]
theorem s_asg (h1 : qE C e env S = .ok d S1) (h2 : qG C g d env S1 = some (env1, S2)) : qS C (.asg g e) env S = .ok .nx env1 S2 := by (try simp only [qE_eq, qEs_eq, qEo_eq, qI_eq, qT_eq, qG_eq, qGs_eq, qS_eq, qSs_eq, qC_eq] at *); rw [evS, h1]; simp only [h2]
theorem s_par {xs : List Nat} (h1 : qEs C es env S = .ok ds S1) (h2 : parEnv xs ds env = some env1) : qS C (.par xs es) env S = .ok .nx env1 S1 := by (try simp only [qE_eq, qEs_eq, qEo_eq, qI_eq, qT_eq, qG_eq, qGs_eq, qS_eq, qSs_eq, qC_eq] at *); rw [evS, h1]; simp only [h2]
theorem s_aug {i : Nat} {o : BOp} (h0 : env[i]? = some (some x)) (h1 : qE C e env S = .ok y S1) (h2 : augD o x y S1 = .ok z S2) : qS C (.aug i o e) env S = .ok .nx (env.set i (some z)) S2 := by (try simp only [qE_eq, qEs_eq, qEo_eq, qI_eq, qT_eq, qG_eq, qGs_eq, qS_eq, qSs_eq, qC_eq] at *); rw [evS, h0]; simp only [h1, h2]
theorem s_expr (h1 : qE C e env S = .ok d S1) : qS C (.expr e) env S = .ok .nx env S1 := by (try simp only [qE_eq, qEs_eq, qEo_eq, qI_eq, qT_eq, qG_eq, qGs_eq, qS_eq, qSs_eq, qC_eq] at *); rw [evS, h1]
theorem g_var {i : Nat} : qG C (.var i) d env S = some (env.set i (some d), S) := by (try simp only [qE_eq, qEs_eq, qEo_eq, qI_eq, qT_eq, qG_eq, qGs_eq, qS_eq, qSs_eq, qC_eq] at *); rw [evG]
theorem g_tup {gs : IGs} {q : Option (Env × Sto)} (h : qGs C gs ds env S = q) : qG C (.tup gs) (.tup ds) env S = q := by (try simp only [qE_eq, qEs_eq, qEo_eq, qI_eq, qT_eq, qG_eq, qGs_eq, qS_eq, qSs_eq, qC_eq] at *); rw [evG]; exact h
theorem g_sub {o i : IE} (h1 : qE C o env S = .ok x S1) (h2 : qE C i env S1 = .ok y S2) (h3 : setD x y d S2 = some S3) : qG C (.sub o i) d env S = some (env, S3) := by (try simp only [qE_eq, qEs_eq, qEo_eq, qI_eq, qT_eq, qG_eq, qGs_eq, qS_eq, qSs_eq, qC_eq] at *); rw [evG, h1]; simp only [h2, h3]; rfl
theorem g_nil : qGs C .nil [] env S = some (env, S) := by (try simp only [qE_eq, qEs_eq, qEo_eq, qI_eq, qT_eq, qG_eq, qGs_eq, qS_eq, qSs_eq, qC_eq] at *); rw [evGs]
theorem g_cons {gs : IGs} {q : Option (Env × Sto)} (h1 : qG C g d env S = some (env1, S1)) (h2 : qGs C gs ds env1 S1 = q) : qGs C (.cons g gs) (d :: ds) env S = q := by (try simp only [qE_eq, qEs_eq, qEo_eq, qI_eq, qT_eq, qG_eq, qGs_eq, qS_eq, qSs_eq, qC_eq] at *); rw [evGs, h1]; exact h2
theorem ss_of {f : Fl} (h : qSs C ss env S = .ok f env1 S1) (he : env1 = env2) (hs : S1 = S2) : qSs C ss env S = .ok f env2 S2 := by (try simp only [qE_eq, qEs_eq, qEo_eq, qI_eq, qT_eq, qG_eq, qGs_eq, qS_eq, qSs_eq, qC_eq] at *); rw [h, he, hs]
theorem s_of {f : Fl} (h : qS C s env S = .ok f env1 S1) (he : env1 = env2) (hs : S1 = S2) : qS C s env S = .ok f env2 S2 := by (try simp only [qE_eq, qEs_eq, qEo_eq, qI_eq, qT_eq, qG_eq, qGs_eq, qS_eq, qSs_eq, qC_eq] at *); rw [h, he, hs]
theorem s_cont : qSs C (.cons .cont ss) env S = .ok .ct env S := by (simp only [qE_eq, qEs_eq, qEo_eq, qI_eq, qT_eq, qG_eq, qGs_eq, qS_eq, qSs_eq, qC_eq] at *); rw [evSs, evS]
theorem s_brk : qSs C (.cons .brk ss) env S = .ok .brk env S := by (simp only [qE_eq, qEs_eq, qEo_eq, qI_eq, qT_eq, qG_eq, qGs_eq, qS_eq, qSs_eq, qC_eq] at *); rw [evSs, evS]
theorem s_ite_tc {A B : ISs} (h1 : qE C e env S = .ok x S1) (h2 : truth S1 x = some true) (h3 : qSs C A env S1 = .ok .ct env1 S2) : qSs C (.cons (.ite e A B) ss) env S = .ok .ct env1 S2 := by
  (simp only [qE_eq, qEs_eq, qEo_eq, qI_eq, qT_eq, qG_eq, qGs_eq, qS_eq, qSs_eq, qC_eq] at *)
  rw [evSs, evS, h1]; simp only [h2]; rw [h3]
theorem s_ite_fc {A B : ISs} (h1 : qE C e env S = .ok x S1) (h2 : truth S1 x = some false) (h3 : qSs C B env S1 = .ok .ct env1 S2) : qSs C (.cons (.ite e A B) ss) env S = .ok .ct env1 S2 := by
  (simp only [qE_eq, qEs_eq, qEo_eq, qI_eq, qT_eq, qG_eq, qGs_eq, qS_eq, qSs_eq, qC_eq] at *)
  rw [evSs, evS, h1]; simp only [h2]; rw [h3]
/-! turns of loops -/
/-- one turn that goes on -/
def Stp (C : CallS) (g : IG) (b : ISs) (d : D) (env : Env) (S : Sto) (R : Env → Sto → Prop) : Prop := ∃ env1 S1 env2 S2, qG C g d env S = some (env1, S1) ∧ (qSs C b env1 S1 = .ok .nx env2 S2 ∨ qSs C b env1 S1 = .ok .ct env2 S2) ∧ R env2 S2
theorem Stp.nx {g : IG} {b : ISs} {R : Env → Sto → Prop} (h1 : qG C g d env S = some (env1, S1)) (h2 : qSs C b env1 S1 = .ok .nx env2 S2) (h3 : R env2 S2) : Stp C g b d env S R := ⟨_, _, _, _, h1, .inl h2, h3⟩
theorem Stp.ct {g : IG} {b : ISs} {R : Env → Sto → Prop} (h1 : qG C g d env S = some (env1, S1)) (h2 : qSs C b env1 S1 = .ok .ct env2 S2) (h3 : R env2 S2) : Stp C g b d env S R := ⟨_, _, _, _, h1, .inr h2, h3⟩
theorem fori {α σ : Type} {v : ItV} {enc : α → D} {Rel : σ → Env → Sto → Prop} {it : II} {b : ISs} (step : σ → α → σ) {s0 : σ} (hi : qI C it env S = .ok v S1) (as : List α) (hl : as.length < 1000000) (hv : ∀ i s env S, Rel s env S → turn v i S = some ((as.map enc)[i]?))
    (hr : Rel s0 env S1) (hs : ∀ a ∈ as, ∀ s env S, Rel s env S → Stp C g b (enc a) env S (Rel (step s a))) :
    ∃ env' S', qS C (.fori g it b) env S = .ok .nx env' S' ∧ Rel (as.foldl step s0) env' S' := by
  unfold Stp at hs
  simp only [qE_eq, qEs_eq, qEo_eq, qI_eq, qT_eq, qG_eq, qGs_eq, qS_eq, qSs_eq, qC_eq] at *
  exact fori_fold hi as hl hv (fun a ha s env S h => hs a ha s env S h) hr
/-- a loop, by what has been walked -/
theorem foriP {α : Type} {v : ItV} {enc : α → D} {Rel : List α → Env → Sto → Prop} {it : II} {b : ISs} (hi : qI C it env S = .ok v S1) (as : List α) (hl : as.length < 1000000) (hv : ∀ i pre env S, Rel pre env S → turn v i S = some ((as.map enc)[i]?))
    (hr : Rel [] env S1) (hs : ∀ pre a post, as = pre ++ a :: post → ∀ env S, Rel pre env S → Stp C g b (enc a) env S (Rel (pre ++ [a]))) :
    ∃ env' S', qS C (.fori g it b) env S = .ok .nx env' S' ∧ Rel as env' S' := by
  unfold Stp at hs
  (try simp only [qE_eq, qEs_eq, qEo_eq, qI_eq, qT_eq, qG_eq, qGs_eq, qS_eq, qSs_eq, qC_eq] at *)
  rw [evS, hi]
  obtain ⟨env', S', h1, h2⟩ := forL_inv (v := v) (ds := as.map enc) (g := fun d env' S' => match evG C g d env' S' with | some (env2, S2) => .ok .nx env2 S2 | none => .bad) (b := fun env' S' => evSs C b env' S') (fun i env S => Rel (as.take i) env S)
    (fun i env S h => hv i _ env S h) (fun i d env S h e => by
      rw [List.getElem?_map, Option.map_eq_some_iff] at e
      obtain ⟨a, ha, rfl⟩ := e
      have hlt := (List.getElem?_eq_some_iff.mp ha).1
      have ea : as[i] = a := (List.getElem?_eq_some_iff.mp ha).2
      obtain ⟨env1, S1, env2, S2, h1, h2, h3⟩ := hs (as.take i) a (as.drop (i + 1)) (by rw [← ea, List.getElem_cons_drop, List.take_append_drop]) env S h
      refine ⟨env1, S1, env2, S2, by rw [h1], h2, ?_⟩
      rw [List.take_succ, ha]
      exact h3) fuel 0 env S1 (by simpa [fuel] using hl) (Nat.zero_le _) (by simpa using hr)
  refine ⟨env', S', h1, ?_⟩
  rw [List.length_map, List.take_length] at h2
  exact h2
/-- one turn, that may end the run -/
def StpE {σ : Type} (C : CallS) (g : IG) (b : ISs) (d : D) (env : Env) (S : Sto) (R : σ → Env → Sto → Prop) (Q : D → Env → Sto → Prop) (r : σ ⊕ D) : Prop := ∃ env1 S1, qG C g d env S = some (env1, S1) ∧ (match r with
      | .inl s' => ∃ env2 S2, (qSs C b env1 S1 = .ok .nx env2 S2 ∨ qSs C b env1 S1 = .ok .ct env2 S2) ∧ R s' env2 S2
      | .inr d => ∃ env2 S2, qSs C b env1 S1 = .ok (.rt d) env2 S2 ∧ Q d env2 S2)
theorem StpE.nx {σ : Type} {g : IG} {b : ISs} {R : σ → Env → Sto → Prop} {Q : D → Env → Sto → Prop} {s : σ} (h1 : qG C g d env S = some (env1, S1)) (h2 : qSs C b env1 S1 = .ok .nx env2 S2) (h3 : R s env2 S2) : StpE C g b d env S R Q (.inl s) := ⟨_, _, h1, _, _, .inl h2, h3⟩
theorem StpE.rt {σ : Type} {g : IG} {b : ISs} {R : σ → Env → Sto → Prop} {Q : D → Env → Sto → Prop} (h1 : qG C g d env S = some (env1, S1)) (h2 : qSs C b env1 S1 = .ok (.rt x) env2 S2) (h3 : Q x env2 S2) : StpE C g b d env S R Q (.inr x) := ⟨_, _, h1, _, _, h2, h3⟩
theorem foriE {α σ : Type} {v : ItV} {enc : α → D} {Rel : σ → Env → Sto → Prop} {Q : D → Env → Sto → Prop} {it : II} {b : ISs} (step : σ → α → σ ⊕ D) {s0 : σ} (hi : qI C it env S = .ok v S1) (as : List α) (hl : as.length < 1000000) (hv : ∀ i s env S, Rel s env S → turn v i S = some ((as.map enc)[i]?))
    (hr : Rel s0 env S1) (hs : ∀ a ∈ as, ∀ s env S, Rel s env S → StpE C g b (enc a) env S Rel Q (step s a)) :
    FoldR Rel Q (qS C (.fori g it b) env S) (foldE step as s0) := by
  unfold StpE at hs
  simp only [qE_eq, qEs_eq, qEo_eq, qI_eq, qT_eq, qG_eq, qGs_eq, qS_eq, qSs_eq, qC_eq] at *
  exact fori_foldE hi as hl hv (fun a ha s env S h => hs a ha s env S h) hr
theorem s_rt (h1 : qS C s env S = .ok (.rt d) env1 S1) : qSs C (.cons s ss) env S = .ok (.rt d) env1 S1 := by (try simp only [qE_eq, qEs_eq, qEo_eq, qI_eq, qT_eq, qG_eq, qGs_eq, qS_eq, qSs_eq, qC_eq] at *); rw [evSs, h1]
theorem ite_t {C : CallS} {e : IE} {A B : ISs} {env : Env} {S S1 : Sto} {x : D} {r : SRes} (h1 : qE C e env S = .ok x S1) (h2 : truth S1 x = some true) (h3 : qSs C A env S1 = r) : qS C (.ite e A B) env S = r := by (simp only [qE_eq, qEs_eq, qEo_eq, qI_eq, qT_eq, qG_eq, qGs_eq, qS_eq, qSs_eq, qC_eq] at *); rw [evS, h1]; simp only [h2]; exact h3
theorem ite_f {C : CallS} {e : IE} {A B : ISs} {env : Env} {S S1 : Sto} {x : D} {r : SRes} (h1 : qE C e env S = .ok x S1) (h2 : truth S1 x = some false) (h3 : qSs C B env S1 = r) : qS C (.ite e A B) env S = r := by (simp only [qE_eq, qEs_eq, qEo_eq, qI_eq, qT_eq, qG_eq, qGs_eq, qS_eq, qSs_eq, qC_eq] at *); rw [evS, h1]; simp only [h2]; exact h3
/-! exceptions -/
variable {X : Ex}
theorem x_asg (h1 : qE C e env S = .exc X S1) : qSs C (.cons (.asg g e) ss) env S = .exc X env S1 := by (try simp only [qE_eq, qEs_eq, qEo_eq, qI_eq, qT_eq, qG_eq, qGs_eq, qS_eq, qSs_eq, qC_eq] at *); rw [evSs, evS, h1]
theorem x_expr (h1 : qE C e env S = .exc X S1) : qSs C (.cons (.expr e) ss) env S = .exc X env S1 := by (try simp only [qE_eq, qEs_eq, qEo_eq, qI_eq, qT_eq, qG_eq, qGs_eq, qS_eq, qSs_eq, qC_eq] at *); rw [evSs, evS, h1]
theorem x_ret (h1 : qE C e env S = .exc X S1) : qSs C (.cons (.ret e) ss) env S = .exc X env S1 := by (try simp only [qE_eq, qEs_eq, qEo_eq, qI_eq, qT_eq, qG_eq, qGs_eq, qS_eq, qSs_eq, qC_eq] at *); rw [evSs, evS, h1]
theorem x_rais {c : Nat} : qSs C (.cons (.rais c) ss) env S = .exc ⟨c, none⟩ env S := by (try simp only [qE_eq, qEs_eq, qEo_eq, qI_eq, qT_eq, qG_eq, qGs_eq, qS_eq, qSs_eq, qC_eq] at *); rw [evSs, evS]
theorem x_ite_t {A B : ISs} (h1 : qE C e env S = .ok x S1) (h2 : truth S1 x = some true) (h3 : qSs C A env S1 = .exc X env1 S2) : qSs C (.cons (.ite e A B) ss) env S = .exc X env1 S2 := by
  (try simp only [qE_eq, qEs_eq, qEo_eq, qI_eq, qT_eq, qG_eq, qGs_eq, qS_eq, qSs_eq, qC_eq] at *)
  rw [evSs, evS, h1]; simp only [h2]; rw [h3]
/-! calls -/
theorem call_rt {P : List Def} {n f : Nat} {df : Def} {args : List D} {v : D} {env : Env} {S S1 : Sto} (hP : P[f]? = some df) (hl : args.length = df.np) (hp : purs args = true)
    (hr : qSs (qC P n) df.body (startE df args) [] = .ok (.rt v) env S1) (hv : pur v = true) : qC P (n + 1) f args S = .ok v S := by
  simp only [qE_eq, qEs_eq, qEo_eq, qI_eq, qT_eq, qG_eq, qGs_eq, qS_eq, qSs_eq, qC_eq] at *
  exact call_pure hP hl hp (by unfold runP; rw [hr]; simp [hv])
theorem call_rv {P : List Def} {n f : Nat} {df : Def} {args : List D} {v v' : D} {env : Env} {S S1 : Sto} (hP : P[f]? = some df) (hl : args.length = df.np) (hp : purs args = true) (hv : pur v = true)
    (hr : qSs (qC P n) df.body (startE df args) [] = .ok (.rt v') env S1) (he : v' = v) : qC P (n + 1) f args S = .ok v S := call_rt hP hl hp (he ▸ hr) hv
theorem t_nil {C : CallS} {env : Env} {S : Sto} : qT C .nil env S = .ok true S := by (try simp only [qE_eq, qEs_eq, qEo_eq, qI_eq, qT_eq, qG_eq, qGs_eq, qS_eq, qSs_eq, qC_eq] at *); rw [evT]
theorem t_cons {C : CallS} {env : Env} {S S1 : Sto} {e : IE} {es : IEs} {d : D} {b : Bool} (h1 : qE C e env S = .ok d S1) (h2 : truth S1 d = some b) : qT C (.cons e es) env S = .ok b S1 := by (try simp only [qE_eq, qEs_eq, qEo_eq, qI_eq, qT_eq, qG_eq, qGs_eq, qS_eq, qSs_eq, qC_eq] at *); rw [evT, h1]; simp only [h2]
/-- a call with one object, that stays as it is -/
theorem call_o {P : List Def} {n f m : Nat} {df : Def} {o : MO} {S X : Sto} {env : Env} (hP : P[f]? = some df) (hl : df.np = 1) (hS : S[m]? = some o) (ho : purO o = true)
    (hr : qSs (qC P n) df.body (startE df [.ref 0]) [o] = .ok .nx env (o :: X)) : qC P (n + 1) f [.ref m] S = .ok .non S := by
  (try simp only [qE_eq, qEs_eq, qEo_eq, qI_eq, qT_eq, qG_eq, qGs_eq, qS_eq, qSs_eq, qC_eq] at *)
  have hq : S.set m o = S := set_same hS
  have hm : argsIn [.ref m] [] = some ([.ref 0], [m]) := rfl
  simp [callSem, hP, callD, hl, hm, objsIn, hS, ho, hr, leave, pur, back, hq]
theorem call_ov {P : List Def} {n f m : Nat} {df : Def} {o : MO} {v v' : D} {S X : Sto} {env : Env} (hP : P[f]? = some df) (hl : df.np = 1) (hS : S[m]? = some o) (ho : purO o = true) (hv : pur v = true)
    (hr : qSs (qC P n) df.body (startE df [.ref 0]) [o] = .ok (.rt v') env (o :: X)) (he : v' = v) : qC P (n + 1) f [.ref m] S = .ok v S := by
  (try simp only [qE_eq, qEs_eq, qEo_eq, qI_eq, qT_eq, qG_eq, qGs_eq, qS_eq, qSs_eq, qC_eq] at *)
  subst he
  have hq : S.set m o = S := set_same hS
  have hm : argsIn [.ref m] [] = some ([.ref 0], [m]) := rfl
  simp [callSem, hP, callD, hl, hm, objsIn, hS, ho, hr, leave, hv, back, hq]
theorem call_x {P : List Def} {n f : Nat} {df : Def} {args : List D} {env : Env} {S S1 : Sto} {c : Nat} (hP : P[f]? = some df) (hl : args.length = df.np) (hp : purs args = true)
    (hr : qSs (qC P n) df.body (startE df args) [] = .exc ⟨c, none⟩ env S1) : qC P (n + 1) f args S = .exc ⟨c, none⟩ S := by
  (try simp only [qE_eq, qEs_eq, qEo_eq, qI_eq, qT_eq, qG_eq, qGs_eq, qS_eq, qSs_eq, qC_eq] at *)
  simp [callSem, hP, callD, hl, argsIn_pure hp, objsIn, hr, leaveX, back, purX]
end



/-! the rest of the tools -/
theorem gen_Q {C : CallS} {v : ItV} {g : IG} {it : II} {ifs : IEs} {e : IE} {vs : List Nat} {stop : Bool} {env : Env} {S S1 : Sto} {ds : List D} (p : D → Bool) (hi : qI C it env S = .ok v S1) (hl : ds.length < 1000000) (hv : ∀ i, turn v i S1 = some ds[i]?)
    (hb : ∀ d ∈ ds, ∃ env1, qG C g d (wipe env vs) S1 = some (env1, S1) ∧ qT C ifs env1 S1 = .ok true S1 ∧ qE C e env1 S1 = .ok (.bl (p d)) S1) :
    qE C (.gen stop vs g it ifs e) env S = .ok (.bl (if ds.any (fun d => p d == stop) then stop else !stop)) S1 := by
  simp only [qE_eq, qEs_eq, qEo_eq, qI_eq, qT_eq, qG_eq, qGs_eq, qS_eq, qSs_eq, qC_eq] at *
  exact gen_pure p hi hl hv hb
section
variable {P : List Def}
theorem call_lQ {n f : Nat} {d : Def} {args : List D} {S S1 : Sto} {env : Env} {j : Nat} {xs : List D} (hP : P[f]? = some d) (hl : args.length = d.np) (hp : purs args = true)
    (hr : qSs (qC P n) d.body (startE d args) [] = .ok (.rt (.ref j)) env S1) (hj : S1[j]? = some (.lst xs)) (hx : purs xs = true) : qC P (n + 1) f args S = .ok (.ref S.length) (S ++ [.lst xs]) := by
  simp only [qE_eq, qEs_eq, qEo_eq, qI_eq, qT_eq, qG_eq, qGs_eq, qS_eq, qSs_eq, qC_eq] at *
  exact call_list hP hl hp hr hj hx
theorem roll_Q {f : Nat} (hP : P[f]? = some ⟨2, 3, Broll⟩) (n : Nat) (k : Int) (hk : 0 < k) (hk2 : k < 1073741824) {q : Nat} {S : Sto} (hS : ∃ o, S[q]? = some o ∧ Dice o) :
    ∃ (r : Nat) (S' : Sto), (r : Int) < k ∧ Kp q S S' ∧ (∃ o, S'[q]? = some o ∧ Dice o) ∧ S'.length = S.length ∧ qC P (n + 1) f [.ref q, .int k] S = .ok (.int r) S' := by
  simp only [qE_eq, qEs_eq, qEo_eq, qI_eq, qT_eq, qG_eq, qGs_eq, qS_eq, qSs_eq, qC_eq] at *
  exact roll_D hP n k hk hk2 hS
theorem law_Q {d f n k : Nat} (hd : P[d]? = some ⟨1, 1, Bdice⟩) (hP : P[f]? = some ⟨2, 4, Brounds d⟩) (hk : 0 < k ∧ k < 1000) (ns : List Int) (v : Nat) (L : ISs) (I : Env → Prop) (env : Env) (S : Sto) (h0 : env[0]? = some (some (.fl (ns.map .int)))) (hI : I env)
    (hb : ∀ q env T, Kp q S T → S.length ≤ q → (∃ o, T[q]? = some o ∧ Dice o) → I env → ∃ env' T', qSs (qC P (n + 2)) L (env.set v (some (.ref q))) T = .ok .nx env' T' ∧ I env' ∧ Kp q T T' ∧ ∃ o, T'[q]? = some o ∧ Dice o) :
    ∃ env' S', qS (qC P (n + 2)) (.fori (.var v) (.val (.call f (.cons (.var 0) (.cons (.int k) .nil)))) L) env S = .ok .nx env' S' ∧ I env' ∧ ∀ j, j < S.length → S'[j]? = S[j]? := by
  simp only [qE_eq, qEs_eq, qEo_eq, qI_eq, qT_eq, qG_eq, qGs_eq, qS_eq, qSs_eq, qC_eq] at *
  exact law_for hd hP hk ns v L I env S h0 hI hb
end
end Ev
end
section
set_option maxRecDepth 100000
/-! Words: lists of bits. -/
namespace Ew
open Ev
def b2n (b : Bool) : Nat := if b then 1 else 0
def eb (b : Bool) : D := .int (b2n b : Nat)
def W (w : List Bool) : D := .tup (w.map eb)
def val : List Bool → Nat
  | [] => 0
  | b :: r => b2n b + 2 * val r
theorem b2n_lt (b : Bool) : b2n b ≤ 1 := by cases b <;> decide
theorem purs_eb : ∀ w : List Bool, purs (w.map eb) = true
  | [] => rfl
  | b :: w => by simp [purs, eb, pur, purs_eb w]
@[simp] theorem pur_W (w : List Bool) : pur (W w) = true := purs_eb w
theorem purs_W : ∀ ws : List (List Bool), purs (ws.map W) = true
  | [] => rfl
  | w :: ws => by simp [purs, purs_W ws]
theorem dbl_pow : ∀ k, (List.range k).foldl (fun s _ => s + s) 1 = 2 ^ k
  | 0 => rfl
  | k + 1 => by rw [List.range_succ, List.foldl_append, dbl_pow k]; simp; omega
theorem val_lt : ∀ w : List Bool, val w < 2 ^ w.length
  | [] => by decide
  | b :: w => by
    have := val_lt w
    have := b2n_lt b
    simp only [val, List.length_cons, Nat.pow_succ]; omega
theorem val_app : ∀ (x y : List Bool), val (x ++ y) = val x + 2 ^ x.length * val y
  | [], y => by simp [val]
  | b :: x, y => by
    simp only [List.cons_append, val, val_app x y, List.length_cons, Nat.pow_succ]
    rw [Nat.mul_add, ← Nat.mul_assoc, Nat.mul_comm 2 (2 ^ x.length)]; omega
theorem val_rep0 : ∀ k, val (List.replicate k false) = 0
  | 0 => rfl
  | k + 1 => by simp [List.replicate_succ, val, val_rep0 k, b2n]
theorem val_rep1 : ∀ k, val (List.replicate k true) + 1 = 2 ^ k
  | 0 => rfl
  | k + 1 => by
    have := val_rep1 k
    simp only [List.replicate_succ, val, b2n, Nat.pow_succ, if_true]; omega
theorem val_inj : ∀ (x y : List Bool), x.length = y.length → val x = val y → x = y
  | [], [], _, _ => rfl
  | a :: x, b :: y, hl, hv => by
    simp only [val] at hv
    have h1 : b2n a = b2n b := by have := b2n_lt a; have := b2n_lt b; omega
    have h2 : val x = val y := by omega
    rw [val_inj x y (by simpa using hl) h2]
    congr 1
    cases a <;> cases b <;> first | rfl | (simp [b2n] at h1)
  | [], _ :: _, hl, _ => by simp at hl
  | _ :: _, [], hl, _ => by simp at hl
def bits : Nat → Nat → List Bool
  | _, 0 => []
  | n, k + 1 => decide (n % 2 = 1) :: bits (n / 2) k
theorem bits_len : ∀ (k n : Nat), (bits n k).length = k
  | 0, _ => rfl
  | k + 1, n => by simp [bits, bits_len k]
theorem bits_val : ∀ (k n : Nat), val (bits n k) = n % 2 ^ k
  | 0, n => by simp [bits, val, Nat.mod_one]
  | k + 1, n => by
    have e : b2n (decide (n % 2 = 1)) = n % 2 := by
      rcases Nat.mod_two_eq_zero_or_one n with h | h <;> simp [b2n, h]
    rw [bits, val, bits_val k, e, Nat.pow_succ, Nat.mul_comm (2 ^ k) 2, Nat.mod_mul]
theorem eq_bits (w : List Bool) (k n : Nat) (h : w.length = k) (hv : val w = n % 2 ^ k) : w = bits n k := val_inj _ _ (by rw [h, bits_len]) (by rw [hv, bits_val])
theorem bits_of_val (w : List Bool) : bits (val w) w.length = w := (eq_bits w _ _ rfl (by rw [Nat.mod_eq_of_lt (val_lt w)])).symm
theorem bits_snoc : ∀ (k n : Nat), bits n (k + 1) = bits n k ++ [decide (n / 2 ^ k % 2 = 1)]
  | 0, n => by simp [bits]
  | k + 1, n => by
    rw [bits, bits_snoc k (n / 2), bits, Nat.div_div_eq_div_mul, Nat.pow_succ, Nat.mul_comm 2]
    rfl
theorem map_rep (k : Int) (b : Bool) : rep k [eb b] = (List.replicate k.toNat b).map eb := by
  unfold rep
  rw [List.map_replicate]
  generalize k.toNat = m
  induction m with
  | zero => rfl
  | succ m ih => rw [List.replicate_succ, List.flatten_cons, ih]; rfl
theorem rep0 (k : Int) : rep k [D.int 0] = (List.replicate k.toNat false).map eb := map_rep k false
theorem rep1 (k : Int) : rep k [D.int 1] = (List.replicate k.toNat true).map eb := map_rep k true
theorem eb_inj {a b : Bool} (h : eb a = eb b) : a = b := by cases a <;> cases b <;> first | rfl | (simp [eb, b2n] at h)
theorem eqvs_eb : ∀ (x y : List Bool), eqvs (x.map eb) (y.map eb) = decide (x = y)
  | [], [] => rfl
  | [], _ :: _ => rfl
  | _ :: _, [] => rfl
  | a :: x, b :: y => by
    simp only [List.map_cons, eqvs, eqvs_eb x y]
    cases a <;> cases b <;> simp [eb, b2n, eqv]
theorem deps_eb : ∀ (x : List Bool), deps (x.map eb) = some 0
  | [] => rfl
  | a :: x => by simp [deps, dep, deps_eb x, eb]
theorem eqD_W (x y : List Bool) (S : Sto) : eqD S (W x) (W y) = some (decide (x = y)) := by
  simp [W, eqD, dep, deps_eb, shal, eqv, eqvs_eb]
theorem ne_W (x y : List Bool) (S : Sto) : cmpD .ne (W x) (W y) S = some (decide (x ≠ y)) := by simp [cmpD, eqD_W]
theorem turn_rng3 (L i : Nat) (S : Sto) : turn (.rng ((L : Int) - 1) (-1) L) i S = some ((((List.range L).map fun k => L - 1 - k).map fun k : Nat => D.int (k : Int))[i]?) := by
  rw [turn_rng]
  congr 2
  rw [List.map_map]
  refine List.map_congr_left fun k hk => ?_
  have := List.mem_range.mp hk
  show D.int ((L : Int) - 1 + (k : Int) * -1) = D.int ((L - 1 - k : Nat) : Int)
  congr 1
  omega
theorem zipIdx_at {α : Type} {y : List α} {pre post : List (α × Nat)} {a : α} {k : Nat} (h : y.zipIdx = pre ++ (a, k) :: post) : k = pre.length ∧ y = pre.map (·.1) ++ a :: post.map (·.1) := by
  constructor
  · have := congrArg (fun l => l[pre.length]?) h
    simp only [List.getElem?_zipIdx, List.getElem?_append_right (Nat.le_refl _), Nat.sub_self, List.getElem?_cons_zero] at this
    cases q : y[pre.length]? with
    | none => rw [q] at this; simp at this
    | some v => rw [q] at this; simp at this; exact this.2.symm
  · have := congrArg (List.map (·.1)) h
    rw [List.zipIdx_map_fst] at this
    simpa using this
theorem cut_drop {α : Type} (xs : List α) (k : Nat) : cut xs (some (k : Int)) none = xs.drop k := by
  have : ¬ ((k : Int) < 0) := by omega
  simp only [cut, sIx, this, if_false, Int.toNat_natCast]
  by_cases h : k ≤ xs.length
  · rw [Nat.min_eq_left h, List.take_of_length_le (by simp)]
  · rw [Nat.min_eq_right (by omega)]; simp; omega
theorem cut_init {α : Type} (xs : List α) : cut xs none (some (-1)) = xs.take (xs.length - 1) := by
  simp only [cut, sIx, List.drop_zero]
  rw [if_pos (by decide)]
  congr 1
  omega
theorem val_take (w : List Bool) (k : Nat) : val (w.take k) = val w % 2 ^ k := by
  by_cases h : k ≤ w.length
  · have e := val_app (w.take k) (w.drop k)
    rw [List.take_append_drop, List.length_take, Nat.min_eq_left h] at e
    have l := val_lt (w.take k)
    rw [List.length_take, Nat.min_eq_left h] at l
    rw [e, Nat.add_mul_mod_self_left, Nat.mod_eq_of_lt l]
  · rw [List.take_of_length_le (by omega), Nat.mod_eq_of_lt]
    exact Nat.lt_of_lt_of_le (val_lt w) (Nat.pow_le_pow_right (by decide) (by omega))
theorem val_drop (w : List Bool) (k : Nat) : val (w.drop k) = val w / 2 ^ k := by
  by_cases h : k ≤ w.length
  · have e := val_app (w.take k) (w.drop k)
    rw [List.take_append_drop, List.length_take, Nat.min_eq_left h] at e
    have l := val_lt (w.take k)
    rw [List.length_take, Nat.min_eq_left h] at l
    rw [e, Nat.add_mul_div_left _ _ (Nat.two_pow_pos k), Nat.div_eq_of_lt l, Nat.zero_add]
  · rw [List.drop_of_length_le (by omega), Nat.div_eq_of_lt]
    · rfl
    · exact Nat.lt_of_lt_of_le (val_lt w) (Nat.pow_le_pow_right (by decide) (by omega))
theorem desc_at {L : Nat} {pre post : List Nat} {k : Nat} (h : (List.range L).map (fun k => L - 1 - k) = pre ++ k :: post) : pre.length < L ∧ k = L - 1 - pre.length := by
  have h3 := congrArg (fun l => l[pre.length]?) h
  have h4 := congrArg List.length h
  simp at h3 h4
  rw [List.getElem?_range (by omega)] at h3
  simp at h3
  exact ⟨by omega, h3.symm⟩
end Ew
end
section
/-! Comprehensions over typed lists. -/
namespace Ev
section
variable {α : Type} {C : CallS} {v : ItV} {enc : α → D}
theorem drop_at {as : List α} {i : Nat} {a : α} (e : as[i]? = some a) : i < as.length ∧ as.drop i = a :: as.drop (i + 1) := by
  have hi := (List.getElem?_eq_some_iff.mp e).1
  refine ⟨hi, ?_⟩
  rw [List.drop_eq_getElem_cons hi]; congr 1
  rw [List.getElem?_eq_getElem hi] at e; exact Option.some.inj e
theorem compL_as {as : List α} {g : D → Sto → Option (Env × Sto)} {t : Env → Sto → TRes} {b : Env → Sto → Option Sto} {S : Sto} {p : α → Bool} {h : α → D} (hv : ∀ i acc, turn v i (S ++ [.lst acc]) = some ((as.map enc)[i]?))
    (hb : ∀ a ∈ as, ∀ acc, ∃ env1, g (enc a) (S ++ [.lst acc]) = some (env1, S ++ [.lst acc]) ∧ t env1 (S ++ [.lst acc]) = .ok (p a) (S ++ [.lst acc]) ∧ (p a = true → b env1 (S ++ [.lst acc]) = addL S.length (h a) (S ++ [.lst acc]))) :
    ∀ (n i : Nat) (acc : List D), as.length - i < n → acc.length + (as.length - i) ≤ big → compL v g t b n i (S ++ [.lst acc]) = some (S ++ [.lst (acc ++ ((as.drop i).filter p).map h)])
  | 0, _, _, hn, _ => by omega
  | n + 1, i, acc, hn, hz => by
    unfold compL
    rw [hv, List.getElem?_map]
    cases e : as[i]? with
    | none =>
      have : as.length ≤ i := List.getElem?_eq_none_iff.mp e
      rw [List.drop_of_length_le this]; simp
    | some a =>
      obtain ⟨hi, hd⟩ := drop_at e
      obtain ⟨env1, h1, h2, h3⟩ := hb a (List.mem_of_getElem? e) acc
      simp only [Option.map_some, h1, h2]
      cases hp : p a with
      | false =>
        simp only
        rw [compL_as hv hb n (i + 1) acc (by omega) (by omega), hd, List.filter_cons_of_neg (by simp [hp])]
      | true =>
        simp only
        rw [h3 hp, addL_new _ _ _ (by omega)]
        simp only
        rw [compL_as hv hb n (i + 1) (acc ++ [h a]) (by omega) (by simp; omega), hd, List.filter_cons_of_pos (by simp [hp])]
        simp
theorem compL_ag {as : List α} {g : D → Sto → Option (Env × Sto)} {t : Env → Sto → TRes} {b : Env → Sto → Option Sto} {S : Sto} {p : α → Bool} {h : α → D}
    (hv : ∀ i acc G, turn v i (S ++ .lst acc :: G) = some ((as.map enc)[i]?))
    (hb : ∀ a ∈ as, ∀ acc G, ∃ env1 G1, g (enc a) (S ++ .lst acc :: G) = some (env1, S ++ .lst acc :: G) ∧ t env1 (S ++ .lst acc :: G) = .ok (p a) (S ++ .lst acc :: G1) ∧ (p a = true → ∃ G2, b env1 (S ++ .lst acc :: G1) = addL S.length (h a) (S ++ .lst acc :: G2))) :
    ∀ (n i : Nat) (acc : List D) (G : Sto), as.length - i < n → acc.length + (as.length - i) ≤ big → ∃ G', compL v g t b n i (S ++ .lst acc :: G) = some (S ++ .lst (acc ++ ((as.drop i).filter p).map h) :: G')
  | 0, _, _, _, hn, _ => by omega
  | n + 1, i, acc, G, hn, hz => by
    unfold compL
    rw [hv, List.getElem?_map]
    cases e : as[i]? with
    | none =>
      have : as.length ≤ i := List.getElem?_eq_none_iff.mp e
      rw [List.drop_of_length_le this]; exact ⟨G, by simp⟩
    | some a =>
      obtain ⟨hi, hd⟩ := drop_at e
      obtain ⟨env1, G1, h1, h2, h3⟩ := hb a (List.mem_of_getElem? e) acc G
      simp only [Option.map_some, h1, h2]
      cases hp : p a with
      | false =>
        simp only
        rw [hd, List.filter_cons_of_neg (by simp [hp])]
        exact compL_ag hv hb n (i + 1) acc G1 (by omega) (by omega)
      | true =>
        obtain ⟨G2, h4⟩ := h3 hp
        have ha : addL S.length (h a) (S ++ .lst acc :: G2) = some (S ++ .lst (acc ++ [h a]) :: G2) := by
          unfold addL
          rw [List.getElem?_append_right (Nat.le_refl _)]
          simp only [Nat.sub_self, List.getElem?_cons_zero]
          rw [if_pos (by omega), List.set_append_right _ _ (Nat.le_refl _)]
          simp
        simp only
        rw [h4, ha]
        simp only
        obtain ⟨G', h5⟩ := compL_ag hv hb n (i + 1) (acc ++ [h a]) G2 (by omega) (by simp; omega)
        refine ⟨G', ?_⟩
        rw [h5, hd, List.filter_cons_of_pos (by simp [hp])]
        simp
/-- a list comprehension that leaves nothing but its list -/
theorem lc_Q {vs : List Nat} {g : IG} {it : II} {ifs : IEs} {e : IE} {env : Env} {S S1 : Sto} (as : List α) (p : α → Bool) (h : α → D) (hi : qI C it env S = .ok v S1) (hl : as.length < 1000000) (hv : ∀ i X, turn v i (S1 ++ X) = some ((as.map enc)[i]?))
    (hb : ∀ a ∈ as, ∀ X, ∃ env1, qG C g (enc a) (wipe env vs) (S1 ++ X) = some (env1, S1 ++ X) ∧ qT C ifs env1 (S1 ++ X) = .ok (p a) (S1 ++ X) ∧ (p a = true → qE C e env1 (S1 ++ X) = .ok (h a) (S1 ++ X))) :
    qE C (.lc vs g it ifs e) env S = .ok (.ref S1.length) (S1 ++ [.lst ((as.filter p).map h)]) := by
  simp only [qE_eq, qEs_eq, qEo_eq, qI_eq, qT_eq, qG_eq, qGs_eq, qS_eq, qSs_eq, qC_eq] at *
  refine evE_lc hi ?_
  have k := compL_as (v := v) (as := as) (enc := enc) (S := S1) (p := p) (h := h) (g := fun d S' => evG C g d (wipe env vs) S') (t := fun env1 S' => evT C ifs env1 S') (b := lcB C e S1.length) (fun i acc => hv i _)
    (fun a ha acc => by
      obtain ⟨env1, h1, h2, h3⟩ := hb a ha [.lst acc]
      exact ⟨env1, h1, h2, fun q => by unfold lcB; rw [h3 q]⟩)
    fuel 0 [] (by simpa [fuel] using hl) (by simp [big]; omega)
  simpa using k
/-- with all that is kept -/
theorem lc_all {vs : List Nat} {g : IG} {it : II} {e : IE} {env : Env} {S S1 : Sto} (as : List α) (h : α → D) (hi : qI C it env S = .ok v S1) (hl : as.length < 1000000) (hv : ∀ i X, turn v i (S1 ++ X) = some ((as.map enc)[i]?))
    (hb : ∀ a ∈ as, ∀ X, ∃ env1, qG C g (enc a) (wipe env vs) (S1 ++ X) = some (env1, S1 ++ X) ∧ qE C e env1 (S1 ++ X) = .ok (h a) (S1 ++ X)) :
    qE C (.lc vs g it .nil e) env S = .ok (.ref S1.length) (S1 ++ [.lst (as.map h)]) := by
  have := lc_Q (C := C) (vs := vs) (g := g) (it := it) (ifs := .nil) (e := e) (env := env) (S := S) (S1 := S1) (enc := enc) as (fun _ => true) h hi hl hv (fun a ha X => by
    obtain ⟨env1, h1, h2⟩ := hb a ha X
    exact ⟨env1, h1, t_nil, fun _ => h2⟩)
  rw [List.filter_eq_self.mpr (fun _ _ => rfl)] at this
  exact this
/-- a list comprehension whose tests, values leave things behind -/
theorem lc_G {vs : List Nat} {g : IG} {it : II} {ifs : IEs} {e : IE} {env : Env} {S S1 : Sto} (as : List α) (p : α → Bool) (h : α → D) (hi : qI C it env S = .ok v S1) (hl : as.length < 1000000) (hv : ∀ i X, turn v i (S1 ++ X) = some ((as.map enc)[i]?))
    (hb : ∀ a ∈ as, ∀ X : Sto, ∃ env1 Y, qG C g (enc a) (wipe env vs) (S1 ++ X) = some (env1, S1 ++ X) ∧ qT C ifs env1 (S1 ++ X) = .ok (p a) (S1 ++ X ++ Y) ∧ (p a = true → ∃ Z, qE C e env1 (S1 ++ X ++ Y) = .ok (h a) (S1 ++ X ++ Y ++ Z))) :
    ∃ G, qE C (.lc vs g it ifs e) env S = .ok (.ref S1.length) (S1 ++ .lst ((as.filter p).map h) :: G) := by
  simp only [qE_eq, qEs_eq, qEo_eq, qI_eq, qT_eq, qG_eq, qGs_eq, qS_eq, qSs_eq, qC_eq] at *
  obtain ⟨G, k⟩ := compL_ag (v := v) (as := as) (enc := enc) (S := S1) (p := p) (h := h) (g := fun d S' => evG C g d (wipe env vs) S') (t := fun env1 S' => evT C ifs env1 S') (b := lcB C e S1.length) (fun i acc G => hv i _)
    (fun a ha acc G => by
      obtain ⟨env1, Y, h1, h2, h3⟩ := hb a ha (.lst acc :: G)
      refine ⟨env1, G ++ Y, h1, by rw [h2]; simp, fun q => ?_⟩
      obtain ⟨Z, h4⟩ := h3 q
      refine ⟨G ++ Y ++ Z, ?_⟩
      unfold lcB
      rw [show S1 ++ MO.lst acc :: (G ++ Y) = S1 ++ MO.lst acc :: G ++ Y by simp, h4]
      simp)
    fuel 0 [] [] (by simpa [fuel] using hl) (by simp [big]; omega)
  exact ⟨G, evE_lc hi (by simpa using k)⟩
/-- a list comprehension that changes the dice at q -/
theorem compL_dice {as : List α} {g : D → Sto → Option (Env × Sto)} {t : Env → Sto → TRes} {b : Env → Sto → Option Sto} {q m : Nat} {Good : D → Prop} (hqm : q ≠ m) (hv : ∀ i T, turn v i T = some ((as.map enc)[i]?))
    (hb : ∀ a ∈ as, ∀ T acc, T[m]? = some (.lst acc) → (∃ o, T[q]? = some o ∧ Dice o) → ∃ env1 d T', g (enc a) T = some (env1, T) ∧ t env1 T = .ok true T ∧ Good d ∧ Kp q T T' ∧ (∃ o, T'[q]? = some o ∧ Dice o) ∧ b env1 T = addL m d T') :
    ∀ (n i : Nat) (acc : List D) (T : Sto), as.length - i < n → acc.length + (as.length - i) ≤ big → T[m]? = some (.lst acc) → (∃ o, T[q]? = some o ∧ Dice o) → ∃ (ds : List D) (T' : Sto), ds.length = as.length - i ∧ (∀ d ∈ ds, Good d) ∧
      compL v g t b n i T = some T' ∧ T'[m]? = some (.lst (acc ++ ds)) ∧ T.length ≤ T'.length ∧ (∀ j, j < T.length → j ≠ q → j ≠ m → T'[j]? = T[j]?) ∧ ∃ o, T'[q]? = some o ∧ Dice o
  | 0, _, _, _, hn, _, _, _ => by omega
  | n + 1, i, acc, T, hn, hz, hm, hd => by
    unfold compL
    rw [hv, List.getElem?_map]
    cases e : as[i]? with
    | none =>
      have : as.length ≤ i := List.getElem?_eq_none_iff.mp e
      exact ⟨[], T, by simp; omega, by simp, rfl, by simpa using hm, Nat.le_refl _, fun _ _ _ _ => rfl, hd⟩
    | some a =>
      obtain ⟨hi, _⟩ := drop_at e
      obtain ⟨env1, d, T1, h1, h2, h3, h4, h5, h6⟩ := hb a (List.mem_of_getElem? e) T acc hm hd
      have hm1 := h4.get hm (Ne.symm hqm)
      have ha : addL m d T1 = some (T1.set m (.lst (acc ++ [d]))) := by unfold addL; rw [hm1]; simp only; rw [if_pos (by omega)]
      have hm2 : (T1.set m (.lst (acc ++ [d])))[m]? = some (.lst (acc ++ [d])) := List.getElem?_set_self (lt_of_some hm1)
      have hd2 : ∃ o, (T1.set m (.lst (acc ++ [d])))[q]? = some o ∧ Dice o := by rw [List.getElem?_set_ne (Ne.symm hqm)]; exact h5
      obtain ⟨ds, T', k1, k2, k3, k4, k5, k6, k7⟩ := compL_dice hqm hv hb n (i + 1) (acc ++ [d]) (T1.set m (.lst (acc ++ [d]))) (by omega) (by simp; omega) hm2 hd2
      refine ⟨d :: ds, T', by simp [k1]; omega, fun x hx => ?_, ?_, by simpa using k4, ?_, fun j hj n1 n2 => ?_, k7⟩
      · rcases List.mem_cons.mp hx with rfl | hx
        · exact h3
        · exact k2 x hx
      · simp only [Option.map_some, h1, h2, h6, ha]; exact k3
      · rw [List.length_set] at k5; exact Nat.le_trans h4.len k5
      · rw [k6 j (by rw [List.length_set]; exact Nat.lt_of_lt_of_le hj h4.len) n1 n2, List.getElem?_set_ne (Ne.symm n2)]; exact h4.keep j hj n1
/-- a list comprehension whose values come from rolls of the dice at q -/
theorem lc_dice {vs : List Nat} {g : IG} {it : II} {e : IE} {env : Env} {S S1 : Sto} {q : Nat} {Good : D → Prop} (as : List α) (hi : qI C it env S = .ok v S1) (hl : as.length < 1000000) (hv : ∀ i T, turn v i T = some ((as.map enc)[i]?)) (hd : ∃ o, S1[q]? = some o ∧ Dice o)
    (hb : ∀ a ∈ as, ∀ T, (∃ o, T[q]? = some o ∧ Dice o) → ∃ env1 d T', qG C g (enc a) (wipe env vs) T = some (env1, T) ∧ qE C e env1 T = .ok d T' ∧ Good d ∧ Kp q T T' ∧ ∃ o, T'[q]? = some o ∧ Dice o) :
    ∃ (ds : List D) (T' : Sto), ds.length = as.length ∧ (∀ d ∈ ds, Good d) ∧ qE C (.lc vs g it .nil e) env S = .ok (.ref S1.length) T' ∧ T'[S1.length]? = some (.lst ds) ∧ Kp q S1 T' ∧ ∃ o, T'[q]? = some o ∧ Dice o := by
  have hq : q < S1.length := by obtain ⟨o, h, _⟩ := hd; exact lt_of_some h
  simp only [qE_eq, qEs_eq, qEo_eq, qI_eq, qT_eq, qG_eq, qGs_eq, qS_eq, qSs_eq, qC_eq] at *
  obtain ⟨ds, T', k1, k2, k3, k4, k5, k6, k7⟩ := compL_dice (v := v) (as := as) (enc := enc) (q := q) (m := S1.length) (Good := Good) (g := fun d S' => evG C g d (wipe env vs) S') (t := fun env1 S' => evT C .nil env1 S') (b := lcB C e S1.length) (by omega) hv
    (fun a ha T acc hm hT => by
      obtain ⟨env1, d, T', h1, h2, h3, h4, h5⟩ := hb a ha T hT
      exact ⟨env1, d, T', h1, by rw [evT], h3, h4, h5, by unfold lcB; rw [h2]⟩)
    fuel 0 [] (S1 ++ [.lst []]) (by simpa [fuel] using hl) (by simp [big]; omega) (List.getElem?_concat_length ..) (by rw [List.getElem?_append_left hq]; exact hd)
  refine ⟨ds, T', by simpa using k1, k2, evE_lc hi k3, by simpa using k4, ⟨by simp at k5; omega, fun j hj hn => ?_⟩, k7⟩
  rw [k6 j (by simp; omega) hn (by omega), List.getElem?_append_left hj]
end
end Ev
end
section
set_option maxRecDepth 100000
namespace K54
open Ev Ew
local macro_rules | `(tactic| walk_at "own ev_call") => `(tactic| focus (apply_assumption <;> first | assumption | omega))
local macro_rules | `(tactic| walk_at "own ev_call") => `(tactic| assumption)
local macro_rules | `(tactic| walk_at "own ev_get") => `(tactic| assumption)
local macro_rules | `(tactic| walk_at "own ev_get") => `(tactic| rfl)
local macro_rules | `(tactic| walk_at "own ev_op") => `(tactic| (apply ix_last; walk_at "own ev_get"))
local macro_rules | `(tactic| walk_at "own ev_op") => `(tactic| (apply ix_ref; walk_at "own ev_get"; walk_at "own ev_side"; walk_at "own ev_get"))
local macro_rules | `(tactic| walk_at "own ev_op") => `(tactic| (apply ix_tup; walk_at "own ev_side"; walk_at "own ev_get"))
local macro_rules | `(tactic| walk_at "own ev_op") => `(tactic| (apply op_append; walk_at "own ev_get"; walk_at "own ev_side"))
local macro_rules | `(tactic| walk_at "own ev_op") => `(tactic| (apply set_lst; walk_at "own ev_get"; walk_at "own ev_side"; walk_at "own ev_side"))
local macro_rules | `(tactic| walk_at "own ev_op") => `(tactic| (apply op_addT; walk_at "own ev_side"))
local macro_rules | `(tactic| walk_at "own ev_op") => `(tactic| (apply op_mulR; walk_at "own ev_side"))
local macro_rules | `(tactic| walk_at "own ev_op") => `(tactic| (apply op_mulL; walk_at "own ev_side"))
local macro_rules | `(tactic| walk_at "own ev_op") => `(tactic| (apply op_mulT; walk_at "own ev_side"))
local macro_rules | `(tactic| walk_at "own ev_op") => `(tactic| (apply op_mulF; walk_at "own ev_get"; walk_at "own ev_side"))
local macro_rules | `(tactic| walk_at "own ev_op") => `(tactic| (apply op_fdiv; walk_at "own ev_side"; walk_at "own ev_side"))
local macro_rules | `(tactic| walk_at "own ev_op") => `(tactic| (apply op_mod; walk_at "own ev_side"))
local macro_rules | `(tactic| walk_at "own ev_op") => `(tactic| rfl)
local macro_rules | `(tactic| walk_at "own ev_test") => `(tactic| focus (simp [truth, *]; done))
local macro_rules | `(tactic| walk_at "own ev_test") => `(tactic| rfl)
local macro_rules | `(tactic| walk_at "own ev_side") => `(tactic| focus first | decide | (simp [big, word]; done) | omega | (simp [big]; omega) | (simp [word]; omega) | (simp [few]; omega) | (simp [small]; omega))
local macro_rules | `(tactic| walk_at "own ev_stm") => `(tactic| assumption)
local macro_rules | `(tactic| walk_at "own ev_e") => `(tactic| first
  | exact r_var rfl
  | exact r_int
  | exact r_bl
  | exact r_str
  | exact r_non
  | (apply r_bin; walk_at "own ev_e"; walk_at "own ev_e"; walk_at "own ev_op")
  | (apply r_neg; walk_at "own ev_e")
  | (apply r_not; walk_at "own ev_e"; walk_at "own ev_test")
  | (apply r_cmp; walk_at "own ev_e"; walk_at "own ev_e"; walk_at "own ev_op")
  | (apply r_cmp2; walk_at "own ev_e"; walk_at "own ev_e"; walk_at "own ev_op"; walk_at "own ev_e"; walk_at "own ev_op")
  | (apply r_and_f; walk_at "own ev_e"; walk_at "own ev_test")
  | (apply r_and_t; walk_at "own ev_e"; walk_at "own ev_test"; walk_at "own ev_e")
  | (apply r_and; walk_at "own ev_e"; walk_at "own ev_e")
  | (apply r_or_t; walk_at "own ev_e"; walk_at "own ev_test")
  | (apply r_or_f; walk_at "own ev_e"; walk_at "own ev_test"; walk_at "own ev_e")
  | (apply r_or; walk_at "own ev_e"; walk_at "own ev_e")
  | (apply r_ife_t; walk_at "own ev_e"; walk_at "own ev_test"; walk_at "own ev_e")
  | (apply r_ife_f; walk_at "own ev_e"; walk_at "own ev_test"; walk_at "own ev_e")
  | (apply r_tup; walk_at "own ev_es"; walk_at "own ev_side")
  | (apply r_lst; walk_at "own ev_es"; walk_at "own ev_side")
  | (apply r_ix; walk_at "own ev_e"; walk_at "own ev_e"; walk_at "own ev_op")
  | (apply r_sl; walk_at "own ev_e"; walk_at "own ev_eo"; walk_at "own ev_eo"; walk_at "own ev_op")
  | (apply r_call; walk_at "own ev_es"; walk_at "own ev_call")
  | (apply r_bi; walk_at "own ev_es"; walk_at "own ev_op")
  | (apply r_me; walk_at "own ev_e"; walk_at "own ev_op"; walk_at "own ev_es"; walk_at "own ev_op")
  | (apply r_isi; walk_at "own ev_e"; walk_at "own ev_op")
  | (apply r_told; walk_at "own ev_e")
  | walk_at "own ev_stm")
local macro_rules | `(tactic| walk_at "own ev_es") => `(tactic| first | exact r_nil | (apply r_cons; walk_at "own ev_e"; walk_at "own ev_es"))
local macro_rules | `(tactic| walk_at "own ev_eo") => `(tactic| first | exact r_none | (apply r_some; walk_at "own ev_e"))
local macro_rules | `(tactic| walk_at "own ev_g") => `(tactic| first | exact g_var | exact g_nil | (apply g_tup; walk_at "own ev_g") | (apply g_cons; walk_at "own ev_g"; walk_at "own ev_g") | (apply g_sub; walk_at "own ev_e"; walk_at "own ev_e"; walk_at "own ev_op"))
local macro_rules | `(tactic| walk_at "own ev_s") => `(tactic| first
  | (apply s_asg; walk_at "own ev_e"; walk_at "own ev_g")
  | (apply s_par; walk_at "own ev_es"; rfl)
  | (apply s_aug; rfl; walk_at "own ev_e"; walk_at "own ev_op")
  | (apply s_expr; walk_at "own ev_e")
  | walk_at "own ev_stm")
local macro_rules | `(tactic| walk_at "own ev_ss") => `(tactic| first
  | exact s_nil
  | (apply s_ret; walk_at "own ev_e")
  | exact x_rais
  | (apply s_ite_tr; walk_at "own ev_e"; walk_at "own ev_test"; walk_at "own ev_ss")
  | (apply s_ite_t; walk_at "own ev_e"; walk_at "own ev_test"; walk_at "own ev_ss"; walk_at "own ev_ss")
  | (apply s_ite_fr; walk_at "own ev_e"; walk_at "own ev_test"; walk_at "own ev_ss")
  | (apply s_ite_f; walk_at "own ev_e"; walk_at "own ev_test"; walk_at "own ev_ss"; walk_at "own ev_ss")
  | (apply x_ite_t; walk_at "own ev_e"; walk_at "own ev_test"; walk_at "own ev_ss")
  | (apply s_cons; walk_at "own ev_s"; walk_at "own ev_ss"))
local macro_rules | `(tactic| walk_at "own ev") => `(tactic| first | walk_at "own ev_ss" | walk_at "own ev_s" | walk_at "own ev_e" | walk_at "own ev_es")
variable (n : Nat)
theorem twos_ev (k : Nat) (hk : k < 1000) (S : Sto) : qC P (n + 1) 0 [.int (k : Nat)] S = .ok (.int ((2 ^ k : Nat) : Int)) S := by
  have hi : qI (qC P n) (.rng1 (.var 0)) [some (.int (k : Nat)), some (.int 1), none] [] = .ok (.rng 0 1 k) [] := by
    apply i_rng1; walk_at "own ev_e"; walk_at "own ev_side"; rfl
  obtain ⟨env', S', h1, rfl, y, rfl⟩ := fori (g := .var 2) (b := Btwos_L0) (Rel := fun (s : Nat) env S => S = [] ∧ ∃ y, env = [some (.int (k : Nat)), some (.int (s : Nat)), y]) (enc := fun k : Nat => D.int (k : Nat)) (fun s _ => s + s) (s0 := 1) hi (List.range k) (by simp; omega)
    (fun i s env S _ => turn_rng1 k i S) ⟨rfl, none, rfl⟩ fun a _ s env S ⟨e1, y, e2⟩ => by
      subst e1 e2
      apply Stp.nx g_var
      · unfold Btwos_L0
        walk_at "own ev"
      · exact ⟨rfl, some (.int (a : Nat)), by simp⟩
  rw [dbl_pow] at h1
  apply call_rv (df := ⟨1, 3, Btwos⟩) rfl rfl rfl rfl
  · show qSs _ Btwos [some (.int (k : Nat)), none, none] [] = _
    unfold Btwos
    walk_at "own ev"
  · rfl
/-! goes_on -/
def dotM (t f : List Bool) : Nat → Bool
  | 0 => false
  | j + 1 => xor (dotM t f j) (t.getD j false && f.getD (f.length - 1 - j) false)
def goesM (t : List Bool) : Nat → List Bool → List Bool
  | 0, f => f
  | k + 1, f => goesM t k f ++ [dotM t (goesM t k f) t.length]
theorem goesM_len (t : List Bool) (f : List Bool) : ∀ k, (goesM t k f).length = f.length + k
  | 0 => rfl
  | k + 1 => by simp [goesM, goesM_len t f k]; omega
theorem range_at {L : Nat} {pre post : List Nat} {a : Nat} (ep : List.range L = pre ++ a :: post) : a = pre.length ∧ pre.length < L := by
  have h3 := congrArg (fun l => l[pre.length]?) ep
  have h4 := congrArg List.length ep
  simp at h3 h4
  rw [List.getElem?_range (by omega)] at h3
  simp at h3
  omega
theorem get_eb {w : List Bool} {i : Int} {j : Nat} (e : i.toNat = j) (h : j < w.length) : (w.map eb)[i.toNat]? = some (eb (w.getD j false)) := by
  rw [e, List.getElem?_map, List.getElem?_eq_getElem h, List.getD_eq_getElem?_getD, List.getElem?_eq_getElem h]; rfl
theorem xor_mod (a b c : Bool) : ((b2n a : Nat) + (b2n b : Nat) * (b2n c : Nat) : Int) % 2 = (b2n (xor a (b && c)) : Nat) := by cases a <;> cases b <;> cases c <;> rfl
theorem goes_ev (f t : List Bool) (many : Nat) (hm : many < 1000) (hf : f.length < 1000) (ht : t.length ≤ f.length) (S : Sto) : qC P (n + 1) 2 [W f, .int (t.length : Nat), W t, .int (many : Nat)] S = .ok (W (goesM t many f)) S := by
  have hi : qI (qC P n) (.rng1 (.var 3)) [some (W f), some (.int (t.length : Nat)), some (W t), some (.int (many : Nat)), some (.ref 0), none, none, none] [.lst (f.map eb)] = .ok (.rng 0 1 many) [.lst (f.map eb)] := by
    apply i_rng1; walk_at "own ev_e"; walk_at "own ev_side"; rfl
  obtain ⟨env', S', h1, rfl, y5, y6, y7, rfl⟩ := foriP (g := .var 5) (b := Bgoes_on_L1) (Rel := fun pre env S => S = [.lst ((goesM t pre.length f).map eb)] ∧ ∃ y5 y6 y7, env = [some (W f), some (.int (t.length : Nat)), some (W t), some (.int (many : Nat)), some (.ref 0), y5, y6, y7]) (enc := fun k : Nat => D.int (k : Nat)) hi (List.range many) (by simp; omega)
    (fun i s env S _ => turn_rng1 many i S) ⟨rfl, none, none, none, rfl⟩ (fun pre a post ep env S ⟨e1, y5, y6, y7, e2⟩ => by
      subst e1 e2
      obtain ⟨rfl, hlt⟩ := range_at ep
      have hg := goesM_len t f pre.length
      generalize hG : goesM t pre.length f = G at *
      obtain ⟨env2, S2, k1, rfl, z7, rfl⟩ := foriP (C := qC P n) (g := .var 7) (b := Bgoes_on_L0) (it := .rng1 (.var 1)) (v := .rng 0 1 t.length) (env := [some (W f), some (.int (t.length : Nat)), some (W t), some (.int (many : Nat)), some (.ref 0), some (.int (pre.length : Nat)), some (.int 0), y7]) (S := [.lst (G.map eb)]) (S1 := [.lst (G.map eb)])
        (Rel := fun qr env S => S = [.lst (G.map eb)] ∧ ∃ y7, env = [some (W f), some (.int (t.length : Nat)), some (W t), some (.int (many : Nat)), some (.ref 0), some (.int (pre.length : Nat)), some (.int (b2n (dotM t G qr.length) : Nat)), y7]) (enc := fun k : Nat => D.int (k : Nat)) (by apply i_rng1; walk_at "own ev_e"; walk_at "own ev_side"; rfl) (List.range t.length) (by simp; omega)
        (fun i s env S _ => turn_rng1 _ i S) ⟨rfl, y7, rfl⟩ (fun qr a post2 eq env S ⟨e1, y7, e2⟩ => by
          subst e1 e2
          obtain ⟨rfl, hlt2⟩ := range_at eq
          have g1 : (t.map eb)[((qr.length : Nat) : Int).toNat]? = some (eb (t.getD qr.length false)) := get_eb (by simp) hlt2
          have g2 : (G.map eb)[(((G.map eb).length : Int) - 1 - ((qr.length : Nat) : Int)).toNat]? = some (eb (G.getD (G.length - 1 - qr.length) false)) := get_eb (by simp) (by omega)
          apply Stp.nx g_var
          · unfold Bgoes_on_L0
            apply s_cons
            · apply s_asg
              · apply r_bin
                · apply r_bin
                  · walk_at "own ev"
                  · apply r_bin
                    · apply r_ix
                      · walk_at "own ev"
                      · walk_at "own ev"
                      · exact ix_tup (by omega) g1
                    · apply r_ix
                      · walk_at "own ev"
                      · walk_at "own ev"
                      · exact ix_ref rfl (by simp; omega) g2
                    · apply op_mulR
                      cases G.getD (G.length - 1 - qr.length) false <;> rfl
                  · rfl
                · walk_at "own ev"
                · walk_at "own ev_op"
              · walk_at "own ev_g"
            · walk_at "own ev"
          · refine ⟨rfl, some (.int (qr.length : Nat)), ?_⟩
            rw [List.length_append, List.length_singleton]
            simp only [List.set_cons_succ, List.set_cons_zero, xor_mod]
            rfl)
      rw [List.length_range] at k1
      apply Stp.nx g_var
      · unfold Bgoes_on_L1
        walk_at "own ev"
      · refine ⟨?_, some (.int (pre.length : Nat)), _, _, rfl⟩
        rw [List.length_append, List.length_singleton, goesM, hG]
        simp [eb])
  rw [List.length_range] at h1
  apply call_rv (df := ⟨4, 8, Bgoes_on⟩) rfl rfl (by simp [purs, pur]) (by simp)
  · show qSs _ Bgoes_on [some (W f), some (.int (t.length : Nat)), some (W t), some (.int (many : Nat)), none, none, none, none] [] = _
    unfold Bgoes_on
    walk_at "own ev"
  · rfl
end K54
end
section
set_option maxRecDepth 100000
namespace K54
open Ev Ew
local macro_rules | `(tactic| walk_at "own ev_call") => `(tactic| focus (apply_assumption <;> first | assumption | omega))
local macro_rules | `(tactic| walk_at "own ev_call") => `(tactic| assumption)
local macro_rules | `(tactic| walk_at "own ev_get") => `(tactic| assumption)
local macro_rules | `(tactic| walk_at "own ev_get") => `(tactic| rfl)
local macro_rules | `(tactic| walk_at "own ev_op") => `(tactic| (apply ix_last; walk_at "own ev_get"))
local macro_rules | `(tactic| walk_at "own ev_op") => `(tactic| (apply ix_ref; walk_at "own ev_get"; walk_at "own ev_side"; walk_at "own ev_get"))
local macro_rules | `(tactic| walk_at "own ev_op") => `(tactic| (apply ix_tup; walk_at "own ev_side"; walk_at "own ev_get"))
local macro_rules | `(tactic| walk_at "own ev_op") => `(tactic| (apply op_append; walk_at "own ev_get"; walk_at "own ev_side"))
local macro_rules | `(tactic| walk_at "own ev_op") => `(tactic| (apply set_lst; walk_at "own ev_get"; walk_at "own ev_side"; walk_at "own ev_side"))
local macro_rules | `(tactic| walk_at "own ev_op") => `(tactic| (apply op_addT; walk_at "own ev_side"))
local macro_rules | `(tactic| walk_at "own ev_op") => `(tactic| (apply op_mulR; walk_at "own ev_side"))
local macro_rules | `(tactic| walk_at "own ev_op") => `(tactic| (apply op_mulL; walk_at "own ev_side"))
local macro_rules | `(tactic| walk_at "own ev_op") => `(tactic| (apply op_mulT; walk_at "own ev_side"))
local macro_rules | `(tactic| walk_at "own ev_op") => `(tactic| (apply op_mulF; walk_at "own ev_get"; walk_at "own ev_side"))
local macro_rules | `(tactic| walk_at "own ev_op") => `(tactic| (apply op_fdiv; walk_at "own ev_side"; walk_at "own ev_side"))
local macro_rules | `(tactic| walk_at "own ev_op") => `(tactic| (apply op_mod; walk_at "own ev_side"))
local macro_rules | `(tactic| walk_at "own ev_op") => `(tactic| rfl)
local macro_rules | `(tactic| walk_at "own ev_test") => `(tactic| focus (simp [truth, *]; done))
local macro_rules | `(tactic| walk_at "own ev_test") => `(tactic| rfl)
local macro_rules | `(tactic| walk_at "own ev_side") => `(tactic| focus first | decide | (simp [big, word]; done) | omega | (simp [big]; omega) | (simp [word]; omega) | (simp [few]; omega) | (simp [small]; omega))
local macro_rules | `(tactic| walk_at "own ev_stm") => `(tactic| assumption)
local macro_rules | `(tactic| walk_at "own ev_e") => `(tactic| first
  | exact r_var rfl
  | exact r_int
  | exact r_bl
  | exact r_str
  | exact r_non
  | (apply r_bin; walk_at "own ev_e"; walk_at "own ev_e"; walk_at "own ev_op")
  | (apply r_neg; walk_at "own ev_e")
  | (apply r_not; walk_at "own ev_e"; walk_at "own ev_test")
  | (apply r_cmp; walk_at "own ev_e"; walk_at "own ev_e"; walk_at "own ev_op")
  | (apply r_cmp2; walk_at "own ev_e"; walk_at "own ev_e"; walk_at "own ev_op"; walk_at "own ev_e"; walk_at "own ev_op")
  | (apply r_and_f; walk_at "own ev_e"; walk_at "own ev_test")
  | (apply r_and_t; walk_at "own ev_e"; walk_at "own ev_test"; walk_at "own ev_e")
  | (apply r_and; walk_at "own ev_e"; walk_at "own ev_e")
  | (apply r_or_t; walk_at "own ev_e"; walk_at "own ev_test")
  | (apply r_or_f; walk_at "own ev_e"; walk_at "own ev_test"; walk_at "own ev_e")
  | (apply r_or; walk_at "own ev_e"; walk_at "own ev_e")
  | (apply r_ife_t; walk_at "own ev_e"; walk_at "own ev_test"; walk_at "own ev_e")
  | (apply r_ife_f; walk_at "own ev_e"; walk_at "own ev_test"; walk_at "own ev_e")
  | (apply r_tup; walk_at "own ev_es"; walk_at "own ev_side")
  | (apply r_lst; walk_at "own ev_es"; walk_at "own ev_side")
  | (apply r_ix; walk_at "own ev_e"; walk_at "own ev_e"; walk_at "own ev_op")
  | (apply r_sl; walk_at "own ev_e"; walk_at "own ev_eo"; walk_at "own ev_eo"; walk_at "own ev_op")
  | (apply r_call; walk_at "own ev_es"; walk_at "own ev_call")
  | (apply r_bi; walk_at "own ev_es"; walk_at "own ev_op")
  | (apply r_me; walk_at "own ev_e"; walk_at "own ev_op"; walk_at "own ev_es"; walk_at "own ev_op")
  | (apply r_isi; walk_at "own ev_e"; walk_at "own ev_op")
  | (apply r_told; walk_at "own ev_e")
  | walk_at "own ev_stm")
local macro_rules | `(tactic| walk_at "own ev_es") => `(tactic| first | exact r_nil | (apply r_cons; walk_at "own ev_e"; walk_at "own ev_es"))
local macro_rules | `(tactic| walk_at "own ev_eo") => `(tactic| first | exact r_none | (apply r_some; walk_at "own ev_e"))
local macro_rules | `(tactic| walk_at "own ev_g") => `(tactic| first | exact g_var | exact g_nil | (apply g_tup; walk_at "own ev_g") | (apply g_cons; walk_at "own ev_g"; walk_at "own ev_g") | (apply g_sub; walk_at "own ev_e"; walk_at "own ev_e"; walk_at "own ev_op"))
local macro_rules | `(tactic| walk_at "own ev_s") => `(tactic| first
  | (apply s_asg; walk_at "own ev_e"; walk_at "own ev_g")
  | (apply s_par; walk_at "own ev_es"; rfl)
  | (apply s_aug; rfl; walk_at "own ev_e"; walk_at "own ev_op")
  | (apply s_expr; walk_at "own ev_e")
  | walk_at "own ev_stm")
local macro_rules | `(tactic| walk_at "own ev_ss") => `(tactic| first
  | exact s_nil
  | (apply s_ret; walk_at "own ev_e")
  | exact x_rais
  | (apply s_ite_tr; walk_at "own ev_e"; walk_at "own ev_test"; walk_at "own ev_ss")
  | (apply s_ite_t; walk_at "own ev_e"; walk_at "own ev_test"; walk_at "own ev_ss"; walk_at "own ev_ss")
  | (apply s_ite_fr; walk_at "own ev_e"; walk_at "own ev_test"; walk_at "own ev_ss")
  | (apply s_ite_f; walk_at "own ev_e"; walk_at "own ev_test"; walk_at "own ev_ss"; walk_at "own ev_ss")
  | (apply x_ite_t; walk_at "own ev_e"; walk_at "own ev_test"; walk_at "own ev_ss")
  | (apply s_cons; walk_at "own ev_s"; walk_at "own ev_ss"))
local macro_rules | `(tactic| walk_at "own ev") => `(tactic| first | walk_at "own ev_ss" | walk_at "own ev_s" | walk_at "own ev_e" | walk_at "own ev_es")
variable (n : Nat)
/-! rest -/
def addAt (r : List Bool) (k : Nat) : List (Bool × Nat) → List Bool
  | g => g.foldl (fun r p => r.set (k + p.2) (xor (r.getD (k + p.2) false) p.1)) r
def restL (w g : List Bool) : List Bool := (List.range w.length).foldl (fun r k => if r.getD k false then addAt r k g.zipIdx else r) (w ++ List.replicate (g.length - 1) false)
def restM (w g : List Bool) : List Bool := (restL w g).drop w.length
theorem addAt_len (k : Nat) : ∀ (g : List (Bool × Nat)) (r : List Bool), (addAt r k g).length = r.length
  | [], r => rfl
  | p :: g, r => by
    show (addAt _ k g).length = _
    rw [addAt_len k g]; simp
theorem xor2 (a b : Bool) : ((b2n a : Nat) + (b2n b : Nat) : Int) % 2 = (b2n (xor a b) : Nat) := by cases a <;> cases b <;> rfl
/-- no guard: an exception -/
def okG (g : List Bool) : Prop := 2 ≤ g.length ∧ g.head? = some true ∧ g.length ≤ 100
theorem nob (w g : List Bool) (env : Env) (hl : env.length = 6) (h0 : env[0]? = some (some (W w))) (h1 : env[1]? = some (some (W g))) (hw : w.length ≤ 100) (hg : g.length ≤ 100) (S : Sto) :
    qE (qC P n) (.gen true [5] (.var 5) (.val (.bin .add (.bi .tuple (.cons (.var 0) (.nil))) (.bi .tuple (.cons (.var 1) (.nil))))) (.nil) (.cmp .notin (.var 5) (.tup (.cons (.int (0)) (.cons (.int (1)) (.nil)))))) env S = .ok (.bl false) S := by
  rw [gen_Q (S1 := S) (v := .tup ((w ++ g).map eb)) (ds := (w ++ g).map eb) (fun _ => false) ?_ (by simp; omega) (fun i => rfl)]
  · simp
  · intro d hd
    obtain ⟨b, _, rfl⟩ := List.mem_map.mp hd
    match env, hl with
    | [a0, a1, a2, a3, a4, a5], _ =>
      refine ⟨[a0, a1, a2, a3, a4, some (eb b)], g_var, t_nil, ?_⟩
      cases b <;> (apply e_of; walk_at "own ev"; rfl; rfl)
  · match env, hl with
    | [a0, a1, a2, a3, a4, a5], _ =>
      simp at h0 h1
      subst h0 h1
      apply i_tup
      apply e_of
      · apply r_bin
        · walk_at "own ev"
        · walk_at "own ev"
        · apply op_addT; simp [big]; omega
      · simp
      · rfl
theorem rest_ev (w g : List Bool) (hw : w.length ≤ 100) (hg : okG g) (S : Sto) : qC P (n + 1) 3 [W w, W g] S = .ok (W (restM w g)) S := by
  obtain ⟨g1, g2, g3⟩ := hg
  have hgen := nob n w g [some (W w), some (W g), none, none, none, none] rfl rfl rfl hw g3 []
  have hL : (w ++ List.replicate (g.length - 1) false).length = w.length + (g.length - 1) := by simp
  have hi : qI (qC P n) (.rng1 (.bi .len (.cons (.var 0) (.nil)))) [some (W w), some (W g), some (.ref 3), none, none, none] [.lst (w.map eb), .lst [.int 0], .lst ((List.replicate (g.length - 1) false).map eb), .lst ((w ++ List.replicate (g.length - 1) false).map eb)] = .ok (.rng 0 1 w.length) [.lst (w.map eb), .lst [.int 0], .lst ((List.replicate (g.length - 1) false).map eb), .lst ((w ++ List.replicate (g.length - 1) false).map eb)] := by
    apply i_rng1; walk_at "own ev_e"; simp [word]; omega; simp
  obtain ⟨env', S', h1, hlen, rfl, y3, y4, y5, rfl⟩ := fori (g := .var 3) (b := Brest_L1) (Rel := fun (r : List Bool) env S => r.length = w.length + (g.length - 1) ∧ S = [.lst (w.map eb), .lst [.int 0], .lst ((List.replicate (g.length - 1) false).map eb), .lst (r.map eb)] ∧ ∃ y3 y4 y5, env = [some (W w), some (W g), some (.ref 3), y3, y4, y5]) (enc := fun k : Nat => D.int (k : Nat))
    (fun r k => if r.getD k false then addAt r k g.zipIdx else r) hi (List.range w.length) (by simp; omega) (fun i s env S _ => turn_rng1 _ i S) ⟨hL, rfl, none, none, none, rfl⟩ (fun k hk r env S ⟨hr, e1, y3, y4, y5, e2⟩ => by
      subst e1 e2
      have hk' := List.mem_range.mp hk
      have gk : (r.map eb)[((k : Nat) : Int).toNat]? = some (eb (r.getD k false)) := get_eb rfl (by omega)
      have ek : ∀ S, items S 3 = some (r.map eb) → qE (qC P n) (.cmp .eq (.ix (.var 2) (.var 3)) (.int (1))) [some (W w), some (W g), some (.ref 3), some (.int (k : Nat)), y4, y5] S = .ok (.bl (r.getD k false)) S := fun S hS => by
        apply e_of
        · apply r_cmp
          · apply r_ix
            · walk_at "own ev"
            · walk_at "own ev"
            · exact ix_ref hS (by omega) gk
          · walk_at "own ev"
          · rfl
        · cases r.getD k false <;> rfl
        · rfl
      cases hb : r.getD k false with
      | false =>
        rw [hb] at ek
        apply Stp.nx g_var
        · unfold Brest_L1
          apply s_ite_f
          · exact ek _ rfl
          · rfl
          · walk_at "own ev"
          · walk_at "own ev"
        · exact ⟨hr, rfl, _, _, _, rfl⟩
      | true =>
        rw [hb] at ek
        obtain ⟨env2, S2, k1, hr2, rfl, z4, z5, rfl⟩ := fori (C := qC P n) (g := .tup (.cons (.var 4) (.cons (.var 5) (.nil)))) (b := Brest_L0) (it := .enum (.var 1)) (v := .enumT (g.map eb)) (env := [some (W w), some (W g), some (.ref 3), some (.int (k : Nat)), y4, y5]) (S := [.lst (w.map eb), .lst [.int 0], .lst ((List.replicate (g.length - 1) false).map eb), .lst (r.map eb)]) (S1 := [.lst (w.map eb), .lst [.int 0], .lst ((List.replicate (g.length - 1) false).map eb), .lst (r.map eb)])
          (Rel := fun (r : List Bool) env S => r.length = w.length + (g.length - 1) ∧ S = [.lst (w.map eb), .lst [.int 0], .lst ((List.replicate (g.length - 1) false).map eb), .lst (r.map eb)] ∧ ∃ y4 y5, env = [some (W w), some (W g), some (.ref 3), some (.int (k : Nat)), y4, y5]) (enc := fun p : Bool × Nat => D.tup [.int (p.2 : Nat), eb p.1])
          (fun r p => r.set (k + p.2) (xor (r.getD (k + p.2) false) p.1)) (s0 := r) (by apply i_enumT; walk_at "own ev") g.zipIdx (by simp; omega) (fun i s env S _ => turn_enum eb g i S) ⟨hr, rfl, y4, y5, rfl⟩ (fun p hp r env S ⟨hr, e1, y4, y5, e2⟩ => by
            subst e1 e2
            obtain ⟨b, j⟩ := p
            have hj : j < g.length := by
              have := List.mem_zipIdx hp
              omega
            have gj : (r.map eb)[(((k : Nat) : Int) + ((j : Nat) : Int)).toNat]? = some (eb (r.getD (k + j) false)) := get_eb (by omega) (by omega)
            apply Stp.nx (by walk_at "own ev_g")
            · unfold Brest_L0
              apply s_cons
              · apply s_asg
                · apply r_bin
                  · apply r_bin
                    · apply r_ix
                      · walk_at "own ev"
                      · walk_at "own ev"
                      · exact ix_ref rfl (by omega) gj
                    · walk_at "own ev"
                    · rfl
                  · walk_at "own ev"
                  · walk_at "own ev_op"
                · apply g_sub
                  · walk_at "own ev"
                  · walk_at "own ev"
                  · exact set_lst (ys := r.map eb) rfl (by omega) (by simp; omega)
              · walk_at "own ev"
            · refine ⟨by simp [hr], ?_, some (.int (j : Nat)), some (eb b), rfl⟩
              show [_, _, _, MO.lst ((r.map eb).set (((k : Nat) : Int) + ((j : Nat) : Int)).toNat (.int (((b2n (r.getD (k + j) false) : Nat) + (b2n b : Nat) : Int) % 2)))] = _
              rw [show (((k : Nat) : Int) + ((j : Nat) : Int)).toNat = k + j by omega, xor2, List.map_set]
              rfl)
        apply Stp.nx g_var
        · unfold Brest_L1
          apply s_ite_t
          · exact ek _ rfl
          · rfl
          · walk_at "own ev"
          · walk_at "own ev"
        · exact ⟨hr2, rfl, _, _, _, rfl⟩)
  have hne : g.length ≠ 0 := by omega
  obtain ⟨gt, rfl⟩ : ∃ gt, g = true :: gt := by
    cases g with
    | nil => simp at hne
    | cons a r => simp at g2; subst g2; exact ⟨r, rfl⟩
  apply call_rv (df := ⟨2, 6, Brest⟩) rfl rfl (by simp [purs]) (by simp)
  · show qSs _ Brest [some (W w), some (W (true :: gt)), none, none, none, none] [] = _
    unfold Brest
    apply s_ite_f
    · apply r_or_f
      · walk_at "own ev"
      · simp [truth] at g1 ⊢; omega
      · apply r_or_f
        · apply r_cmp
          · apply r_ix
            · walk_at "own ev"
            · walk_at "own ev"
            · exact ix_tup (ds := (true :: gt).map eb) (d := eb true) (by decide) rfl
          · walk_at "own ev"
          · rfl
        · rfl
        · exact hgen
    · rfl
    · walk_at "own ev"
    apply s_cons
    · show qS _ _ _ _ = .ok .nx [some (W w), some (W (true :: gt)), some (.ref 3), none, none, none] [.lst (w.map eb), .lst [.int 0], .lst ((List.replicate ((true :: gt).length - 1) false).map eb), .lst ((w ++ List.replicate ((true :: gt).length - 1) false).map eb)]
      have e3 : rep ((((true :: gt).map eb).length : Int) - 1) [D.int 0] = (List.replicate ((true :: gt).length - 1) false).map eb := by
        rw [rep0]; congr 2; simp
      apply s_of
      · apply s_asg
        · apply r_bin
          · walk_at "own ev"
          · apply r_bin
            · walk_at "own ev"
            · walk_at "own ev"
            · apply op_mulF rfl
              simp [few] at g3 ⊢; omega
          · show binD .add (.ref 0) (.ref 2) [.lst (w.map eb), .lst [.int 0], .lst (rep ((((true :: gt).map eb).length : Int) - 1) [D.int 0])] = _
            unfold binD
            simp only
            rw [e3]
            show (if (w.map eb).length + ((List.replicate ((true :: gt).length - 1) false).map eb).length ≤ big then alloc (.lst (w.map eb ++ (List.replicate ((true :: gt).length - 1) false).map eb)) _ else .bad) = _
            rw [if_pos (by simp [big] at g3 ⊢; omega)]
            rfl
        · exact g_var
      · rfl
      · rw [List.map_append]; rfl
    apply s_cons h1
    apply s_ret
    apply r_bi
    · apply r_cons
      · apply r_sl
        · walk_at "own ev"
        · walk_at "own ev_eo"
        · walk_at "own ev_eo"
        · rfl
      · walk_at "own ev"
    · rfl
  · show D.tup (cut _ (some ((w.map eb).length : Int)) none) = _
    rw [cut_drop, List.length_map, ← List.map_drop]
    rfl
end K54
end
section
set_option maxRecDepth 100000
namespace K54
open Ev Ew
local macro_rules | `(tactic| walk_at "own ev_call") => `(tactic| focus (apply_assumption <;> first | assumption | omega))
local macro_rules | `(tactic| walk_at "own ev_call") => `(tactic| assumption)
local macro_rules | `(tactic| walk_at "own ev_get") => `(tactic| assumption)
local macro_rules | `(tactic| walk_at "own ev_get") => `(tactic| rfl)
local macro_rules | `(tactic| walk_at "own ev_op") => `(tactic| (apply ix_last; walk_at "own ev_get"))
local macro_rules | `(tactic| walk_at "own ev_op") => `(tactic| (apply ix_ref; walk_at "own ev_get"; walk_at "own ev_side"; walk_at "own ev_get"))
local macro_rules | `(tactic| walk_at "own ev_op") => `(tactic| (apply ix_tup; walk_at "own ev_side"; walk_at "own ev_get"))
local macro_rules | `(tactic| walk_at "own ev_op") => `(tactic| (apply op_append; walk_at "own ev_get"; walk_at "own ev_side"))
local macro_rules | `(tactic| walk_at "own ev_op") => `(tactic| (apply set_lst; walk_at "own ev_get"; walk_at "own ev_side"; walk_at "own ev_side"))
local macro_rules | `(tactic| walk_at "own ev_op") => `(tactic| (apply op_addT; walk_at "own ev_side"))
local macro_rules | `(tactic| walk_at "own ev_op") => `(tactic| (apply op_mulR; walk_at "own ev_side"))
local macro_rules | `(tactic| walk_at "own ev_op") => `(tactic| (apply op_mulL; walk_at "own ev_side"))
local macro_rules | `(tactic| walk_at "own ev_op") => `(tactic| (apply op_mulT; walk_at "own ev_side"))
local macro_rules | `(tactic| walk_at "own ev_op") => `(tactic| (apply op_mulF; walk_at "own ev_get"; walk_at "own ev_side"))
local macro_rules | `(tactic| walk_at "own ev_op") => `(tactic| (apply op_fdiv; walk_at "own ev_side"; walk_at "own ev_side"))
local macro_rules | `(tactic| walk_at "own ev_op") => `(tactic| (apply op_mod; walk_at "own ev_side"))
local macro_rules | `(tactic| walk_at "own ev_op") => `(tactic| rfl)
local macro_rules | `(tactic| walk_at "own ev_test") => `(tactic| focus (simp [truth, *]; done))
local macro_rules | `(tactic| walk_at "own ev_test") => `(tactic| rfl)
local macro_rules | `(tactic| walk_at "own ev_side") => `(tactic| focus first | decide | (simp [big, word]; done) | omega | (simp [big]; omega) | (simp [word]; omega) | (simp [few]; omega) | (simp [small]; omega))
local macro_rules | `(tactic| walk_at "own ev_stm") => `(tactic| assumption)
local macro_rules | `(tactic| walk_at "own ev_e") => `(tactic| first
  | exact r_var rfl
  | exact r_int
  | exact r_bl
  | exact r_str
  | exact r_non
  | (apply r_bin; walk_at "own ev_e"; walk_at "own ev_e"; walk_at "own ev_op")
  | (apply r_neg; walk_at "own ev_e")
  | (apply r_not; walk_at "own ev_e"; walk_at "own ev_test")
  | (apply r_cmp; walk_at "own ev_e"; walk_at "own ev_e"; walk_at "own ev_op")
  | (apply r_cmp2; walk_at "own ev_e"; walk_at "own ev_e"; walk_at "own ev_op"; walk_at "own ev_e"; walk_at "own ev_op")
  | (apply r_and_f; walk_at "own ev_e"; walk_at "own ev_test")
  | (apply r_and_t; walk_at "own ev_e"; walk_at "own ev_test"; walk_at "own ev_e")
  | (apply r_and; walk_at "own ev_e"; walk_at "own ev_e")
  | (apply r_or_t; walk_at "own ev_e"; walk_at "own ev_test")
  | (apply r_or_f; walk_at "own ev_e"; walk_at "own ev_test"; walk_at "own ev_e")
  | (apply r_or; walk_at "own ev_e"; walk_at "own ev_e")
  | (apply r_ife_t; walk_at "own ev_e"; walk_at "own ev_test"; walk_at "own ev_e")
  | (apply r_ife_f; walk_at "own ev_e"; walk_at "own ev_test"; walk_at "own ev_e")
  | (apply r_tup; walk_at "own ev_es"; walk_at "own ev_side")
  | (apply r_lst; walk_at "own ev_es"; walk_at "own ev_side")
  | (apply r_ix; walk_at "own ev_e"; walk_at "own ev_e"; walk_at "own ev_op")
  | (apply r_sl; walk_at "own ev_e"; walk_at "own ev_eo"; walk_at "own ev_eo"; walk_at "own ev_op")
  | (apply r_call; walk_at "own ev_es"; walk_at "own ev_call")
  | (apply r_bi; walk_at "own ev_es"; walk_at "own ev_op")
  | (apply r_me; walk_at "own ev_e"; walk_at "own ev_op"; walk_at "own ev_es"; walk_at "own ev_op")
  | (apply r_isi; walk_at "own ev_e"; walk_at "own ev_op")
  | (apply r_told; walk_at "own ev_e")
  | walk_at "own ev_stm")
local macro_rules | `(tactic| walk_at "own ev_es") => `(tactic| first | exact r_nil | (apply r_cons; walk_at "own ev_e"; walk_at "own ev_es"))
local macro_rules | `(tactic| walk_at "own ev_eo") => `(tactic| first | exact r_none | (apply r_some; walk_at "own ev_e"))
local macro_rules | `(tactic| walk_at "own ev_g") => `(tactic| first | exact g_var | exact g_nil | (apply g_tup; walk_at "own ev_g") | (apply g_cons; walk_at "own ev_g"; walk_at "own ev_g") | (apply g_sub; walk_at "own ev_e"; walk_at "own ev_e"; walk_at "own ev_op"))
local macro_rules | `(tactic| walk_at "own ev_s") => `(tactic| first
  | (apply s_asg; walk_at "own ev_e"; walk_at "own ev_g")
  | (apply s_par; walk_at "own ev_es"; rfl)
  | (apply s_aug; rfl; walk_at "own ev_e"; walk_at "own ev_op")
  | (apply s_expr; walk_at "own ev_e")
  | walk_at "own ev_stm")
local macro_rules | `(tactic| walk_at "own ev_ss") => `(tactic| first
  | exact s_nil
  | (apply s_ret; walk_at "own ev_e")
  | exact x_rais
  | (apply s_ite_tr; walk_at "own ev_e"; walk_at "own ev_test"; walk_at "own ev_ss")
  | (apply s_ite_t; walk_at "own ev_e"; walk_at "own ev_test"; walk_at "own ev_ss"; walk_at "own ev_ss")
  | (apply s_ite_fr; walk_at "own ev_e"; walk_at "own ev_test"; walk_at "own ev_ss")
  | (apply s_ite_f; walk_at "own ev_e"; walk_at "own ev_test"; walk_at "own ev_ss"; walk_at "own ev_ss")
  | (apply x_ite_t; walk_at "own ev_e"; walk_at "own ev_test"; walk_at "own ev_ss")
  | (apply s_cons; walk_at "own ev_s"; walk_at "own ev_ss"))
local macro_rules | `(tactic| walk_at "own ev") => `(tactic| first | walk_at "own ev_ss" | walk_at "own ev_s" | walk_at "own ev_e" | walk_at "own ev_es")
variable (n : Nat)
theorem eq_W (x y : List Bool) (S : Sto) : cmpD .eq (W x) (W y) S = some (decide (x = y)) := by simp [cmpD, eqD_W]
/-! rest_by_shifts -/
def shM (g r : List Bool) (b : Bool) : List Bool := if xor (r.getD 0 false) b then ((r.drop 1 ++ [false]).zip (g.drop 1)).map (fun p => xor p.1 p.2) else r.drop 1 ++ [false]
def rshM (w g : List Bool) : List Bool := w.foldl (shM g) (List.replicate (g.length - 1) false)
theorem tup_rep0 (k : Int) : D.tup (rep k [.int 0]) = W (List.replicate k.toNat false) := by rw [rep0]; rfl
theorem rsh_ev (w g : List Bool) (hw : w.length ≤ 100) (hg : okG g) (S : Sto) : qC P (n + 1) 4 [W w, W g] S = .ok (W (rshM w g)) S := by
  obtain ⟨g1, g2, g3⟩ := hg
  obtain ⟨env', S', h1, hlen, y3, y4, y5, y6, rfl⟩ := fori (C := qC P n) (g := .var 3) (b := Brest_by_shifts_L0) (it := .val (.var 0)) (v := .tup (w.map eb)) (env := [some (W w), some (W g), some (W (List.replicate (g.length - 1) false)), none, none, none, none]) (S := []) (S1 := [])
    (Rel := fun (r : List Bool) env S => r.length = g.length - 1 ∧ ∃ y3 y4 y5 y6, env = [some (W w), some (W g), some (W r), y3, y4, y5, y6]) (enc := eb) (shM g) (s0 := List.replicate (g.length - 1) false) (by apply i_tup; walk_at "own ev") w (by omega) (fun i s env S _ => rfl) ⟨by simp, none, none, none, none, rfl⟩ (fun b hb r env S ⟨hr, y3, y4, y5, y6, e2⟩ => by
      subst e2
      have g0 : (r.map eb)[(0 : Int).toNat]? = some (eb (r.getD 0 false)) := get_eb rfl (by omega)
      have s1 : qS (qC P n) (.asg (.var 4) (.bin .mod (.bin .add (.ix (.var 2) (.int (0))) (.var 3)) (.int (2)))) ([some (W w), some (W g), some (W r), y3, y4, y5, y6].set 3 (some (eb b))) S = .ok .nx [some (W w), some (W g), some (W r), some (eb b), some (eb (xor (r.getD 0 false) b)), y5, y6] S := by
        apply s_of
        · apply s_asg
          · apply r_bin
            · apply r_bin
              · apply r_ix
                · walk_at "own ev"
                · walk_at "own ev"
                · exact ix_tup (by decide) g0
              · walk_at "own ev"
              · rfl
            · walk_at "own ev"
            · walk_at "own ev_op"
          · exact g_var
        · simp only [List.set_cons_succ, List.set_cons_zero, xor2]; rfl
        · rfl
      have s2 : qS (qC P n) (.asg (.var 2) (.bin .add (.sl (.var 2) (.some (.int (1))) (.none)) (.tup (.cons (.int (0)) (.nil))))) [some (W w), some (W g), some (W r), some (eb b), some (eb (xor (r.getD 0 false) b)), y5, y6] S = .ok .nx [some (W w), some (W g), some (W (r.drop 1 ++ [false])), some (eb b), some (eb (xor (r.getD 0 false) b)), y5, y6] S := by
        apply s_of
        · apply s_asg
          · apply r_bin
            · apply e_of (d := .tup ((r.drop 1).map eb))
              · apply r_sl
                · walk_at "own ev"
                · walk_at "own ev_eo"
                · walk_at "own ev_eo"
                · rfl
              · show D.tup (cut _ (some ((1 : Nat) : Int)) none) = _
                rw [cut_drop, List.map_drop]
              · rfl
            · walk_at "own ev"
            · apply op_addT; simp [big]; omega
          · exact g_var
        · simp [W, eb, b2n]
        · rfl
      cases ho : xor (r.getD 0 false) b with
      | false =>
        rw [ho] at s1 s2
        apply Stp.nx g_var
        · unfold Brest_by_shifts_L0
          apply s_cons s1
          apply s_cons s2
          apply s_ite_f
          · walk_at "own ev"
          · rfl
          · walk_at "own ev"
          · walk_at "own ev"
        · unfold shM
          rw [ho]
          exact ⟨by simp; omega, _, _, _, _, rfl⟩
      | true =>
        rw [ho] at s1 s2
        have hl : (r.drop 1 ++ [false]).length = g.length - 1 := by simp; omega
        have hlc := lc_all (C := qC P n) (vs := [5, 6]) (g := .tup (.cons (.var 5) (.cons (.var 6) (.nil)))) (it := .zip (.var 2) (.sl (.var 1) (.some (.int (1))) (.none))) (e := .bin .mod (.bin .add (.var 5) (.var 6)) (.int (2))) (env := [some (W w), some (W g), some (W (r.drop 1 ++ [false])), some (eb b), some (eb true), y5, y6]) (S := S) (S1 := S) (v := .zipT ((r.drop 1 ++ [false]).map eb) ((g.drop 1).map eb))
          (enc := fun p : Bool × Bool => D.tup [eb p.1, eb p.2]) ((r.drop 1 ++ [false]).zip (g.drop 1)) (fun p => eb (xor p.1 p.2)) (by
            apply i_zipT
            · walk_at "own ev"
            · apply e_of
              · apply r_sl
                · walk_at "own ev"
                · walk_at "own ev_eo"
                · walk_at "own ev_eo"
                · rfl
              · show D.tup (cut _ (some ((1 : Nat) : Int)) none) = _
                rw [cut_drop, List.map_drop]
              · rfl) (by simp; omega) (fun i X => turn_zip eb eb _ _ i _) (fun p hp X => by
            refine ⟨[some (W w), some (W g), some (W (r.drop 1 ++ [false])), some (eb b), some (eb true), some (eb p.1), some (eb p.2)], g_tup (g_cons g_var (g_cons g_var g_nil)), ?_⟩
            apply e_of
            · walk_at "own ev"
            · rw [xor2]; rfl
            · rfl)
        apply Stp.nx g_var
        · unfold Brest_by_shifts_L0
          apply s_cons s1
          apply s_cons s2
          apply s_ite_t
          · walk_at "own ev"
          · rfl
          · apply s_cons
            · apply s_asg
              · apply r_bi
                · exact r_cons hlc r_nil
                · show (match items (S ++ [MO.lst _]) S.length with | some ys => Res.ok (D.tup ys) (S ++ [MO.lst _]) | none => .bad) = _
                  rw [items_new]
              · exact g_var
            · walk_at "own ev"
          · walk_at "own ev"
        · unfold shM
          rw [ho]
          refine ⟨by simp; omega, some (eb b), some (eb true), y5, y6, ?_⟩
          simp [W, Function.comp_def])
  apply call_rv (df := ⟨2, 7, Brest_by_shifts⟩) rfl rfl (by simp [purs]) (by simp)
  · show qSs _ Brest_by_shifts [some (W w), some (W g), none, none, none, none, none] [] = _
    unfold Brest_by_shifts
    apply s_cons
    · show qS _ _ _ _ = .ok .nx [some (W w), some (W g), some (W (List.replicate (g.length - 1) false)), none, none, none, none] []
      apply s_of
      · apply s_asg
        · apply r_bin
          · walk_at "own ev"
          · walk_at "own ev"
          · apply op_mulT; simp [few]; omega
        · exact g_var
      · rw [tup_rep0, show (((g.map eb).length : Int) - 1).toNat = g.length - 1 by simp]; rfl
      · rfl
    walk_at "own ev"
  · rfl
/-! is_sound -/
def soundM (w g : List Bool) : Bool := decide (restM (w.take (w.length - (g.length - 1))) g = w.drop (w.length - (g.length - 1)))
theorem sound_ev (w g : List Bool) (hw : w.length ≤ 100) (hg : okG g) (hl : g.length - 1 ≤ w.length) (S : Sto) : qC P (n + 2) 5 [W w, W g] S = .ok (.bl (soundM w g)) S := by
  obtain ⟨g1, g2, g3⟩ := hg
  have hr := fun S => rest_ev n (w.take (w.length - (g.length - 1))) g (by simp; omega) ⟨g1, g2, g3⟩ S
  have e0 : ((w.map eb).length : Int) - (((g.map eb).length : Int) - 1) = ((w.length - (g.length - 1) : Nat) : Int) := by simp; omega
  have e1 : D.tup (cut (w.map eb) none (some ((w.length - (g.length - 1) : Nat) : Int))) = W (w.take (w.length - (g.length - 1))) := by rw [cut_take, ← List.map_take]; rfl
  have e2 : D.tup (cut (w.map eb) (some ((w.length - (g.length - 1) : Nat) : Int)) none) = W (w.drop (w.length - (g.length - 1))) := by rw [cut_drop, ← List.map_drop]; rfl
  apply call_rv (df := ⟨2, 3, Bis_sound⟩) rfl rfl (by simp [purs]) rfl
  · show qSs _ Bis_sound [some (W w), some (W g), none] [] = _
    unfold Bis_sound
    apply s_cons
    · walk_at "own ev"
    apply s_ite_f
    · walk_at "own ev"
    · simp [truth]; omega
    · walk_at "own ev"
    apply s_ret
    apply r_cmp (y := W (w.drop (w.length - (g.length - 1))))
    · apply r_call
      · apply r_cons
        · apply e_of
          · apply r_sl
            · walk_at "own ev"
            · walk_at "own ev_eo"
            · apply r_some; walk_at "own ev"
            · rfl
          · rw [e0, e1]
          · rfl
        · walk_at "own ev"
      · exact hr _
    · apply r_bi
      · apply r_cons
        · apply e_of
          · apply r_sl
            · walk_at "own ev"
            · apply r_some; walk_at "own ev"
            · walk_at "own ev_eo"
            · rfl
          · rw [e0, e2]
          · rfl
        · walk_at "own ev"
      · rfl
    · exact eq_W _ _ _
  · rfl
end K54
end
section
set_option maxRecDepth 100000
namespace K54
open Ev Ew
local macro_rules | `(tactic| walk_at "own ev_call") => `(tactic| focus (apply_assumption <;> first | assumption | omega))
local macro_rules | `(tactic| walk_at "own ev_call") => `(tactic| assumption)
local macro_rules | `(tactic| walk_at "own ev_get") => `(tactic| assumption)
local macro_rules | `(tactic| walk_at "own ev_get") => `(tactic| rfl)
local macro_rules | `(tactic| walk_at "own ev_op") => `(tactic| (apply ix_last; walk_at "own ev_get"))
local macro_rules | `(tactic| walk_at "own ev_op") => `(tactic| (apply ix_ref; walk_at "own ev_get"; walk_at "own ev_side"; walk_at "own ev_get"))
local macro_rules | `(tactic| walk_at "own ev_op") => `(tactic| (apply ix_tup; walk_at "own ev_side"; walk_at "own ev_get"))
local macro_rules | `(tactic| walk_at "own ev_op") => `(tactic| (apply op_append; walk_at "own ev_get"; walk_at "own ev_side"))
local macro_rules | `(tactic| walk_at "own ev_op") => `(tactic| (apply set_lst; walk_at "own ev_get"; walk_at "own ev_side"; walk_at "own ev_side"))
local macro_rules | `(tactic| walk_at "own ev_op") => `(tactic| (apply op_addT; walk_at "own ev_side"))
local macro_rules | `(tactic| walk_at "own ev_op") => `(tactic| (apply op_mulR; walk_at "own ev_side"))
local macro_rules | `(tactic| walk_at "own ev_op") => `(tactic| (apply op_mulL; walk_at "own ev_side"))
local macro_rules | `(tactic| walk_at "own ev_op") => `(tactic| (apply op_mulT; walk_at "own ev_side"))
local macro_rules | `(tactic| walk_at "own ev_op") => `(tactic| (apply op_mulF; walk_at "own ev_get"; walk_at "own ev_side"))
local macro_rules | `(tactic| walk_at "own ev_op") => `(tactic| (apply op_fdiv; walk_at "own ev_side"; walk_at "own ev_side"))
local macro_rules | `(tactic| walk_at "own ev_op") => `(tactic| (apply op_mod; walk_at "own ev_side"))
local macro_rules | `(tactic| walk_at "own ev_op") => `(tactic| rfl)
local macro_rules | `(tactic| walk_at "own ev_test") => `(tactic| focus (simp [truth, *]; done))
local macro_rules | `(tactic| walk_at "own ev_test") => `(tactic| rfl)
local macro_rules | `(tactic| walk_at "own ev_side") => `(tactic| focus first | decide | (simp [big, word]; done) | omega | (simp [big]; omega) | (simp [word]; omega) | (simp [few]; omega) | (simp [small]; omega))
local macro_rules | `(tactic| walk_at "own ev_stm") => `(tactic| assumption)
local macro_rules | `(tactic| walk_at "own ev_e") => `(tactic| first
  | exact r_var rfl
  | exact r_int
  | exact r_bl
  | exact r_str
  | exact r_non
  | (apply r_bin; walk_at "own ev_e"; walk_at "own ev_e"; walk_at "own ev_op")
  | (apply r_neg; walk_at "own ev_e")
  | (apply r_not; walk_at "own ev_e"; walk_at "own ev_test")
  | (apply r_cmp; walk_at "own ev_e"; walk_at "own ev_e"; walk_at "own ev_op")
  | (apply r_cmp2; walk_at "own ev_e"; walk_at "own ev_e"; walk_at "own ev_op"; walk_at "own ev_e"; walk_at "own ev_op")
  | (apply r_and_f; walk_at "own ev_e"; walk_at "own ev_test")
  | (apply r_and_t; walk_at "own ev_e"; walk_at "own ev_test"; walk_at "own ev_e")
  | (apply r_and; walk_at "own ev_e"; walk_at "own ev_e")
  | (apply r_or_t; walk_at "own ev_e"; walk_at "own ev_test")
  | (apply r_or_f; walk_at "own ev_e"; walk_at "own ev_test"; walk_at "own ev_e")
  | (apply r_or; walk_at "own ev_e"; walk_at "own ev_e")
  | (apply r_ife_t; walk_at "own ev_e"; walk_at "own ev_test"; walk_at "own ev_e")
  | (apply r_ife_f; walk_at "own ev_e"; walk_at "own ev_test"; walk_at "own ev_e")
  | (apply r_tup; walk_at "own ev_es"; walk_at "own ev_side")
  | (apply r_lst; walk_at "own ev_es"; walk_at "own ev_side")
  | (apply r_ix; walk_at "own ev_e"; walk_at "own ev_e"; walk_at "own ev_op")
  | (apply r_sl; walk_at "own ev_e"; walk_at "own ev_eo"; walk_at "own ev_eo"; walk_at "own ev_op")
  | (apply r_call; walk_at "own ev_es"; walk_at "own ev_call")
  | (apply r_bi; walk_at "own ev_es"; walk_at "own ev_op")
  | (apply r_me; walk_at "own ev_e"; walk_at "own ev_op"; walk_at "own ev_es"; walk_at "own ev_op")
  | (apply r_isi; walk_at "own ev_e"; walk_at "own ev_op")
  | (apply r_told; walk_at "own ev_e")
  | walk_at "own ev_stm")
local macro_rules | `(tactic| walk_at "own ev_es") => `(tactic| first | exact r_nil | (apply r_cons; walk_at "own ev_e"; walk_at "own ev_es"))
local macro_rules | `(tactic| walk_at "own ev_eo") => `(tactic| first | exact r_none | (apply r_some; walk_at "own ev_e"))
local macro_rules | `(tactic| walk_at "own ev_g") => `(tactic| first | exact g_var | exact g_nil | (apply g_tup; walk_at "own ev_g") | (apply g_cons; walk_at "own ev_g"; walk_at "own ev_g") | (apply g_sub; walk_at "own ev_e"; walk_at "own ev_e"; walk_at "own ev_op"))
local macro_rules | `(tactic| walk_at "own ev_s") => `(tactic| first
  | (apply s_asg; walk_at "own ev_e"; walk_at "own ev_g")
  | (apply s_par; walk_at "own ev_es"; rfl)
  | (apply s_aug; rfl; walk_at "own ev_e"; walk_at "own ev_op")
  | (apply s_expr; walk_at "own ev_e")
  | walk_at "own ev_stm")
local macro_rules | `(tactic| walk_at "own ev_ss") => `(tactic| first
  | exact s_nil
  | (apply s_ret; walk_at "own ev_e")
  | exact x_rais
  | (apply s_ite_tr; walk_at "own ev_e"; walk_at "own ev_test"; walk_at "own ev_ss")
  | (apply s_ite_t; walk_at "own ev_e"; walk_at "own ev_test"; walk_at "own ev_ss"; walk_at "own ev_ss")
  | (apply s_ite_fr; walk_at "own ev_e"; walk_at "own ev_test"; walk_at "own ev_ss")
  | (apply s_ite_f; walk_at "own ev_e"; walk_at "own ev_test"; walk_at "own ev_ss"; walk_at "own ev_ss")
  | (apply x_ite_t; walk_at "own ev_e"; walk_at "own ev_test"; walk_at "own ev_ss")
  | (apply s_cons; walk_at "own ev_s"; walk_at "own ev_ss"))
local macro_rules | `(tactic| walk_at "own ev") => `(tactic| first | walk_at "own ev_ss" | walk_at "own ev_s" | walk_at "own ev_e" | walk_at "own ev_es")
variable (n : Nat)
/-! the law's own rest -/
def lrStep (g : List Bool) (N : Nat) (r : List Bool) (k : Nat) : List Bool := if r.getD k false then (List.range N).map (fun n => xor (r.getD n false) (decide (k ≤ n ∧ n - k < g.length) && g.getD (n - k) false)) else r
def lrestM (w g : List Bool) : List Bool := ((List.range w.length).foldl (lrStep g (w.length + (g.length - 1))) (w ++ List.replicate (g.length - 1) false)).drop w.length
theorem lrest_ev (w g : List Bool) (hw : w.length ≤ 100) (hg : okG g) (S : Sto) : qC P (n + 1) 12 [W w, W g] S = .ok (W (lrestM w g)) S := by
  obtain ⟨g1, g2, g3⟩ := hg
  have hL : (w ++ List.replicate (g.length - 1) false).length = w.length + (g.length - 1) := by simp
  have hi : qI (qC P n) (.rng1 (.bi .len (.cons (.var 0) (.nil)))) [some (W w), some (W g), some (.ref 3), none, none] [.lst (w.map eb), .lst [.int 0], .lst ((List.replicate (g.length - 1) false).map eb), .lst ((w ++ List.replicate (g.length - 1) false).map eb)] = .ok (.rng 0 1 w.length) [.lst (w.map eb), .lst [.int 0], .lst ((List.replicate (g.length - 1) false).map eb), .lst ((w ++ List.replicate (g.length - 1) false).map eb)] := by
    apply i_rng1; walk_at "own ev_e"; simp [word]; omega; simp
  obtain ⟨env', S', h1, hlen, m, y3, y4, hm, rfl⟩ := fori (g := .var 3) (b := B_law_rest_L0) (Rel := fun (r : List Bool) env S => r.length = w.length + (g.length - 1) ∧ ∃ m y3 y4, S[m]? = some (.lst (r.map eb)) ∧ env = [some (W w), some (W g), some (.ref m), y3, y4]) (enc := fun k : Nat => D.int (k : Nat))
    (lrStep g (w.length + (g.length - 1))) hi (List.range w.length) (by simp; omega) (fun i s env S _ => turn_rng1 _ i S) ⟨hL, 3, none, none, rfl, rfl⟩ (fun k hk r env S ⟨hr, m, y3, y4, hm, e2⟩ => by
      subst e2
      have hk' := List.mem_range.mp hk
      have hmi : ∀ X, items (S ++ X) m = some (r.map eb) := fun X => items_app (by unfold items; rw [hm])
      have hmi0 : items S m = some (r.map eb) := by unfold items; rw [hm]
      have gk : (r.map eb)[((k : Nat) : Int).toNat]? = some (eb (r.getD k false)) := get_eb rfl (by omega)
      have ek : qE (qC P n) (.cmp .eq (.ix (.var 2) (.var 3)) (.int (1))) [some (W w), some (W g), some (.ref m), some (.int (k : Nat)), y4] S = .ok (.bl (r.getD k false)) S := by
        apply e_of
        · apply r_cmp
          · apply r_ix
            · walk_at "own ev"
            · walk_at "own ev"
            · exact ix_ref hmi0 (by omega) gk
          · walk_at "own ev"
          · rfl
        · cases r.getD k false <;> rfl
        · rfl
      cases hb : r.getD k false with
      | false =>
        rw [hb] at ek
        apply Stp.nx g_var
        · unfold B_law_rest_L0
          apply s_ite_f
          · exact ek
          · rfl
          · walk_at "own ev"
          · walk_at "own ev"
        · unfold lrStep
          rw [hb]
          exact ⟨hr, m, _, _, hm, rfl⟩
      | true =>
        rw [hb] at ek
        have hlc := lc_all (C := qC P n) (vs := [4]) (g := .var 4) (it := .rng1 (.bi .len (.cons (.var 2) (.nil)))) (e := .bin .mod (.bin .add (.ix (.var 2) (.var 4)) (.ife (.cmp2 .le .lt (.int (0)) (.bin .sub (.var 4) (.var 3)) (.bi .len (.cons (.var 1) (.nil)))) (.ix (.var 1) (.bin .sub (.var 4) (.var 3))) (.int (0)))) (.int (2))) (env := [some (W w), some (W g), some (.ref m), some (.int (k : Nat)), y4]) (S := S) (S1 := S) (v := .rng 0 1 (w.length + (g.length - 1)))
          (enc := fun k : Nat => D.int (k : Nat)) (List.range (w.length + (g.length - 1))) (fun j => eb (xor (r.getD j false) (decide (k ≤ j ∧ j - k < g.length) && g.getD (j - k) false))) (by
            apply i_rng1
            · apply r_bi
              · walk_at "own ev"
              · show (match items S m with | some ys => Res.ok (D.int (ys.length : Nat)) S | none => .bad) = _
                rw [hmi0]
            · simp [word, hr]; omega
            · simp only [List.length_map, hr]; omega) (by simp; omega) (fun i X => turn_rng1 _ i _) (fun j hj X => by
            have hj' := List.mem_range.mp hj
            have gj : (r.map eb)[((j : Nat) : Int).toNat]? = some (eb (r.getD j false)) := get_eb rfl (by omega)
            refine ⟨[some (W w), some (W g), some (.ref m), some (.int (k : Nat)), some (.int (j : Nat))], g_var, ?_⟩
            have e1 : qE (qC P n) (.ix (.var 2) (.var 4)) [some (W w), some (W g), some (.ref m), some (.int (k : Nat)), some (.int (j : Nat))] (S ++ X) = .ok (eb (r.getD j false)) (S ++ X) := by
              apply r_ix
              · walk_at "own ev"
              · walk_at "own ev"
              · exact ix_ref (hmi X) (by omega) gj
            have e2 : qE (qC P n) (.ife (.cmp2 .le .lt (.int (0)) (.bin .sub (.var 4) (.var 3)) (.bi .len (.cons (.var 1) (.nil)))) (.ix (.var 1) (.bin .sub (.var 4) (.var 3))) (.int (0))) [some (W w), some (W g), some (.ref m), some (.int (k : Nat)), some (.int (j : Nat))] (S ++ X) = .ok (eb (decide (k ≤ j ∧ j - k < g.length) && g.getD (j - k) false)) (S ++ X) := by
              by_cases q : k ≤ j ∧ j - k < g.length
              · obtain ⟨q1, q2⟩ := q
                have gg : (g.map eb)[(((j : Nat) : Int) - ((k : Nat) : Int)).toNat]? = some (eb (g.getD (j - k) false)) := get_eb (by omega) q2
                apply r_ife_t
                · walk_at "own ev"
                · have a1 : (0 : Int) ≤ (j : Nat) - ((k : Nat) : Int) := by omega
                  have a2 : ((j : Nat) : Int) - ((k : Nat) : Int) < (g.length : Nat) := by omega
                  simp [truth]; omega
                · apply e_of
                  · apply r_ix
                    · walk_at "own ev"
                    · walk_at "own ev"
                    · exact ix_tup (by omega) gg
                  · simp [q1, q2]
                  · rfl
              · apply r_ife_f
                · walk_at "own ev"
                · simp [truth]; omega
                · apply e_of
                  · walk_at "own ev"
                  · rw [decide_eq_false q]; rfl
                  · rfl
            apply e_of
            · apply r_bin
              · apply r_bin e1 e2
                rfl
              · walk_at "own ev"
              · walk_at "own ev_op"
            · rw [xor2]; rfl
            · rfl)
        apply Stp.nx g_var
        · unfold B_law_rest_L0
          apply s_ite_t
          · exact ek
          · rfl
          · apply s_cons
            · exact s_asg hlc g_var
            · walk_at "own ev"
          · walk_at "own ev"
        · unfold lrStep
          rw [hb]
          refine ⟨by simp, S.length, some (.int (k : Nat)), y4, ?_, rfl⟩
          rw [List.getElem?_concat_length, if_pos rfl, List.map_map]
          rfl)
  apply call_rv (df := ⟨2, 5, B_law_rest⟩) rfl rfl (by simp [purs]) (by simp)
  · show qSs _ B_law_rest [some (W w), some (W g), none, none, none] [] = _
    unfold B_law_rest
    apply s_cons
    · show qS _ _ _ _ = .ok .nx [some (W w), some (W g), some (.ref 3), none, none] [.lst (w.map eb), .lst [.int 0], .lst ((List.replicate (g.length - 1) false).map eb), .lst ((w ++ List.replicate (g.length - 1) false).map eb)]
      have e3 : rep (((g.map eb).length : Int) - 1) [D.int 0] = (List.replicate (g.length - 1) false).map eb := by
        rw [rep0]; congr 2; simp
      apply s_of
      · apply s_asg
        · apply r_bin
          · walk_at "own ev"
          · apply r_bin
            · walk_at "own ev"
            · walk_at "own ev"
            · apply op_mulF rfl
              simp [few]; omega
          · show binD .add (.ref 0) (.ref 2) [.lst (w.map eb), .lst [.int 0], .lst (rep (((g.map eb).length : Int) - 1) [D.int 0])] = _
            unfold binD
            simp only
            rw [e3]
            show (if (w.map eb).length + ((List.replicate (g.length - 1) false).map eb).length ≤ big then alloc (.lst (w.map eb ++ (List.replicate (g.length - 1) false).map eb)) _ else .bad) = _
            rw [if_pos (by simp [big]; omega)]
            rfl
        · exact g_var
      · rfl
      · rw [List.map_append]; rfl
    apply s_cons h1
    have hmi : items S' m = some (((List.range w.length).foldl (lrStep g (w.length + (g.length - 1))) (w ++ List.replicate (g.length - 1) false)).map eb) := by unfold items; rw [hm]
    apply s_ret
    apply r_bi
    · apply r_cons
      · apply r_sl
        · walk_at "own ev"
        · walk_at "own ev_eo"
        · walk_at "own ev_eo"
        · show (match items S' m with | some xs => alloc (.lst (cut xs (some ((w.map eb).length : Int)) none)) S' | none => .bad) = _
          rw [hmi]
          rfl
      · walk_at "own ev"
    · show (match items (S' ++ [MO.lst _]) S'.length with | some ys => Res.ok (D.tup ys) (S' ++ [MO.lst _]) | none => .bad) = _
      rw [items_new]
  · rw [cut_drop, List.length_map, ← List.map_drop]
    rfl
/-! does it make the row -/
def dotR (t r : List Bool) (n : Nat) : Nat → Bool
  | 0 => false
  | j + 1 => xor (dotR t r n j) (t.getD j false && r.getD (n - 1 - j) false)
def makesM (r t : List Bool) : Bool := (List.range (r.length - t.length)).all fun k => dotR t r (t.length + k) t.length == r.getD (t.length + k) false
theorem intsD_map {α : Type} (f : α → Int) : ∀ l : List α, intsD (l.map fun a => .int (f a)) = some (l.map f)
  | [] => rfl
  | a :: l => by simp [intsD, intsD_map f l]
theorem dot_sum (t r : List Bool) (n : Nat) : ∀ j, (((List.range j).map fun k => ((b2n (t.getD k false) : Nat) * (b2n (r.getD (n - 1 - k) false) : Nat) : Int)).sum) % 2 = (b2n (dotR t r n j) : Nat)
  | 0 => rfl
  | j + 1 => by
    rw [List.range_succ, List.map_append, List.sum_append]
    simp only [List.map_cons, List.map_nil, List.sum_cons, List.sum_nil]
    rw [Int.add_emod, dot_sum t r n j, dotR, ← xor_mod]
    simp
def mkStep (r t : List Bool) (_ : Unit) (k : Nat) : Unit ⊕ D := if dotR t r (t.length + k) t.length = r.getD (t.length + k) false then .inl () else .inr (.bl false)
theorem mk_fold (r t : List Bool) : ∀ as : List Nat, foldE (mkStep r t) as () = if as.all (fun k => dotR t r (t.length + k) t.length == r.getD (t.length + k) false) then .inl () else .inr (.bl false)
  | [] => rfl
  | a :: as => by
    unfold foldE mkStep
    by_cases q : dotR t r (t.length + a) t.length = r.getD (t.length + a) false
    · rw [if_pos q]
      show foldE (mkStep r t) as () = _
      rw [mk_fold r t as]
      simp [q]
    · rw [if_neg q, List.all_cons, beq_eq_false_iff_ne.mpr q]
      rfl
theorem makes_ev (r t : List Bool) (hr : r.length ≤ 100) (ht : t.length ≤ 100) (S : Sto) : qC P (n + 1) 11 [W r, W t] S = .ok (.bl (makesM r t)) S := by
  have hi : qI (qC P n) (.rng2 (.bi .len (.cons (.var 1) (.nil))) (.bi .len (.cons (.var 0) (.nil)))) [some (W r), some (W t), none, none] [] = .ok (.rng ((t.length : Nat) : Int) 1 (r.length - t.length)) [] := by
    apply i_rng2 (i := ((t.length : Nat) : Int)) (j := ((r.length : Nat) : Int))
    · apply e_of
      · walk_at "own ev"
      · simp
      · rfl
    · apply e_of
      · walk_at "own ev"
      · simp
      · rfl
    · simp [word]; omega
    · omega
  have key := foriE (C := qC P n) (g := .var 2) (b := B_law_makes_L0) (Rel := fun _ env S => ∃ y2 y3, env = [some (W r), some (W t), y2, y3]) (Q := fun _ _ _ => ∃ u : Unit, u = ()) (enc := fun k : Nat => D.int ((t.length + k : Nat) : Int)) (mkStep r t) (s0 := ()) hi (List.range (r.length - t.length)) (by simp; omega)
    (fun i _ env S _ => by rw [turn_rng]; congr 2; refine List.map_congr_left fun k _ => ?_; congr 1; omega) ⟨none, none, rfl⟩ (fun k hk _ env S ⟨y2, y3, e2⟩ => by
      subst e2
      have hk' := List.mem_range.mp hk
      generalize hn : t.length + k = m at *
      have hlc := lc_all (C := qC P n) (vs := [3]) (g := .var 3) (it := .rng1 (.bi .len (.cons (.var 1) (.nil)))) (e := .bin .mul (.ix (.var 1) (.var 3)) (.ix (.var 0) (.bin .sub (.bin .sub (.var 2) (.int (1))) (.var 3)))) (env := [some (W r), some (W t), some (.int (m : Nat)), y3]) (S := S) (S1 := S) (v := .rng 0 1 t.length)
        (enc := fun k : Nat => D.int (k : Nat)) (List.range t.length) (fun j => .int ((b2n (t.getD j false) : Nat) * (b2n (r.getD (m - 1 - j) false) : Nat) : Int)) (by
          apply i_rng1
          · walk_at "own ev"
          · simp [word]; omega
          · simp) (by simp; omega) (fun i X => turn_rng1 _ i _) (fun j hj X => by
          have hj' := List.mem_range.mp hj
          have g1 : (t.map eb)[((j : Nat) : Int).toNat]? = some (eb (t.getD j false)) := get_eb rfl hj'
          have g2 : (r.map eb)[(((m : Nat) : Int) - 1 - ((j : Nat) : Int)).toNat]? = some (eb (r.getD (m - 1 - j) false)) := get_eb (by omega) (by omega)
          refine ⟨[some (W r), some (W t), some (.int (m : Nat)), some (.int (j : Nat))], g_var, ?_⟩
          apply r_bin
          · apply r_ix
            · walk_at "own ev"
            · walk_at "own ev"
            · exact ix_tup (by omega) g1
          · apply r_ix
            · walk_at "own ev"
            · walk_at "own ev"
            · exact ix_tup (by omega) g2
          · apply op_mulR
            cases r.getD (m - 1 - j) false <;> rfl)
      have g3 : (r.map eb)[((m : Nat) : Int).toNat]? = some (eb (r.getD m false)) := get_eb rfl (by omega)
      have ec : qE (qC P n) (.cmp .ne (.bin .mod (.bi .sum (.cons (.lc [3] (.var 3) (.rng1 (.bi .len (.cons (.var 1) (.nil)))) (.nil) (.bin .mul (.ix (.var 1) (.var 3)) (.ix (.var 0) (.bin .sub (.bin .sub (.var 2) (.int (1))) (.var 3))))) (.nil))) (.int (2))) (.ix (.var 0) (.var 2))) [some (W r), some (W t), some (.int (m : Nat)), y3] S = .ok (.bl (!(dotR t r m t.length == r.getD m false))) (S ++ [.lst ((List.range t.length).map fun j => .int ((b2n (t.getD j false) : Nat) * (b2n (r.getD (m - 1 - j) false) : Nat) : Int))]) := by
        apply e_of
        · apply r_cmp
          · apply r_bin
            · apply r_bi
              · exact r_cons hlc r_nil
              · show (match items (S ++ [MO.lst _]) S.length with | some ys => (match intsD ys with | some is => Res.ok (D.int is.sum) (S ++ [MO.lst _]) | none => .bad) | none => .bad) = _
                rw [items_new]
                simp only
                rw [intsD_map]
            · walk_at "own ev"
            · walk_at "own ev_op"
          · apply r_ix
            · walk_at "own ev"
            · walk_at "own ev"
            · exact ix_tup (by omega) g3
          · rfl
        · rw [dot_sum]
          cases dotR t r m t.length <;> cases r.getD m false <;> rfl
        · rfl
      unfold mkStep
      rw [hn]
      by_cases q : dotR t r m t.length = r.getD m false
      · rw [if_pos q]
        apply StpE.nx g_var
        · unfold B_law_makes_L0
          apply s_ite_f
          · exact ec
          · simp [truth, q]
          · walk_at "own ev"
          · walk_at "own ev"
        · exact ⟨_, _, rfl⟩
      · rw [if_neg q]
        apply StpE.rt g_var
        · unfold B_law_makes_L0
          apply s_ite_tr
          · exact ec
          · rw [beq_eq_false_iff_ne.mpr q]; rfl
          · walk_at "own ev"
        · exact ⟨_, rfl⟩)
  rw [mk_fold] at key
  have hm : (List.range (r.length - t.length)).all (fun k => dotR t r (t.length + k) t.length == r.getD (t.length + k) false) = makesM r t := rfl
  rw [hm] at key
  cases hq : makesM r t with
  | true =>
    rw [hq, if_pos rfl] at key
    obtain ⟨env, S1, k1, y2, y3, rfl⟩ := key
    apply call_rv (df := ⟨2, 4, B_law_makes⟩) rfl rfl (by simp [purs]) rfl
    · show qSs _ B_law_makes [some (W r), some (W t), none, none] [] = _
      unfold B_law_makes
      walk_at "own ev"
    · rfl
  | false =>
    rw [hq, if_neg (by simp)] at key
    obtain ⟨env, S1, k1, _⟩ := key
    apply call_rv (df := ⟨2, 4, B_law_makes⟩) rfl rfl (by simp [purs]) rfl
    · show qSs _ B_law_makes [some (W r), some (W t), none, none] [] = _
      unfold B_law_makes
      exact s_rt k1
    · rfl
end K54
end
section
set_option maxRecDepth 100000
namespace K54
open Ev Ew
local macro_rules | `(tactic| walk_at "own ev_call") => `(tactic| focus (apply_assumption <;> first | assumption | omega))
local macro_rules | `(tactic| walk_at "own ev_call") => `(tactic| assumption)
local macro_rules | `(tactic| walk_at "own ev_get") => `(tactic| assumption)
local macro_rules | `(tactic| walk_at "own ev_get") => `(tactic| rfl)
local macro_rules | `(tactic| walk_at "own ev_op") => `(tactic| (apply ix_last; walk_at "own ev_get"))
local macro_rules | `(tactic| walk_at "own ev_op") => `(tactic| (apply ix_ref; walk_at "own ev_get"; walk_at "own ev_side"; walk_at "own ev_get"))
local macro_rules | `(tactic| walk_at "own ev_op") => `(tactic| (apply ix_tup; walk_at "own ev_side"; walk_at "own ev_get"))
local macro_rules | `(tactic| walk_at "own ev_op") => `(tactic| (apply op_append; walk_at "own ev_get"; walk_at "own ev_side"))
local macro_rules | `(tactic| walk_at "own ev_op") => `(tactic| (apply set_lst; walk_at "own ev_get"; walk_at "own ev_side"; walk_at "own ev_side"))
local macro_rules | `(tactic| walk_at "own ev_op") => `(tactic| (apply op_addT; walk_at "own ev_side"))
local macro_rules | `(tactic| walk_at "own ev_op") => `(tactic| (apply op_mulR; walk_at "own ev_side"))
local macro_rules | `(tactic| walk_at "own ev_op") => `(tactic| (apply op_mulL; walk_at "own ev_side"))
local macro_rules | `(tactic| walk_at "own ev_op") => `(tactic| (apply op_mulT; walk_at "own ev_side"))
local macro_rules | `(tactic| walk_at "own ev_op") => `(tactic| (apply op_mulF; walk_at "own ev_get"; walk_at "own ev_side"))
local macro_rules | `(tactic| walk_at "own ev_op") => `(tactic| (apply op_fdiv; walk_at "own ev_side"; walk_at "own ev_side"))
local macro_rules | `(tactic| walk_at "own ev_op") => `(tactic| (apply op_mod; walk_at "own ev_side"))
local macro_rules | `(tactic| walk_at "own ev_op") => `(tactic| rfl)
local macro_rules | `(tactic| walk_at "own ev_test") => `(tactic| focus (simp [truth, *]; done))
local macro_rules | `(tactic| walk_at "own ev_test") => `(tactic| rfl)
local macro_rules | `(tactic| walk_at "own ev_side") => `(tactic| focus first | decide | (simp [big, word]; done) | omega | (simp [big]; omega) | (simp [word]; omega) | (simp [few]; omega) | (simp [small]; omega))
local macro_rules | `(tactic| walk_at "own ev_stm") => `(tactic| assumption)
local macro_rules | `(tactic| walk_at "own ev_e") => `(tactic| first
  | exact r_var rfl
  | exact r_int
  | exact r_bl
  | exact r_str
  | exact r_non
  | (apply r_bin; walk_at "own ev_e"; walk_at "own ev_e"; walk_at "own ev_op")
  | (apply r_neg; walk_at "own ev_e")
  | (apply r_not; walk_at "own ev_e"; walk_at "own ev_test")
  | (apply r_cmp; walk_at "own ev_e"; walk_at "own ev_e"; walk_at "own ev_op")
  | (apply r_cmp2; walk_at "own ev_e"; walk_at "own ev_e"; walk_at "own ev_op"; walk_at "own ev_e"; walk_at "own ev_op")
  | (apply r_and_f; walk_at "own ev_e"; walk_at "own ev_test")
  | (apply r_and_t; walk_at "own ev_e"; walk_at "own ev_test"; walk_at "own ev_e")
  | (apply r_and; walk_at "own ev_e"; walk_at "own ev_e")
  | (apply r_or_t; walk_at "own ev_e"; walk_at "own ev_test")
  | (apply r_or_f; walk_at "own ev_e"; walk_at "own ev_test"; walk_at "own ev_e")
  | (apply r_or; walk_at "own ev_e"; walk_at "own ev_e")
  | (apply r_ife_t; walk_at "own ev_e"; walk_at "own ev_test"; walk_at "own ev_e")
  | (apply r_ife_f; walk_at "own ev_e"; walk_at "own ev_test"; walk_at "own ev_e")
  | (apply r_tup; walk_at "own ev_es"; walk_at "own ev_side")
  | (apply r_lst; walk_at "own ev_es"; walk_at "own ev_side")
  | (apply r_ix; walk_at "own ev_e"; walk_at "own ev_e"; walk_at "own ev_op")
  | (apply r_sl; walk_at "own ev_e"; walk_at "own ev_eo"; walk_at "own ev_eo"; walk_at "own ev_op")
  | (apply r_call; walk_at "own ev_es"; walk_at "own ev_call")
  | (apply r_bi; walk_at "own ev_es"; walk_at "own ev_op")
  | (apply r_me; walk_at "own ev_e"; walk_at "own ev_op"; walk_at "own ev_es"; walk_at "own ev_op")
  | (apply r_isi; walk_at "own ev_e"; walk_at "own ev_op")
  | (apply r_told; walk_at "own ev_e")
  | walk_at "own ev_stm")
local macro_rules | `(tactic| walk_at "own ev_es") => `(tactic| first | exact r_nil | (apply r_cons; walk_at "own ev_e"; walk_at "own ev_es"))
local macro_rules | `(tactic| walk_at "own ev_eo") => `(tactic| first | exact r_none | (apply r_some; walk_at "own ev_e"))
local macro_rules | `(tactic| walk_at "own ev_g") => `(tactic| first | exact g_var | exact g_nil | (apply g_tup; walk_at "own ev_g") | (apply g_cons; walk_at "own ev_g"; walk_at "own ev_g") | (apply g_sub; walk_at "own ev_e"; walk_at "own ev_e"; walk_at "own ev_op"))
local macro_rules | `(tactic| walk_at "own ev_s") => `(tactic| first
  | (apply s_asg; walk_at "own ev_e"; walk_at "own ev_g")
  | (apply s_par; walk_at "own ev_es"; rfl)
  | (apply s_aug; rfl; walk_at "own ev_e"; walk_at "own ev_op")
  | (apply s_expr; walk_at "own ev_e")
  | walk_at "own ev_stm")
local macro_rules | `(tactic| walk_at "own ev_ss") => `(tactic| first
  | exact s_nil
  | (apply s_ret; walk_at "own ev_e")
  | exact x_rais
  | (apply s_ite_tr; walk_at "own ev_e"; walk_at "own ev_test"; walk_at "own ev_ss")
  | (apply s_ite_t; walk_at "own ev_e"; walk_at "own ev_test"; walk_at "own ev_ss"; walk_at "own ev_ss")
  | (apply s_ite_fr; walk_at "own ev_e"; walk_at "own ev_test"; walk_at "own ev_ss")
  | (apply s_ite_f; walk_at "own ev_e"; walk_at "own ev_test"; walk_at "own ev_ss"; walk_at "own ev_ss")
  | (apply x_ite_t; walk_at "own ev_e"; walk_at "own ev_test"; walk_at "own ev_ss")
  | (apply s_cons; walk_at "own ev_s"; walk_at "own ev_ss"))
local macro_rules | `(tactic| walk_at "own ev") => `(tactic| first | walk_at "own ev_ss" | walk_at "own ev_s" | walk_at "own ev_e" | walk_at "own ev_es")
variable (n : Nat)
theorem op_addL {S : Sto} {i j : Nat} {a b : List D} (h1 : S[i]? = some (.lst a)) (h2 : S[j]? = some (.lst b)) (hl : a.length + b.length ≤ big) : binD .add (.ref i) (.ref j) S = .ok (.ref S.length) (S ++ [.lst (a ++ b)]) := by
  unfold binD
  simp only [h1, h2]
  rw [if_pos hl]
  rfl
def rowsM : Nat → List (List Bool)
  | 0 => [[]]
  | k + 1 => (rowsM k).map (· ++ [false]) ++ (rowsM k).map (· ++ [true])
theorem rowsM_len : ∀ k, (rowsM k).length = 2 ^ k
  | 0 => rfl
  | k + 1 => by simp [rowsM, rowsM_len k, Nat.pow_succ]; omega
theorem rowsM_mem : ∀ k, ∀ r ∈ rowsM k, r.length = k
  | 0, r, h => by simp [rowsM] at h; subst h; rfl
  | k + 1, r, h => by
    simp only [rowsM, List.mem_append, List.mem_map] at h
    rcases h with ⟨x, hx, rfl⟩ | ⟨x, hx, rfl⟩ <;> simp [rowsM_mem k x hx]
theorem rows_lc (b : Bool) (k : Nat) (hk : k ≤ 8) (a0 : Option D) (m : Nat) (a2 a3 : Option D) (c : Int) (hc : .int c = eb b) (S : Sto) (hm : S[m]? = some (.lst ((rowsM k).map W))) :
    qE (qC P n) (.lc [3] (.var 3) (.val (.var 1)) (.nil) (.bin .add (.var 3) (.tup (.cons (.int c) (.nil))))) [a0, some (.ref m), a2, a3] S = .ok (.ref S.length) (S ++ [.lst ((rowsM k).map fun r => W (r ++ [b]))]) := by
  have hmi : ∀ X, items (S ++ X) m = some ((rowsM k).map W) := fun X => items_app (by unfold items; rw [hm])
  have hp : 2 ^ k ≤ 2 ^ 8 := Nat.pow_le_pow_right (n := 2) (by decide) hk
  refine lc_all (v := .lst m) (enc := W) (rowsM k) (fun r => W (r ++ [b])) ?_ (by rw [rowsM_len]; omega) (fun i X => by simp only [turn]; rw [hmi]; rfl) (fun r hr X => ?_)
  · apply i_ref
    · walk_at "own ev"
    · have := hmi []; rwa [List.append_nil] at this
  · have hl := rowsM_mem k r hr
    refine ⟨[a0, some (.ref m), a2, some (W r)], g_var, ?_⟩
    apply e_of
    · apply r_bin
      · walk_at "own ev"
      · walk_at "own ev"
      · apply op_addT; simp [big]; omega
    · rw [hc]; simp [W]
    · rfl
theorem rows_ev (k : Nat) (hk : k ≤ 8) (S : Sto) : qC P (n + 1) 10 [.int (k : Nat)] S = .ok (.ref S.length) (S ++ [.lst ((rowsM k).map W)]) := by
  have hi : qI (qC P n) (.rng1 (.var 0)) [some (.int (k : Nat)), some (.ref 0), none, none] [.lst [.tup []]] = .ok (.rng 0 1 k) [.lst [.tup []]] := by
    apply i_rng1; walk_at "own ev_e"; walk_at "own ev_side"; rfl
  obtain ⟨env', S', h1, m, y2, y3, hm, rfl⟩ := foriP (C := qC P n) (g := .var 2) (b := B_law_rows_L0) (Rel := fun pre env S => ∃ m y2 y3, S[m]? = some (.lst ((rowsM pre.length).map W)) ∧ env = [some (.int (k : Nat)), some (.ref m), y2, y3]) (enc := fun k : Nat => D.int (k : Nat)) hi (List.range k) (by simp; omega) (fun i s env S _ => turn_rng1 _ i S)
    ⟨0, none, none, rfl, rfl⟩ (fun pre a post ep env S ⟨m, y2, y3, hm, e2⟩ => by
      subst e2
      obtain ⟨rfl, hlt⟩ := range_at ep
      have c1 := rows_lc n false pre.length (by omega) (some (.int (k : Nat))) m (some (.int (pre.length : Nat))) y3 0 rfl S hm
      have c2 := rows_lc n true pre.length (by omega) (some (.int (k : Nat))) m (some (.int (pre.length : Nat))) y3 1 rfl (S ++ [.lst ((rowsM pre.length).map fun r => W (r ++ [false]))]) (by rw [app_old (lt_of_some hm)]; exact hm)
      have hp : 2 ^ pre.length ≤ 2 ^ 8 := Nat.pow_le_pow_right (n := 2) (by decide) (by omega)
      have hl := rowsM_len pre.length
      apply Stp.nx g_var
      · unfold B_law_rows_L0
        apply s_cons
        · apply s_asg
          · apply r_bin c1 c2
            refine op_addL (a := (rowsM pre.length).map fun r => W (r ++ [false])) (b := (rowsM pre.length).map fun r => W (r ++ [true])) ?_ ?_ (by simp [hl, big]; omega)
            · rw [List.append_assoc, List.getElem?_append_right (Nat.le_refl _), Nat.sub_self]; rfl
            · rw [List.getElem?_concat_length]
          · exact g_var
        · walk_at "own ev"
      · refine ⟨_, some (.int (pre.length : Nat)), y3, ?_, rfl⟩
        rw [List.getElem?_concat_length, List.length_append, List.length_singleton, rowsM, List.map_append, List.map_map, List.map_map]
        rfl)
  rw [List.length_range] at hm
  apply call_lQ (d := ⟨1, 4, B_law_rows⟩) rfl rfl rfl (xs := (rowsM k).map W) (j := m) (env := [some (.int (k : Nat)), some (.ref m), y2, y3]) (S1 := S') _ hm (purs_W _)
  show qSs _ B_law_rows [some (.int (k : Nat)), none, none, none] [] = _
  unfold B_law_rows
  apply s_cons
  · walk_at "own ev"
  apply s_cons h1
  walk_at "own ev"
/-! refusals -/
theorem rest_x1 (w : List Bool) (S : Sto) : qC P (n + 1) 3 [W w, .tup [.int 1]] S = .exc ⟨0, none⟩ S := by
  apply call_x (df := ⟨2, 6, Brest⟩) rfl rfl (by simp [purs, pur])
  show qSs _ Brest [some (W w), some (.tup [.int 1]), none, none, none, none] [] = _
  unfold Brest
  apply x_ite_t
  · apply r_or_t
    · walk_at "own ev"
    · rfl
  · rfl
  · exact x_rais
theorem rest_x2 (w : List Bool) (S : Sto) : qC P (n + 1) 3 [W w, .tup [.int 0, .int 1]] S = .exc ⟨0, none⟩ S := by
  apply call_x (df := ⟨2, 6, Brest⟩) rfl rfl (by simp [purs, pur])
  show qSs _ Brest [some (W w), some (.tup [.int 0, .int 1]), none, none, none, none] [] = _
  unfold Brest
  apply x_ite_t
  · apply r_or_f
    · walk_at "own ev"
    · rfl
    · apply r_or_t
      · apply r_cmp
        · apply r_ix
          · walk_at "own ev"
          · walk_at "own ev"
          · rfl
        · walk_at "own ev"
        · rfl
      · rfl
  · rfl
  · exact x_rais
theorem rest_x3 (w : List Bool) (hw : w.length ≤ 100) (S : Sto) : qC P (n + 1) 3 [W w, .tup [.int 1, .int 2]] S = .exc ⟨0, none⟩ S := by
  have hg : qE (qC P n) (.gen true [5] (.var 5) (.val (.bin .add (.bi .tuple (.cons (.var 0) (.nil))) (.bi .tuple (.cons (.var 1) (.nil))))) (.nil) (.cmp .notin (.var 5) (.tup (.cons (.int (0)) (.cons (.int (1)) (.nil)))))) [some (W w), some (.tup [.int 1, .int 2]), none, none, none, none] [] = .ok (.bl true) [] := by
    rw [gen_Q (S1 := []) (v := .tup (w.map eb ++ [.int 1, .int 2])) (ds := w.map eb ++ [.int 1, .int 2]) (fun d => deq d (.int 2)) ?_ (by simp; omega) (fun i => rfl)]
    · rw [if_pos]
      simp [deq]
    · intro d hd
      refine ⟨[some (W w), some (.tup [.int 1, .int 2]), none, none, none, some d], g_var, t_nil, ?_⟩
      rcases List.mem_append.mp hd with hd | hd
      · obtain ⟨b, _, rfl⟩ := List.mem_map.mp hd
        cases b <;> (apply e_of; walk_at "own ev"; rfl; rfl)
      · simp at hd
        rcases hd with rfl | rfl <;> (apply e_of; walk_at "own ev"; rfl; rfl)
    · apply i_tup
      apply r_bin
      · walk_at "own ev"
      · walk_at "own ev"
      · apply op_addT; simp [big]; omega
  apply call_x (df := ⟨2, 6, Brest⟩) rfl rfl (by simp [purs, pur])
  show qSs _ Brest [some (W w), some (.tup [.int 1, .int 2]), none, none, none, none] [] = _
  unfold Brest
  apply x_ite_t
  · apply r_or_f
    · walk_at "own ev"
    · rfl
    · apply r_or_f
      · apply r_cmp
        · apply r_ix
          · walk_at "own ev"
          · walk_at "own ev"
          · rfl
        · walk_at "own ev"
        · rfl
      · rfl
      · exact hg
  · rfl
  · exact x_rais
theorem sound_x (S : Sto) : qC P (n + 1) 5 [.tup [], .tup [.int 1, .int 1]] S = .exc ⟨0, none⟩ S := by
  apply call_x (df := ⟨2, 3, Bis_sound⟩) rfl rfl (by simp [purs, pur])
  show qSs _ Bis_sound [some (.tup []), some (.tup [.int 1, .int 1]), none] [] = _
  unfold Bis_sound
  apply s_cons
  · walk_at "own ev"
  apply x_ite_t
  · walk_at "own ev_e"
  · rfl
  · exact x_rais
end K54
end
section
set_option maxRecDepth 100000
namespace K54
open Ev Ew
local macro_rules | `(tactic| walk_at "own ev_call") => `(tactic| focus (apply_assumption <;> first | assumption | omega))
local macro_rules | `(tactic| walk_at "own ev_call") => `(tactic| assumption)
local macro_rules | `(tactic| walk_at "own ev_get") => `(tactic| assumption)
local macro_rules | `(tactic| walk_at "own ev_get") => `(tactic| rfl)
local macro_rules | `(tactic| walk_at "own ev_op") => `(tactic| (apply ix_last; walk_at "own ev_get"))
local macro_rules | `(tactic| walk_at "own ev_op") => `(tactic| (apply ix_ref; walk_at "own ev_get"; walk_at "own ev_side"; walk_at "own ev_get"))
local macro_rules | `(tactic| walk_at "own ev_op") => `(tactic| (apply ix_tup; walk_at "own ev_side"; walk_at "own ev_get"))
local macro_rules | `(tactic| walk_at "own ev_op") => `(tactic| (apply op_append; walk_at "own ev_get"; walk_at "own ev_side"))
local macro_rules | `(tactic| walk_at "own ev_op") => `(tactic| (apply set_lst; walk_at "own ev_get"; walk_at "own ev_side"; walk_at "own ev_side"))
local macro_rules | `(tactic| walk_at "own ev_op") => `(tactic| (apply op_addT; walk_at "own ev_side"))
local macro_rules | `(tactic| walk_at "own ev_op") => `(tactic| (apply op_mulR; walk_at "own ev_side"))
local macro_rules | `(tactic| walk_at "own ev_op") => `(tactic| (apply op_mulL; walk_at "own ev_side"))
local macro_rules | `(tactic| walk_at "own ev_op") => `(tactic| (apply op_mulT; walk_at "own ev_side"))
local macro_rules | `(tactic| walk_at "own ev_op") => `(tactic| (apply op_mulF; walk_at "own ev_get"; walk_at "own ev_side"))
local macro_rules | `(tactic| walk_at "own ev_op") => `(tactic| (apply op_fdiv; walk_at "own ev_side"; walk_at "own ev_side"))
local macro_rules | `(tactic| walk_at "own ev_op") => `(tactic| (apply op_mod; walk_at "own ev_side"))
local macro_rules | `(tactic| walk_at "own ev_op") => `(tactic| rfl)
local macro_rules | `(tactic| walk_at "own ev_test") => `(tactic| focus (simp [truth, *]; done))
local macro_rules | `(tactic| walk_at "own ev_test") => `(tactic| rfl)
local macro_rules | `(tactic| walk_at "own ev_side") => `(tactic| focus first | decide | (simp [big, word]; done) | omega | (simp [big]; omega) | (simp [word]; omega) | (simp [few]; omega) | (simp [small]; omega))
local macro_rules | `(tactic| walk_at "own ev_stm") => `(tactic| assumption)
local macro_rules | `(tactic| walk_at "own ev_e") => `(tactic| first
  | exact r_var rfl
  | exact r_int
  | exact r_bl
  | exact r_str
  | exact r_non
  | (apply r_bin; walk_at "own ev_e"; walk_at "own ev_e"; walk_at "own ev_op")
  | (apply r_neg; walk_at "own ev_e")
  | (apply r_not; walk_at "own ev_e"; walk_at "own ev_test")
  | (apply r_cmp; walk_at "own ev_e"; walk_at "own ev_e"; walk_at "own ev_op")
  | (apply r_cmp2; walk_at "own ev_e"; walk_at "own ev_e"; walk_at "own ev_op"; walk_at "own ev_e"; walk_at "own ev_op")
  | (apply r_and_f; walk_at "own ev_e"; walk_at "own ev_test")
  | (apply r_and_t; walk_at "own ev_e"; walk_at "own ev_test"; walk_at "own ev_e")
  | (apply r_and; walk_at "own ev_e"; walk_at "own ev_e")
  | (apply r_or_t; walk_at "own ev_e"; walk_at "own ev_test")
  | (apply r_or_f; walk_at "own ev_e"; walk_at "own ev_test"; walk_at "own ev_e")
  | (apply r_or; walk_at "own ev_e"; walk_at "own ev_e")
  | (apply r_ife_t; walk_at "own ev_e"; walk_at "own ev_test"; walk_at "own ev_e")
  | (apply r_ife_f; walk_at "own ev_e"; walk_at "own ev_test"; walk_at "own ev_e")
  | (apply r_tup; walk_at "own ev_es"; walk_at "own ev_side")
  | (apply r_lst; walk_at "own ev_es"; walk_at "own ev_side")
  | (apply r_ix; walk_at "own ev_e"; walk_at "own ev_e"; walk_at "own ev_op")
  | (apply r_sl; walk_at "own ev_e"; walk_at "own ev_eo"; walk_at "own ev_eo"; walk_at "own ev_op")
  | (apply r_call; walk_at "own ev_es"; walk_at "own ev_call")
  | (apply r_bi; walk_at "own ev_es"; walk_at "own ev_op")
  | (apply r_me; walk_at "own ev_e"; walk_at "own ev_op"; walk_at "own ev_es"; walk_at "own ev_op")
  | (apply r_isi; walk_at "own ev_e"; walk_at "own ev_op")
  | (apply r_told; walk_at "own ev_e")
  | walk_at "own ev_stm")
local macro_rules | `(tactic| walk_at "own ev_es") => `(tactic| first | exact r_nil | (apply r_cons; walk_at "own ev_e"; walk_at "own ev_es"))
local macro_rules | `(tactic| walk_at "own ev_eo") => `(tactic| first | exact r_none | (apply r_some; walk_at "own ev_e"))
local macro_rules | `(tactic| walk_at "own ev_g") => `(tactic| first | exact g_var | exact g_nil | (apply g_tup; walk_at "own ev_g") | (apply g_cons; walk_at "own ev_g"; walk_at "own ev_g") | (apply g_sub; walk_at "own ev_e"; walk_at "own ev_e"; walk_at "own ev_op"))
local macro_rules | `(tactic| walk_at "own ev_s") => `(tactic| first
  | (apply s_asg; walk_at "own ev_e"; walk_at "own ev_g")
  | (apply s_par; walk_at "own ev_es"; rfl)
  | (apply s_aug; rfl; walk_at "own ev_e"; walk_at "own ev_op")
  | (apply s_expr; walk_at "own ev_e")
  | walk_at "own ev_stm")
local macro_rules | `(tactic| walk_at "own ev_ss") => `(tactic| first
  | exact s_nil
  | (apply s_ret; walk_at "own ev_e")
  | exact x_rais
  | (apply s_ite_tr; walk_at "own ev_e"; walk_at "own ev_test"; walk_at "own ev_ss")
  | (apply s_ite_t; walk_at "own ev_e"; walk_at "own ev_test"; walk_at "own ev_ss"; walk_at "own ev_ss")
  | (apply s_ite_fr; walk_at "own ev_e"; walk_at "own ev_test"; walk_at "own ev_ss")
  | (apply s_ite_f; walk_at "own ev_e"; walk_at "own ev_test"; walk_at "own ev_ss"; walk_at "own ev_ss")
  | (apply x_ite_t; walk_at "own ev_e"; walk_at "own ev_test"; walk_at "own ev_ss")
  | (apply s_cons; walk_at "own ev_s"; walk_at "own ev_ss"))
local macro_rules | `(tactic| walk_at "own ev") => `(tactic| first | walk_at "own ev_ss" | walk_at "own ev_s" | walk_at "own ev_e" | walk_at "own ev_es")
variable (n : Nat)
def ones (r : List Bool) : Nat := (r.map b2n).sum
theorem ints_eb : ∀ r : List Bool, intsD (r.map eb) = some (r.map fun b => ((b2n b : Nat) : Int))
  | [] => rfl
  | b :: r => by simp [intsD, eb, ints_eb r]
theorem sum_ones : ∀ r : List Bool, (r.map fun b => ((b2n b : Nat) : Int)).sum = ((ones r : Nat) : Int)
  | [] => rfl
  | b :: r => by
    have := sum_ones r
    simp only [ones, List.map_cons, List.sum_cons] at this ⊢
    rw [this]; simp
theorem sum_W (r : List Bool) (S : Sto) : biD .sum [W r] S = .ok (.int (ones r : Nat)) S := by
  show (match intsD (r.map eb) with | some is => Res.ok (D.int is.sum) S | none => .bad) = _
  rw [ints_eb]
  simp only
  rw [sum_ones]
theorem bits_range (num : Nat) : ∀ k, (List.range k).map (fun j => decide (num / 2 ^ j % 2 = 1)) = bits num k
  | 0 => rfl
  | k + 1 => by rw [List.range_succ, List.map_append, bits_range num k, bits_snoc]; rfl
def encO : Option Nat → D
  | none => .non
  | some k => .int (k : Nat)
def unStep (g : List Bool) (wide : Nat) (best : Option Nat) (k : Nat) : Option Nat :=
  if soundM (bits (1 + k) wide) g then some (match best with | none => ones (bits (1 + k) wide) | some b => if ones (bits (1 + k) wide) < b then ones (bits (1 + k) wide) else b) else best
def unM (g : List Bool) (wide : Nat) : Option Nat := (List.range (2 ^ wide - 1)).foldl (unStep g wide) none
theorem row_lc (num wide : Nat) (hw : wide ≤ 8) (a0 a2 a4 a5 : Option D) (S : Sto) :
    qE (qC P (n + 1)) (.bi .tuple (.cons (.lc [5] (.var 5) (.rng1 (.var 1)) (.nil) (.bin .mod (.bin .fdiv (.var 3) (.call 0 (.cons (.var 5) (.nil)))) (.int (2)))) (.nil))) [a0, some (.int (wide : Nat)), a2, some (.int (num : Nat)), a4, a5] S = .ok (W (bits num wide)) (S ++ [.lst ((bits num wide).map eb)]) := by
  have hlc := lc_all (C := qC P (n + 1)) (vs := [5]) (g := .var 5) (it := .rng1 (.var 1)) (e := .bin .mod (.bin .fdiv (.var 3) (.call 0 (.cons (.var 5) (.nil)))) (.int (2))) (env := [a0, some (.int (wide : Nat)), a2, some (.int (num : Nat)), a4, a5]) (S := S) (S1 := S) (v := .rng 0 1 wide) (enc := fun k : Nat => D.int (k : Nat)) (List.range wide) (fun j => eb (decide (num / 2 ^ j % 2 = 1)))
    (by apply i_rng1; walk_at "own ev_e"; walk_at "own ev_side"; rfl) (by simp; omega) (fun i X => turn_rng1 _ i _) (fun j hj X => by
      have hj' := List.mem_range.mp hj
      have ht := fun S => twos_ev n j (by omega) S
      have hp : 2 ^ j ≤ 2 ^ 8 := Nat.pow_le_pow_right (n := 2) (by decide) (by omega)
      have hp0 := Nat.two_pow_pos j
      refine ⟨[a0, some (.int (wide : Nat)), a2, some (.int (num : Nat)), a4, some (.int (j : Nat))], g_var, ?_⟩
      apply e_of
      · apply r_bin
        · apply r_bin
          · walk_at "own ev"
          · apply r_call
            · walk_at "own ev"
            · exact ht _
          · apply op_fdiv <;> omega
        · walk_at "own ev"
        · walk_at "own ev_op"
      · rw [show ((num : Nat) : Int) / ((2 ^ j : Nat) : Int) % 2 = ((num / 2 ^ j % 2 : Nat) : Int) from rfl]
        rcases Nat.mod_two_eq_zero_or_one (num / 2 ^ j) with z | z <;> rw [z] <;> rfl
      · rfl)
  rw [show (List.range wide).map (fun j => eb (decide (num / 2 ^ j % 2 = 1))) = (bits num wide).map eb by rw [← bits_range, List.map_map]; rfl] at hlc
  apply r_bi
  · exact r_cons hlc r_nil
  · show (match items (S ++ [MO.lst _]) S.length with | some ys => Res.ok (D.tup ys) (S ++ [MO.lst _]) | none => .bad) = _
    rw [items_new]
    rfl
theorem unseen_ev (g : List Bool) (wide : Nat) (hg : okG g) (hw : g.length - 1 ≤ wide) (hw8 : wide ≤ 8) (S : Sto) : qC P (n + 3) 6 [W g, .int (wide : Nat)] S = .ok (encO (unM g wide)) S := by
  have ht := fun S => twos_ev (n + 1) wide (by omega) S
  have hp : 2 ^ wide ≤ 2 ^ 8 := Nat.pow_le_pow_right (n := 2) (by decide) hw8
  have hp0 := Nat.two_pow_pos wide
  have g2 := hg.1
  have hi : qI (qC P (n + 2)) (.rng2 (.int (1)) (.call 0 (.cons (.var 1) (.nil)))) [some (W g), some (.int (wide : Nat)), some .non, none, none, none] [] = .ok (.rng 1 1 (2 ^ wide - 1)) [] := by
    apply i_rng2
    · walk_at "own ev"
    · apply r_call
      · walk_at "own ev"
      · exact ht _
    · simp only [word, Bool.and_eq_true, decide_eq_true_eq]; omega
    · omega
  obtain ⟨env', S', h1, y3, y4, y5, rfl⟩ := fori (g := .var 3) (b := Bunseen_L0) (Rel := fun (best : Option Nat) env S => ∃ y3 y4 y5, env = [some (W g), some (.int (wide : Nat)), some (encO best), y3, y4, y5]) (enc := fun k : Nat => D.int ((1 + k : Nat) : Int)) (unStep g wide) (s0 := none) hi (List.range (2 ^ wide - 1)) (by simp; omega)
    (fun i s env S _ => by rw [turn_rng]; congr 2; refine List.map_congr_left fun k _ => ?_; congr 1; omega) ⟨none, none, none, rfl⟩ (fun k hk best env S ⟨y3, y4, y5, e2⟩ => by
      subst e2
      have hrow := row_lc (n + 1) (1 + k) wide hw8 (some (W g)) (some (encO best)) y4 y5 S
      have hlen := bits_len wide (1 + k)
      have hs := fun S => sound_ev n (bits (1 + k) wide) g (by omega) hg (by omega) S
      have hsum := fun S => sum_W (bits (1 + k) wide) S
      generalize hr : bits (1 + k) wide = r at *
      have s1 : qS (qC P (n + 2)) (.asg (.var 4) (.bi .tuple (.cons (.lc [5] (.var 5) (.rng1 (.var 1)) (.nil) (.bin .mod (.bin .fdiv (.var 3) (.call 0 (.cons (.var 5) (.nil)))) (.int (2)))) (.nil)))) ([some (W g), some (.int (wide : Nat)), some (encO best), y3, y4, y5].set 3 (some (.int ((1 + k : Nat) : Int)))) S = .ok .nx [some (W g), some (.int (wide : Nat)), some (encO best), some (.int ((1 + k : Nat) : Int)), some (W r), y5] (S ++ [.lst (r.map eb)]) :=
        s_asg hrow g_var
      have hc : ∀ T, qE (qC P (n + 2)) (.iand (.cmp .ge (.var 1) (.bin .sub (.bi .len (.cons (.var 0) (.nil))) (.int (1)))) (.call 5 (.cons (.var 4) (.cons (.var 0) (.nil))))) [some (W g), some (.int (wide : Nat)), some (encO best), some (.int ((1 + k : Nat) : Int)), some (W r), y5] T = .ok (.bl (soundM r g)) T := fun T => by
        apply r_and_t
        · apply r_cmp
          · walk_at "own ev"
          · walk_at "own ev"
          · rfl
        · simp [truth]; omega
        · apply r_call
          · walk_at "own ev"
          · exact hs _
      unfold unStep
      rw [hr]
      cases hb : soundM r g with
      | false =>
        apply Stp.nx g_var
        · unfold Bunseen_L0
          apply s_cons s1
          apply s_ite_f
          · exact hc _
          · rw [hb]; rfl
          · walk_at "own ev"
          · walk_at "own ev"
        · exact ⟨_, _, _, rfl⟩
      | true =>
        cases best with
        | none =>
          apply Stp.nx g_var
          · unfold Bunseen_L0
            apply s_cons s1
            apply s_ite_t
            · exact hc _
            · rw [hb]; rfl
            · apply s_cons
              · apply s_asg
                · apply r_ife_t
                  · apply r_cmp
                    · walk_at "own ev"
                    · walk_at "own ev"
                    · rfl
                  · rfl
                  · apply r_bi
                    · walk_at "own ev"
                    · exact hsum _
                · exact g_var
              · walk_at "own ev"
            · walk_at "own ev"
          · exact ⟨_, _, _, rfl⟩
        | some b =>
          apply Stp.nx g_var
          · unfold Bunseen_L0
            apply s_cons s1
            apply s_ite_t
            · exact hc _
            · rw [hb]; rfl
            · apply s_cons
              · apply s_asg
                · apply r_ife_f
                  · apply r_cmp
                    · walk_at "own ev"
                    · walk_at "own ev"
                    · rfl
                  · rfl
                  · apply r_bi
                    · apply r_cons
                      · walk_at "own ev"
                      · apply r_cons
                        · apply r_bi
                          · walk_at "own ev"
                          · exact hsum _
                        · walk_at "own ev"
                    · rfl
                · exact g_var
              · walk_at "own ev"
            · walk_at "own ev"
          · refine ⟨some (.int ((1 + k : Nat) : Int)), some (W r), y5, ?_⟩
            show [some (W g), some (.int (wide : Nat)), some (D.int (if ((ones r : Nat) : Int) < ((b : Nat) : Int) then ((ones r : Nat) : Int) else ((b : Nat) : Int))), some (.int ((1 + k : Nat) : Int)), some (W r), y5] = [some (W g), some (.int (wide : Nat)), some (D.int ((if ones r < b then ones r else b : Nat) : Int)), some (.int ((1 + k : Nat) : Int)), some (W r), y5]
            by_cases q : ones r < b
            · rw [if_pos q, if_pos (by omega)]
            · rw [if_neg q, if_neg (by omega)])
  apply call_rv (df := ⟨2, 6, Bunseen⟩) rfl rfl (by simp [purs, pur]) (by show pur (encO _) = true; cases unM g wide <;> rfl)
  · show qSs _ Bunseen [some (W g), some (.int (wide : Nat)), none, none, none, none] [] = _
    unfold Bunseen
    apply s_ite_f
    · walk_at "own ev"
    · simp [truth]; omega
    · walk_at "own ev"
    apply s_cons
    · walk_at "own ev"
    apply s_cons h1
    walk_at "own ev"
  · rfl
end K54
end
section
set_option maxRecDepth 100000
namespace K54
open Ev Ew
variable (n : Nat)
/-! shortest -/
structure BM where
  taps : List Bool
  last : List Bool
  long : Nat
  gap : Nat
/-- the sum of tapped bits, and the bit itself -/
def wrongM (taps row : List Bool) (m : Nat) (bit : Bool) : Nat → Bool
  | 0 => bit
  | j + 1 => xor (wrongM taps row m bit j) ((decide (j + 1 < taps.length) && taps.getD (j + 1) false) && row.getD (m - (j + 1)) false)
def afterM (s : BM) : List Bool := addAt (s.taps ++ List.replicate (s.last.length + s.gap - s.taps.length) false) s.gap s.last.zipIdx
def bmStep (row : List Bool) (s : BM) (p : Bool × Nat) : BM :=
  if wrongM s.taps row p.2 p.1 s.long = false then { s with gap := s.gap + 1 }
  else if 2 * s.long ≤ p.2 then ⟨afterM s, s.taps, p.2 + 1 - s.long, 1⟩
  else { s with taps := afterM s, gap := s.gap + 1 }
def bmM (row : List Bool) : BM := row.zipIdx.foldl (bmStep row) ⟨[true], [true], 0, 1⟩
def shortM (row : List Bool) : Nat × List Bool := ((bmM row).long, (((bmM row).taps ++ List.replicate (bmM row).long false).drop 1).take (bmM row).long)
theorem wrong_mod (a b c : Bool) : ((b2n a : Nat) + (b2n b : Nat) * (b2n c : Nat) : Int) % 2 = (b2n (xor a (b && c)) : Nat) := xor_mod a b c
end K54
end
section
set_option maxRecDepth 100000
namespace K54
open Ev Ew
local macro_rules | `(tactic| walk_at "own ev_call") => `(tactic| focus (apply_assumption <;> first | assumption | omega))
local macro_rules | `(tactic| walk_at "own ev_call") => `(tactic| assumption)
local macro_rules | `(tactic| walk_at "own ev_get") => `(tactic| assumption)
local macro_rules | `(tactic| walk_at "own ev_get") => `(tactic| rfl)
local macro_rules | `(tactic| walk_at "own ev_op") => `(tactic| (apply ix_last; walk_at "own ev_get"))
local macro_rules | `(tactic| walk_at "own ev_op") => `(tactic| (apply ix_ref; walk_at "own ev_get"; walk_at "own ev_side"; walk_at "own ev_get"))
local macro_rules | `(tactic| walk_at "own ev_op") => `(tactic| (apply ix_tup; walk_at "own ev_side"; walk_at "own ev_get"))
local macro_rules | `(tactic| walk_at "own ev_op") => `(tactic| (apply op_append; walk_at "own ev_get"; walk_at "own ev_side"))
local macro_rules | `(tactic| walk_at "own ev_op") => `(tactic| (apply set_lst; walk_at "own ev_get"; walk_at "own ev_side"; walk_at "own ev_side"))
local macro_rules | `(tactic| walk_at "own ev_op") => `(tactic| (apply op_addT; walk_at "own ev_side"))
local macro_rules | `(tactic| walk_at "own ev_op") => `(tactic| (apply op_mulR; walk_at "own ev_side"))
local macro_rules | `(tactic| walk_at "own ev_op") => `(tactic| (apply op_mulL; walk_at "own ev_side"))
local macro_rules | `(tactic| walk_at "own ev_op") => `(tactic| (apply op_mulT; walk_at "own ev_side"))
local macro_rules | `(tactic| walk_at "own ev_op") => `(tactic| (apply op_mulF; walk_at "own ev_get"; walk_at "own ev_side"))
local macro_rules | `(tactic| walk_at "own ev_op") => `(tactic| (apply op_fdiv; walk_at "own ev_side"; walk_at "own ev_side"))
local macro_rules | `(tactic| walk_at "own ev_op") => `(tactic| (apply op_mod; walk_at "own ev_side"))
local macro_rules | `(tactic| walk_at "own ev_op") => `(tactic| rfl)
local macro_rules | `(tactic| walk_at "own ev_test") => `(tactic| focus (simp [truth, *]; done))
local macro_rules | `(tactic| walk_at "own ev_test") => `(tactic| rfl)
local macro_rules | `(tactic| walk_at "own ev_side") => `(tactic| focus first | decide | (simp [big, word]; done) | omega | (simp [big]; omega) | (simp [word]; omega) | (simp [few]; omega) | (simp [small]; omega))
local macro_rules | `(tactic| walk_at "own ev_stm") => `(tactic| assumption)
local macro_rules | `(tactic| walk_at "own ev_e") => `(tactic| first
  | exact r_var rfl
  | exact r_int
  | exact r_bl
  | exact r_str
  | exact r_non
  | (apply r_bin; walk_at "own ev_e"; walk_at "own ev_e"; walk_at "own ev_op")
  | (apply r_neg; walk_at "own ev_e")
  | (apply r_not; walk_at "own ev_e"; walk_at "own ev_test")
  | (apply r_cmp; walk_at "own ev_e"; walk_at "own ev_e"; walk_at "own ev_op")
  | (apply r_cmp2; walk_at "own ev_e"; walk_at "own ev_e"; walk_at "own ev_op"; walk_at "own ev_e"; walk_at "own ev_op")
  | (apply r_and_f; walk_at "own ev_e"; walk_at "own ev_test")
  | (apply r_and_t; walk_at "own ev_e"; walk_at "own ev_test"; walk_at "own ev_e")
  | (apply r_and; walk_at "own ev_e"; walk_at "own ev_e")
  | (apply r_or_t; walk_at "own ev_e"; walk_at "own ev_test")
  | (apply r_or_f; walk_at "own ev_e"; walk_at "own ev_test"; walk_at "own ev_e")
  | (apply r_or; walk_at "own ev_e"; walk_at "own ev_e")
  | (apply r_ife_t; walk_at "own ev_e"; walk_at "own ev_test"; walk_at "own ev_e")
  | (apply r_ife_f; walk_at "own ev_e"; walk_at "own ev_test"; walk_at "own ev_e")
  | (apply r_tup; walk_at "own ev_es"; walk_at "own ev_side")
  | (apply r_lst; walk_at "own ev_es"; walk_at "own ev_side")
  | (apply r_ix; walk_at "own ev_e"; walk_at "own ev_e"; walk_at "own ev_op")
  | (apply r_sl; walk_at "own ev_e"; walk_at "own ev_eo"; walk_at "own ev_eo"; walk_at "own ev_op")
  | (apply r_call; walk_at "own ev_es"; walk_at "own ev_call")
  | (apply r_bi; walk_at "own ev_es"; walk_at "own ev_op")
  | (apply r_me; walk_at "own ev_e"; walk_at "own ev_op"; walk_at "own ev_es"; walk_at "own ev_op")
  | (apply r_isi; walk_at "own ev_e"; walk_at "own ev_op")
  | (apply r_told; walk_at "own ev_e")
  | walk_at "own ev_stm")
local macro_rules | `(tactic| walk_at "own ev_es") => `(tactic| first | exact r_nil | (apply r_cons; walk_at "own ev_e"; walk_at "own ev_es"))
local macro_rules | `(tactic| walk_at "own ev_eo") => `(tactic| first | exact r_none | (apply r_some; walk_at "own ev_e"))
local macro_rules | `(tactic| walk_at "own ev_g") => `(tactic| first | exact g_var | exact g_nil | (apply g_tup; walk_at "own ev_g") | (apply g_cons; walk_at "own ev_g"; walk_at "own ev_g") | (apply g_sub; walk_at "own ev_e"; walk_at "own ev_e"; walk_at "own ev_op"))
local macro_rules | `(tactic| walk_at "own ev_s") => `(tactic| first
  | (apply s_asg; walk_at "own ev_e"; walk_at "own ev_g")
  | (apply s_par; walk_at "own ev_es"; rfl)
  | (apply s_aug; rfl; walk_at "own ev_e"; walk_at "own ev_op")
  | (apply s_expr; walk_at "own ev_e")
  | walk_at "own ev_stm")
local macro_rules | `(tactic| walk_at "own ev_ss") => `(tactic| first
  | exact s_nil
  | (apply s_ret; walk_at "own ev_e")
  | exact x_rais
  | (apply s_ite_tr; walk_at "own ev_e"; walk_at "own ev_test"; walk_at "own ev_ss")
  | (apply s_ite_t; walk_at "own ev_e"; walk_at "own ev_test"; walk_at "own ev_ss"; walk_at "own ev_ss")
  | (apply s_ite_fr; walk_at "own ev_e"; walk_at "own ev_test"; walk_at "own ev_ss")
  | (apply s_ite_f; walk_at "own ev_e"; walk_at "own ev_test"; walk_at "own ev_ss"; walk_at "own ev_ss")
  | (apply x_ite_t; walk_at "own ev_e"; walk_at "own ev_test"; walk_at "own ev_ss")
  | (apply s_cons; walk_at "own ev_s"; walk_at "own ev_ss"))
local macro_rules | `(tactic| walk_at "own ev") => `(tactic| first | walk_at "own ev_ss" | walk_at "own ev_s" | walk_at "own ev_e" | walk_at "own ev_es")
variable (n : Nat)
def bmF (row : List Bool) (pre : List (Bool × Nat)) : BM := pre.foldl (bmStep row) ⟨[true], [true], 0, 1⟩
theorem bmF_snoc (row : List Bool) (pre : List (Bool × Nat)) (p : Bool × Nat) : bmF row (pre ++ [p]) = bmStep row (bmF row pre) p := by unfold bmF; rw [List.foldl_append]; rfl
structure BMi (s : BM) (m : Nat) : Prop where
  lo : s.long ≤ m
  tp : s.taps.length ≤ m + 1
  la : s.last.length + s.gap ≤ m + 2
theorem after_len (s : BM) : (afterM s).length = max s.taps.length (s.last.length + s.gap) := by unfold afterM; rw [addAt_len]; simp; omega
theorem bm_inv (row : List Bool) (s : BM) (b : Bool) (m : Nat) (h : BMi s m) : BMi (bmStep row s (b, m)) (m + 1) := by
  obtain ⟨h1, h2, h3⟩ := h
  unfold bmStep
  simp only
  split
  · exact ⟨Nat.le_succ_of_le h1, by show s.taps.length ≤ _; omega, by show s.last.length + (s.gap + 1) ≤ _; omega⟩
  · split
    · exact ⟨by show m + 1 - s.long ≤ _; omega, by show (afterM s).length ≤ _; rw [after_len]; omega, by show s.taps.length + 1 ≤ _; omega⟩
    · exact ⟨Nat.le_succ_of_le h1, by show (afterM s).length ≤ _; rw [after_len]; omega, by show s.last.length + (s.gap + 1) ≤ _; omega⟩
theorem set_last {S : Sto} {x y z l l' : MO} : (S ++ [x, y, z, l]).set (S.length + 3) l' = S ++ [x, y, z, l'] := by
  rw [List.set_append_right _ _ (by omega)]
  congr 1
  rw [Nat.add_sub_cancel_left]; rfl
theorem get_last {S : Sto} {x y z l : MO} : (S ++ [x, y, z, l])[S.length + 3]? = some l := by
  rw [List.getElem?_append_right (by omega), Nat.add_sub_cancel_left]; rfl
/-- the loop over the tapped places -/
theorem wrong_loop (row taps : List Bool) (m long gap mt ml : Nat) (bit : Bool) (hm : m < row.length) (hr : row.length ≤ 50) (hl : long ≤ m) (ht : taps.length ≤ m + 1) (y8 y9 y10 y11 : Option D) (S : Sto) (hS : S[mt]? = some (.lst (taps.map eb))) :
    ∃ z8, qS (qC P n) (.fori (.var 8) (.rng2 (.int (1)) (.bin .add (.var 3) (.int (1)))) Bshortest_L0) [some (W row), some (.ref mt), some (.ref ml), some (.int (long : Nat)), some (.int (gap : Nat)), some (.int (m : Nat)), some (eb bit), some (eb bit), y8, y9, y10, y11] S =
      .ok .nx [some (W row), some (.ref mt), some (.ref ml), some (.int (long : Nat)), some (.int (gap : Nat)), some (.int (m : Nat)), some (eb bit), some (eb (wrongM taps row m bit long)), z8, y9, y10, y11] S := by
  have hmi : items S mt = some (taps.map eb) := by unfold items; rw [hS]
  obtain ⟨env', S', h1, rfl, z8, rfl⟩ := foriP (C := qC P n) (g := .var 8) (b := Bshortest_L0) (it := .rng2 (.int (1)) (.bin .add (.var 3) (.int (1)))) (v := .rng 1 1 long) (env := [some (W row), some (.ref mt), some (.ref ml), some (.int (long : Nat)), some (.int (gap : Nat)), some (.int (m : Nat)), some (eb bit), some (eb bit), y8, y9, y10, y11]) (S := S) (S1 := S)
    (Rel := fun pre env S' => S' = S ∧ ∃ y8, env = [some (W row), some (.ref mt), some (.ref ml), some (.int (long : Nat)), some (.int (gap : Nat)), some (.int (m : Nat)), some (eb bit), some (eb (wrongM taps row m bit pre.length)), y8, y9, y10, y11]) (enc := fun k : Nat => D.int ((1 + k : Nat) : Int))
    (by
      apply i_rng2
      · walk_at "own ev"
      · walk_at "own ev"
      · simp [word]; omega
      · omega) (List.range long) (by simp; omega) (fun i s env S _ => by rw [turn_rng]; congr 2; refine List.map_congr_left fun k _ => ?_; congr 1; omega) ⟨rfl, y8, rfl⟩ (fun pre k post ep env S' ⟨e1, y8, e2⟩ => by
      subst e1 e2
      obtain ⟨rfl, hlt⟩ := range_at ep
      have g2 : (row.map eb)[(((m : Nat) : Int) - ((1 + pre.length : Nat) : Int)).toNat]? = some (eb (row.getD (m - (pre.length + 1)) false)) := get_eb (by omega) (by omega)
      have e1 : qE (qC P n) (.ife (.cmp .lt (.var 8) (.bi .len (.cons (.var 1) (.nil)))) (.ix (.var 1) (.var 8)) (.int (0))) [some (W row), some (.ref mt), some (.ref ml), some (.int (long : Nat)), some (.int (gap : Nat)), some (.int (m : Nat)), some (eb bit), some (eb (wrongM taps row m bit pre.length)), some (.int ((1 + pre.length : Nat) : Int)), y9, y10, y11] S' = .ok (eb (decide (pre.length + 1 < taps.length) && taps.getD (pre.length + 1) false)) S' := by
        have hlen : qE (qC P n) (.cmp .lt (.var 8) (.bi .len (.cons (.var 1) (.nil)))) [some (W row), some (.ref mt), some (.ref ml), some (.int (long : Nat)), some (.int (gap : Nat)), some (.int (m : Nat)), some (eb bit), some (eb (wrongM taps row m bit pre.length)), some (.int ((1 + pre.length : Nat) : Int)), y9, y10, y11] S' = .ok (.bl (decide (pre.length + 1 < taps.length))) S' := by
          apply e_of
          · apply r_cmp
            · walk_at "own ev"
            · apply r_bi
              · walk_at "own ev"
              · show (match items S' mt with | some ys => Res.ok (D.int (ys.length : Nat)) S' | none => .bad) = _
                rw [hmi]
            · rfl
          · congr 1
            simp only [List.length_map]
            exact decide_eq_decide.mpr (by omega)
          · rfl
        by_cases q : pre.length + 1 < taps.length
        · have g1 : (taps.map eb)[((1 + pre.length : Nat) : Int).toNat]? = some (eb (taps.getD (pre.length + 1) false)) := get_eb (by omega) q
          apply r_ife_t hlen
          · simp [truth, q]
          · apply e_of
            · apply r_ix
              · walk_at "own ev"
              · walk_at "own ev"
              · exact ix_ref hmi (by omega) g1
            · rw [decide_eq_true q]; rfl
            · rfl
        · apply r_ife_f hlen
          · simp [truth, q]
          · apply e_of
            · walk_at "own ev"
            · rw [decide_eq_false q]; rfl
            · rfl
      apply Stp.nx g_var
      · unfold Bshortest_L0
        apply s_cons
        · apply s_asg
          · apply e_of
            · apply r_bin
              · apply r_bin
                · walk_at "own ev"
                · apply r_bin e1
                  · apply r_ix
                    · walk_at "own ev"
                    · walk_at "own ev"
                    · exact ix_tup (by omega) g2
                  · apply op_mulR
                    cases row.getD (m - (pre.length + 1)) false <;> rfl
                · rfl
              · walk_at "own ev"
              · walk_at "own ev_op"
            · rw [xor_mod]
            · rfl
          · exact g_var
        · walk_at "own ev"
      · refine ⟨rfl, some (.int ((1 + pre.length : Nat) : Int)), ?_⟩
        rw [List.length_append, List.length_singleton, wrongM]
        rfl)
  rw [List.length_range] at h1
  exact ⟨z8, h1⟩
end K54
end
section
set_option maxRecDepth 100000
namespace K54
open Ev Ew
local macro_rules | `(tactic| walk_at "own ev_call") => `(tactic| focus (apply_assumption <;> first | assumption | omega))
local macro_rules | `(tactic| walk_at "own ev_call") => `(tactic| assumption)
local macro_rules | `(tactic| walk_at "own ev_get") => `(tactic| assumption)
local macro_rules | `(tactic| walk_at "own ev_get") => `(tactic| rfl)
local macro_rules | `(tactic| walk_at "own ev_op") => `(tactic| (apply ix_last; walk_at "own ev_get"))
local macro_rules | `(tactic| walk_at "own ev_op") => `(tactic| (apply ix_ref; walk_at "own ev_get"; walk_at "own ev_side"; walk_at "own ev_get"))
local macro_rules | `(tactic| walk_at "own ev_op") => `(tactic| (apply ix_tup; walk_at "own ev_side"; walk_at "own ev_get"))
local macro_rules | `(tactic| walk_at "own ev_op") => `(tactic| (apply op_append; walk_at "own ev_get"; walk_at "own ev_side"))
local macro_rules | `(tactic| walk_at "own ev_op") => `(tactic| (apply set_lst; walk_at "own ev_get"; walk_at "own ev_side"; walk_at "own ev_side"))
local macro_rules | `(tactic| walk_at "own ev_op") => `(tactic| (apply op_addT; walk_at "own ev_side"))
local macro_rules | `(tactic| walk_at "own ev_op") => `(tactic| (apply op_mulR; walk_at "own ev_side"))
local macro_rules | `(tactic| walk_at "own ev_op") => `(tactic| (apply op_mulL; walk_at "own ev_side"))
local macro_rules | `(tactic| walk_at "own ev_op") => `(tactic| (apply op_mulT; walk_at "own ev_side"))
local macro_rules | `(tactic| walk_at "own ev_op") => `(tactic| (apply op_mulF; walk_at "own ev_get"; walk_at "own ev_side"))
local macro_rules | `(tactic| walk_at "own ev_op") => `(tactic| (apply op_fdiv; walk_at "own ev_side"; walk_at "own ev_side"))
local macro_rules | `(tactic| walk_at "own ev_op") => `(tactic| (apply op_mod; walk_at "own ev_side"))
local macro_rules | `(tactic| walk_at "own ev_op") => `(tactic| rfl)
local macro_rules | `(tactic| walk_at "own ev_test") => `(tactic| focus (simp [truth, *]; done))
local macro_rules | `(tactic| walk_at "own ev_test") => `(tactic| rfl)
local macro_rules | `(tactic| walk_at "own ev_side") => `(tactic| focus first | decide | (simp [big, word]; done) | omega | (simp [big]; omega) | (simp [word]; omega) | (simp [few]; omega) | (simp [small]; omega))
local macro_rules | `(tactic| walk_at "own ev_stm") => `(tactic| assumption)
local macro_rules | `(tactic| walk_at "own ev_e") => `(tactic| first
  | exact r_var rfl
  | exact r_int
  | exact r_bl
  | exact r_str
  | exact r_non
  | (apply r_bin; walk_at "own ev_e"; walk_at "own ev_e"; walk_at "own ev_op")
  | (apply r_neg; walk_at "own ev_e")
  | (apply r_not; walk_at "own ev_e"; walk_at "own ev_test")
  | (apply r_cmp; walk_at "own ev_e"; walk_at "own ev_e"; walk_at "own ev_op")
  | (apply r_cmp2; walk_at "own ev_e"; walk_at "own ev_e"; walk_at "own ev_op"; walk_at "own ev_e"; walk_at "own ev_op")
  | (apply r_and_f; walk_at "own ev_e"; walk_at "own ev_test")
  | (apply r_and_t; walk_at "own ev_e"; walk_at "own ev_test"; walk_at "own ev_e")
  | (apply r_and; walk_at "own ev_e"; walk_at "own ev_e")
  | (apply r_or_t; walk_at "own ev_e"; walk_at "own ev_test")
  | (apply r_or_f; walk_at "own ev_e"; walk_at "own ev_test"; walk_at "own ev_e")
  | (apply r_or; walk_at "own ev_e"; walk_at "own ev_e")
  | (apply r_ife_t; walk_at "own ev_e"; walk_at "own ev_test"; walk_at "own ev_e")
  | (apply r_ife_f; walk_at "own ev_e"; walk_at "own ev_test"; walk_at "own ev_e")
  | (apply r_tup; walk_at "own ev_es"; walk_at "own ev_side")
  | (apply r_lst; walk_at "own ev_es"; walk_at "own ev_side")
  | (apply r_ix; walk_at "own ev_e"; walk_at "own ev_e"; walk_at "own ev_op")
  | (apply r_sl; walk_at "own ev_e"; walk_at "own ev_eo"; walk_at "own ev_eo"; walk_at "own ev_op")
  | (apply r_call; walk_at "own ev_es"; walk_at "own ev_call")
  | (apply r_bi; walk_at "own ev_es"; walk_at "own ev_op")
  | (apply r_me; walk_at "own ev_e"; walk_at "own ev_op"; walk_at "own ev_es"; walk_at "own ev_op")
  | (apply r_isi; walk_at "own ev_e"; walk_at "own ev_op")
  | (apply r_told; walk_at "own ev_e")
  | walk_at "own ev_stm")
local macro_rules | `(tactic| walk_at "own ev_es") => `(tactic| first | exact r_nil | (apply r_cons; walk_at "own ev_e"; walk_at "own ev_es"))
local macro_rules | `(tactic| walk_at "own ev_eo") => `(tactic| first | exact r_none | (apply r_some; walk_at "own ev_e"))
local macro_rules | `(tactic| walk_at "own ev_g") => `(tactic| first | exact g_var | exact g_nil | (apply g_tup; walk_at "own ev_g") | (apply g_cons; walk_at "own ev_g"; walk_at "own ev_g") | (apply g_sub; walk_at "own ev_e"; walk_at "own ev_e"; walk_at "own ev_op"))
local macro_rules | `(tactic| walk_at "own ev_s") => `(tactic| first
  | (apply s_asg; walk_at "own ev_e"; walk_at "own ev_g")
  | (apply s_par; walk_at "own ev_es"; rfl)
  | (apply s_aug; rfl; walk_at "own ev_e"; walk_at "own ev_op")
  | (apply s_expr; walk_at "own ev_e")
  | walk_at "own ev_stm")
local macro_rules | `(tactic| walk_at "own ev_ss") => `(tactic| first
  | exact s_nil
  | (apply s_ret; walk_at "own ev_e")
  | exact x_rais
  | (apply s_ite_tr; walk_at "own ev_e"; walk_at "own ev_test"; walk_at "own ev_ss")
  | (apply s_ite_t; walk_at "own ev_e"; walk_at "own ev_test"; walk_at "own ev_ss"; walk_at "own ev_ss")
  | (apply s_ite_fr; walk_at "own ev_e"; walk_at "own ev_test"; walk_at "own ev_ss")
  | (apply s_ite_f; walk_at "own ev_e"; walk_at "own ev_test"; walk_at "own ev_ss"; walk_at "own ev_ss")
  | (apply x_ite_t; walk_at "own ev_e"; walk_at "own ev_test"; walk_at "own ev_ss")
  | (apply s_cons; walk_at "own ev_s"; walk_at "own ev_ss"))
local macro_rules | `(tactic| walk_at "own ev") => `(tactic| first | walk_at "own ev_ss" | walk_at "own ev_s" | walk_at "own ev_e" | walk_at "own ev_es")
variable (n : Nat)
theorem turn_enumL {α : Type} (f : α → D) (xs : List α) (m i : Nat) (S : Sto) (h : items S m = some (xs.map f)) : turn (.enumL m) i S = some ((xs.zipIdx.map fun p => D.tup [.int (p.2 : Nat), f p.1])[i]?) := by
  simp only [turn, h, Option.map_some, List.getElem?_map, List.getElem?_zipIdx]
  cases xs[i]? <;> simp
abbrev En (row : List Bool) (mt ml long gap m : Nat) (bit wr : Bool) (y8 y9 y10 y11 : Option D) : Env := [some (W row), some (.ref mt), some (.ref ml), some (.int (long : Nat)), some (.int (gap : Nat)), some (.int (m : Nat)), some (eb bit), some (eb wr), y8, y9, y10, y11]
theorem after_loop (row last r0 : List Bool) (m long gap mt ml : Nat) (bit wr : Bool) (y8 y10 y11 : Option D) (S : Sto) (x y z : MO) (hS : S[ml]? = some (.lst (last.map eb))) (hl : last.length + gap ≤ r0.length) (hr : r0.length ≤ 100) :
    ∃ z8 z10, qS (qC P n) (.fori (.tup (.cons (.var 8) (.cons (.var 10) (.nil)))) (.enum (.var 2)) Bshortest_L1) (En row mt ml long gap m bit wr y8 (some (.ref (S.length + 3))) y10 y11) (S ++ [x, y, z, .lst (r0.map eb)]) =
      .ok .nx (En row mt ml long gap m bit wr z8 (some (.ref (S.length + 3))) z10 y11) (S ++ [x, y, z, .lst ((addAt r0 gap last.zipIdx).map eb)]) := by
  have hmi : ∀ X, items (S ++ X) ml = some (last.map eb) := fun X => items_app (by unfold items; rw [hS])
  have hll : last.length ≤ 100 := by omega
  obtain ⟨env', S', h1, hlen, rfl, z8, z10, rfl⟩ := fori (C := qC P n) (g := .tup (.cons (.var 8) (.cons (.var 10) (.nil)))) (b := Bshortest_L1) (it := .enum (.var 2)) (v := .enumL ml) (env := En row mt ml long gap m bit wr y8 (some (.ref (S.length + 3))) y10 y11) (S := S ++ [x, y, z, .lst (r0.map eb)]) (S1 := S ++ [x, y, z, .lst (r0.map eb)])
    (Rel := fun (r : List Bool) env S' => r.length = r0.length ∧ S' = S ++ [x, y, z, .lst (r.map eb)] ∧ ∃ y8 y10, env = En row mt ml long gap m bit wr y8 (some (.ref (S.length + 3))) y10 y11) (enc := fun p : Bool × Nat => D.tup [.int (p.2 : Nat), eb p.1])
    (fun r p => r.set (gap + p.2) (xor (r.getD (gap + p.2) false) p.1)) (s0 := r0) (by apply i_enumL; walk_at "own ev"; exact hmi _) last.zipIdx (by simp; omega) (fun i s env S' h => by rw [h.2.1]; exact turn_enumL eb last ml i _ (hmi _)) ⟨rfl, rfl, y8, y10, rfl⟩ (fun p hp r env S' ⟨hr', e1, y8, y10, e2⟩ => by
      subst e1 e2
      obtain ⟨b, j⟩ := p
      have hj : j < last.length := by
        have := List.mem_zipIdx hp
        omega
      have gj : (r.map eb)[(((j : Nat) : Int) + ((gap : Nat) : Int)).toNat]? = some (eb (r.getD (gap + j) false)) := get_eb (by omega) (by omega)
      have hit : items (S ++ [x, y, z, .lst (r.map eb)]) (S.length + 3) = some (r.map eb) := by unfold items; rw [get_last]
      apply Stp.nx (by walk_at "own ev_g")
      · unfold Bshortest_L1
        apply s_cons
        · apply s_asg
          · apply r_bin
            · apply r_bin
              · apply r_ix
                · walk_at "own ev"
                · walk_at "own ev"
                · exact ix_ref hit (by omega) gj
              · walk_at "own ev"
              · rfl
            · walk_at "own ev"
            · walk_at "own ev_op"
          · apply g_sub
            · walk_at "own ev"
            · walk_at "own ev"
            · exact set_lst (ys := r.map eb) get_last (by omega) (by simp; omega)
        · walk_at "own ev"
      · refine ⟨by simp [hr'], ?_, some (.int (j : Nat)), some (eb b), rfl⟩
        rw [set_last, show (((j : Nat) : Int) + ((gap : Nat) : Int)).toNat = gap + j by omega, xor2, List.map_set]
        rfl)
  exact ⟨z8, z10, h1⟩
end K54
end
section
set_option maxRecDepth 100000
namespace K54
open Ev Ew
local macro_rules | `(tactic| walk_at "own ev_call") => `(tactic| focus (apply_assumption <;> first | assumption | omega))
local macro_rules | `(tactic| walk_at "own ev_call") => `(tactic| assumption)
local macro_rules | `(tactic| walk_at "own ev_get") => `(tactic| assumption)
local macro_rules | `(tactic| walk_at "own ev_get") => `(tactic| rfl)
local macro_rules | `(tactic| walk_at "own ev_op") => `(tactic| (apply ix_last; walk_at "own ev_get"))
local macro_rules | `(tactic| walk_at "own ev_op") => `(tactic| (apply ix_ref; walk_at "own ev_get"; walk_at "own ev_side"; walk_at "own ev_get"))
local macro_rules | `(tactic| walk_at "own ev_op") => `(tactic| (apply ix_tup; walk_at "own ev_side"; walk_at "own ev_get"))
local macro_rules | `(tactic| walk_at "own ev_op") => `(tactic| (apply op_append; walk_at "own ev_get"; walk_at "own ev_side"))
local macro_rules | `(tactic| walk_at "own ev_op") => `(tactic| (apply set_lst; walk_at "own ev_get"; walk_at "own ev_side"; walk_at "own ev_side"))
local macro_rules | `(tactic| walk_at "own ev_op") => `(tactic| (apply op_addT; walk_at "own ev_side"))
local macro_rules | `(tactic| walk_at "own ev_op") => `(tactic| (apply op_mulR; walk_at "own ev_side"))
local macro_rules | `(tactic| walk_at "own ev_op") => `(tactic| (apply op_mulL; walk_at "own ev_side"))
local macro_rules | `(tactic| walk_at "own ev_op") => `(tactic| (apply op_mulT; walk_at "own ev_side"))
local macro_rules | `(tactic| walk_at "own ev_op") => `(tactic| (apply op_mulF; walk_at "own ev_get"; walk_at "own ev_side"))
local macro_rules | `(tactic| walk_at "own ev_op") => `(tactic| (apply op_fdiv; walk_at "own ev_side"; walk_at "own ev_side"))
local macro_rules | `(tactic| walk_at "own ev_op") => `(tactic| (apply op_mod; walk_at "own ev_side"))
local macro_rules | `(tactic| walk_at "own ev_op") => `(tactic| rfl)
local macro_rules | `(tactic| walk_at "own ev_test") => `(tactic| focus (simp [truth, *]; done))
local macro_rules | `(tactic| walk_at "own ev_test") => `(tactic| rfl)
local macro_rules | `(tactic| walk_at "own ev_side") => `(tactic| focus first | decide | (simp [big, word]; done) | omega | (simp [big]; omega) | (simp [word]; omega) | (simp [few]; omega) | (simp [small]; omega))
local macro_rules | `(tactic| walk_at "own ev_stm") => `(tactic| assumption)
local macro_rules | `(tactic| walk_at "own ev_e") => `(tactic| first
  | exact r_var rfl
  | exact r_int
  | exact r_bl
  | exact r_str
  | exact r_non
  | (apply r_bin; walk_at "own ev_e"; walk_at "own ev_e"; walk_at "own ev_op")
  | (apply r_neg; walk_at "own ev_e")
  | (apply r_not; walk_at "own ev_e"; walk_at "own ev_test")
  | (apply r_cmp; walk_at "own ev_e"; walk_at "own ev_e"; walk_at "own ev_op")
  | (apply r_cmp2; walk_at "own ev_e"; walk_at "own ev_e"; walk_at "own ev_op"; walk_at "own ev_e"; walk_at "own ev_op")
  | (apply r_and_f; walk_at "own ev_e"; walk_at "own ev_test")
  | (apply r_and_t; walk_at "own ev_e"; walk_at "own ev_test"; walk_at "own ev_e")
  | (apply r_and; walk_at "own ev_e"; walk_at "own ev_e")
  | (apply r_or_t; walk_at "own ev_e"; walk_at "own ev_test")
  | (apply r_or_f; walk_at "own ev_e"; walk_at "own ev_test"; walk_at "own ev_e")
  | (apply r_or; walk_at "own ev_e"; walk_at "own ev_e")
  | (apply r_ife_t; walk_at "own ev_e"; walk_at "own ev_test"; walk_at "own ev_e")
  | (apply r_ife_f; walk_at "own ev_e"; walk_at "own ev_test"; walk_at "own ev_e")
  | (apply r_tup; walk_at "own ev_es"; walk_at "own ev_side")
  | (apply r_lst; walk_at "own ev_es"; walk_at "own ev_side")
  | (apply r_ix; walk_at "own ev_e"; walk_at "own ev_e"; walk_at "own ev_op")
  | (apply r_sl; walk_at "own ev_e"; walk_at "own ev_eo"; walk_at "own ev_eo"; walk_at "own ev_op")
  | (apply r_call; walk_at "own ev_es"; walk_at "own ev_call")
  | (apply r_bi; walk_at "own ev_es"; walk_at "own ev_op")
  | (apply r_me; walk_at "own ev_e"; walk_at "own ev_op"; walk_at "own ev_es"; walk_at "own ev_op")
  | (apply r_isi; walk_at "own ev_e"; walk_at "own ev_op")
  | (apply r_told; walk_at "own ev_e")
  | walk_at "own ev_stm")
local macro_rules | `(tactic| walk_at "own ev_es") => `(tactic| first | exact r_nil | (apply r_cons; walk_at "own ev_e"; walk_at "own ev_es"))
local macro_rules | `(tactic| walk_at "own ev_eo") => `(tactic| first | exact r_none | (apply r_some; walk_at "own ev_e"))
local macro_rules | `(tactic| walk_at "own ev_g") => `(tactic| first | exact g_var | exact g_nil | (apply g_tup; walk_at "own ev_g") | (apply g_cons; walk_at "own ev_g"; walk_at "own ev_g") | (apply g_sub; walk_at "own ev_e"; walk_at "own ev_e"; walk_at "own ev_op"))
local macro_rules | `(tactic| walk_at "own ev_s") => `(tactic| first
  | (apply s_asg; walk_at "own ev_e"; walk_at "own ev_g")
  | (apply s_par; walk_at "own ev_es"; rfl)
  | (apply s_aug; rfl; walk_at "own ev_e"; walk_at "own ev_op")
  | (apply s_expr; walk_at "own ev_e")
  | walk_at "own ev_stm")
local macro_rules | `(tactic| walk_at "own ev_ss") => `(tactic| first
  | exact s_nil
  | (apply s_ret; walk_at "own ev_e")
  | exact x_rais
  | (apply s_ite_tr; walk_at "own ev_e"; walk_at "own ev_test"; walk_at "own ev_ss")
  | (apply s_ite_t; walk_at "own ev_e"; walk_at "own ev_test"; walk_at "own ev_ss"; walk_at "own ev_ss")
  | (apply s_ite_fr; walk_at "own ev_e"; walk_at "own ev_test"; walk_at "own ev_ss")
  | (apply s_ite_f; walk_at "own ev_e"; walk_at "own ev_test"; walk_at "own ev_ss"; walk_at "own ev_ss")
  | (apply x_ite_t; walk_at "own ev_e"; walk_at "own ev_test"; walk_at "own ev_ss")
  | (apply s_cons; walk_at "own ev_s"; walk_at "own ev_ss"))
local macro_rules | `(tactic| walk_at "own ev") => `(tactic| first | walk_at "own ev_ss" | walk_at "own ev_s" | walk_at "own ev_e" | walk_at "own ev_es")
variable (n : Nat)
theorem after_made (row taps last : List Bool) (m long gap mt ml : Nat) (bit wr : Bool) (y8 y9 y10 y11 : Option D) (S : Sto) (ht : S[mt]? = some (.lst (taps.map eb))) (hS : S[ml]? = some (.lst (last.map eb))) (h1 : taps.length ≤ 100) (h2 : last.length + gap ≤ 100) :
    ∃ x y z, qS (qC P n) (.asg (.var 9) (.bin .add (.bi .list (.cons (.var 1) (.nil))) (.bin .mul (.lst (.cons (.int (0)) (.nil))) (.bi .max2 (.cons (.int (0)) (.cons (.bin .sub (.bin .add (.bi .len (.cons (.var 2) (.nil))) (.var 4)) (.bi .len (.cons (.var 1) (.nil)))) (.nil))))))) (En row mt ml long gap m bit wr y8 y9 y10 y11) S =
      .ok .nx (En row mt ml long gap m bit wr y8 (some (.ref (S.length + 3))) y10 y11) (S ++ [x, y, z, .lst ((taps ++ List.replicate (last.length + gap - taps.length) false).map eb)]) := by
  have ti : ∀ X, items (S ++ X) mt = some (taps.map eb) := fun X => items_app (by unfold items; rw [ht])
  have li : ∀ X, items (S ++ X) ml = some (last.map eb) := fun X => items_app (by unfold items; rw [hS])
  have ti0 : items S mt = some (taps.map eb) := by unfold items; rw [ht]
  have lenE : ∀ (i mm : Nat) (l : List Bool) (T : Sto), (En row mt ml long gap m bit wr y8 y9 y10 y11)[i]? = some (some (.ref mm)) → items T mm = some (l.map eb) → qE (qC P n) (.bi .len (.cons (.var i) .nil)) (En row mt ml long gap m bit wr y8 y9 y10 y11) T = .ok (.int (l.length : Nat)) T := fun i mm l T hi ht => by
    apply r_bi
    · exact r_cons (r_var hi) r_nil
    · show (match items T mm with | some ys => Res.ok (D.int (ys.length : Nat)) T | none => .bad) = _
      rw [ht]; simp
  have hmax : (if (((last.length : Nat) : Int) + ((gap : Nat) : Int) - ((taps.length : Nat) : Int)) > 0 then (((last.length : Nat) : Int) + ((gap : Nat) : Int) - ((taps.length : Nat) : Int)) else 0) = ((last.length + gap - taps.length : Nat) : Int) := by split <;> omega
  refine ⟨.lst (taps.map eb), .lst [.int 0], .lst ((List.replicate (last.length + gap - taps.length) false).map eb), ?_⟩
  apply s_of
  · apply s_asg
    · apply r_bin (S1 := S ++ [.lst (taps.map eb)])
      · apply r_bi
        · walk_at "own ev"
        · show (match items S mt with | some ys => alloc (.lst ys) S | none => .bad) = _
          rw [ti0]; rfl
      · apply r_bin (S1 := S ++ [.lst (taps.map eb)] ++ [.lst [.int 0]])
        · walk_at "own ev"
        · apply e_of
          · apply r_bi
            · apply r_cons
              · walk_at "own ev"
              · apply r_cons
                · apply r_bin
                  · apply r_bin
                    · exact lenE 2 ml last _ rfl (by rw [List.append_assoc]; exact li _)
                    · walk_at "own ev"
                    · rfl
                  · exact lenE 1 mt taps _ rfl (by rw [List.append_assoc]; exact ti _)
                  · rfl
                · walk_at "own ev"
            · rfl
          · rw [hmax]
          · rfl
        · apply op_mulF (items_new _ _)
          simp [few]; omega
      · refine op_addL (a := taps.map eb) (b := rep ((last.length + gap - taps.length : Nat) : Int) [D.int 0]) ?_ ?_ ?_
        · rw [List.append_assoc, List.append_assoc, List.getElem?_append_right (Nat.le_refl _), Nat.sub_self]; rfl
        · rw [List.getElem?_concat_length]
        · rw [rep0]; simp [big]; omega
    · exact g_var
  · simp
  · rw [rep0]; simp
theorem cut_1l {α : Type} (xs : List α) (l : Nat) : cut xs (some 1) (some ((l : Nat) + 1 : Int)) = (xs.drop 1).take l := by
  cases xs with
  | nil => simp [cut]
  | cons a r =>
    have h1 : ¬ ((l : Int) + 1 < 0) := by omega
    have h2 : ((l : Int) + 1).toNat = l + 1 := by omega
    simp only [cut, sIx, h1, if_false, h2, List.length_cons]
    rw [if_neg (by decide)]
    simp only [show (1 : Int).toNat = 1 from rfl, Nat.min_eq_left (show 1 ≤ r.length + 1 by omega), List.drop_succ_cons, List.drop_zero]
    rw [show min (l + 1) (r.length + 1) - 1 = min l r.length by omega]
    by_cases h : l ≤ r.length
    · rw [Nat.min_eq_left h]
    · rw [Nat.min_eq_right (by omega), List.take_length, List.take_of_length_le (by omega)]
theorem shortest_ev (row : List Bool) (hr : row.length ≤ 40) (S : Sto) : qC P (n + 1) 1 [W row] S = .ok (.tup [.int ((shortM row).1 : Nat), W (shortM row).2]) S := by
  obtain ⟨env', S', h1, hI, mt, ml, y5, y6, y7, y8, y9, y10, y11, ht, hl, rfl⟩ := foriP (C := qC P n) (g := .tup (.cons (.var 5) (.cons (.var 6) (.nil)))) (b := Bshortest_L2) (it := .enum (.var 0)) (v := .enumT (row.map eb)) (env := [some (W row), some (.ref 0), some (.ref 1), some (.int 0), some (.int 1), none, none, none, none, none, none, none]) (S := [.lst [.int 1], .lst [.int 1]]) (S1 := [.lst [.int 1], .lst [.int 1]])
    (Rel := fun pre env S => BMi (bmF row pre) pre.length ∧ ∃ mt ml y5 y6 y7 y8 y9 y10 y11, S[mt]? = some (.lst ((bmF row pre).taps.map eb)) ∧ S[ml]? = some (.lst ((bmF row pre).last.map eb)) ∧ env = [some (W row), some (.ref mt), some (.ref ml), some (.int ((bmF row pre).long : Nat)), some (.int ((bmF row pre).gap : Nat)), y5, y6, y7, y8, y9, y10, y11]) (enc := fun p : Bool × Nat => D.tup [.int (p.2 : Nat), eb p.1])
    (by apply i_enumT; walk_at "own ev") row.zipIdx (by simp; omega) (fun i pre env S _ => turn_enum eb row i S) ⟨⟨by simp [bmF], by simp [bmF], by simp [bmF]⟩, 0, 1, none, none, none, none, none, none, none, rfl, rfl, rfl⟩ (fun pre a post ep env S ⟨hI, mt, ml, y5, y6, y7, y8, y9, y10, y11, ht, hl, e2⟩ => by
      subst e2
      obtain ⟨b, m⟩ := a
      obtain ⟨rfl, hrow⟩ := zipIdx_at ep
      have hm : pre.length < row.length := by rw [hrow]; simp
      have hI2 := bm_inv row (bmF row pre) b pre.length hI
      obtain ⟨i1, i2, i3⟩ := hI
      have hst : bmF row (pre ++ [(b, pre.length)]) = bmStep row (bmF row pre) (b, pre.length) := bmF_snoc _ _ _
      have hll : (pre ++ [(b, pre.length)]).length = pre.length + 1 := by simp
      rw [hst, hll]
      generalize bmF row pre = s at *
      obtain ⟨taps, last, long, gap⟩ := s
      simp only at i1 i2 i3 ht hl
      generalize hM : pre.length = m at *
      have t1 : qS (qC P n) (.asg (.var 7) (.var 6)) (([some (W row), some (.ref mt), some (.ref ml), some (.int (long : Nat)), some (.int (gap : Nat)), y5, y6, y7, y8, y9, y10, y11].set 5 (some (.int (m : Nat)))).set 6 (some (eb b))) S = .ok .nx (En row mt ml long gap m b b y8 y9 y10 y11) S := by walk_at "own ev"
      obtain ⟨z8, t2⟩ := wrong_loop n row taps m long gap mt ml b hm (by omega) i1 i2 y8 y9 y10 y11 S ht
      have hg : qG (qC P n) (.tup (.cons (.var 5) (.cons (.var 6) (.nil)))) (D.tup [.int (m : Nat), eb b]) [some (W row), some (.ref mt), some (.ref ml), some (.int (long : Nat)), some (.int (gap : Nat)), y5, y6, y7, y8, y9, y10, y11] S = some (([some (W row), some (.ref mt), some (.ref ml), some (.int (long : Nat)), some (.int (gap : Nat)), y5, y6, y7, y8, y9, y10, y11].set 5 (some (.int (m : Nat)))).set 6 (some (eb b)), S) := g_tup (g_cons g_var (g_cons g_var g_nil))
      cases hw : wrongM taps row m b long with
      | false =>
        rw [hw] at t2
        have hs : bmStep row ⟨taps, last, long, gap⟩ (b, m) = ⟨taps, last, long, gap + 1⟩ := by unfold bmStep; simp only [hw]; rfl
        rw [hs] at hI2 ⊢
        apply Stp.ct hg
        · unfold Bshortest_L2
          apply s_cons t1
          apply s_cons t2
          apply s_ite_tc
          · apply r_cmp
            · walk_at "own ev"
            · walk_at "own ev"
            · rfl
          · rfl
          · apply s_cons
            · walk_at "own ev"
            · exact s_cont
        · exact ⟨hI2, mt, ml, _, _, _, _, _, _, _, ht, hl, rfl⟩
      | true =>
        rw [hw] at t2
        obtain ⟨x, y, z, t4⟩ := after_made n row taps last m long gap mt ml b true z8 y9 y10 y11 S ht hl (by omega) (by omega)
        obtain ⟨w8, w10, t5⟩ := after_loop n row last (taps ++ List.replicate (last.length + gap - taps.length) false) m long gap mt ml b true z8 y10 y11 S x y z hl (by simp; omega) (by simp; omega)
        have ha : addAt (taps ++ List.replicate (last.length + gap - taps.length) false) gap last.zipIdx = afterM ⟨taps, last, long, gap⟩ := rfl
        rw [ha] at t5
        have ht' : (S ++ [x, y, z, .lst ((afterM ⟨taps, last, long, gap⟩).map eb)])[mt]? = some (.lst (taps.map eb)) := by rw [app_old (lt_of_some ht)]; exact ht
        have hl' : (S ++ [x, y, z, .lst ((afterM ⟨taps, last, long, gap⟩).map eb)])[ml]? = some (.lst (last.map eb)) := by rw [app_old (lt_of_some hl)]; exact hl
        by_cases hc : 2 * long ≤ m
        · have hs : bmStep row ⟨taps, last, long, gap⟩ (b, m) = ⟨afterM ⟨taps, last, long, gap⟩, taps, m + 1 - long, 1⟩ := by unfold bmStep; simp only [hw]; rw [if_neg (by simp), if_pos hc]
          rw [hs] at hI2 ⊢
          apply Stp.nx hg
          · unfold Bshortest_L2
            apply s_cons t1
            apply s_cons t2
            apply s_ite_f
            · apply r_cmp
              · walk_at "own ev"
              · walk_at "own ev"
              · rfl
            · rfl
            · walk_at "own ev"
            apply s_cons t4
            apply s_cons t5
            apply s_ite_t
            · walk_at "own ev"
            · simp [truth]; omega
            · walk_at "own ev"
            walk_at "own ev"
          · refine ⟨hI2, S.length + 3, mt, some (.int (m : Nat)), some (eb b), some (eb true), w8, some (.ref (S.length + 3)), w10, y11, get_last, ht', ?_⟩
            simp
            omega
        · have hs : bmStep row ⟨taps, last, long, gap⟩ (b, m) = ⟨afterM ⟨taps, last, long, gap⟩, last, long, gap + 1⟩ := by unfold bmStep; simp only [hw]; rw [if_neg (by simp), if_neg hc]
          rw [hs] at hI2 ⊢
          apply Stp.nx hg
          · unfold Bshortest_L2
            apply s_cons t1
            apply s_cons t2
            apply s_ite_f
            · apply r_cmp
              · walk_at "own ev"
              · walk_at "own ev"
              · rfl
            · rfl
            · walk_at "own ev"
            apply s_cons t4
            apply s_cons t5
            apply s_ite_f
            · walk_at "own ev"
            · simp [truth]; omega
            · walk_at "own ev"
            walk_at "own ev"
          · exact ⟨hI2, S.length + 3, ml, some (.int (m : Nat)), some (eb b), some (eb true), w8, some (.ref (S.length + 3)), w10, y11, get_last, hl', rfl⟩)
  have hz : bmF row row.zipIdx = bmM row := rfl
  rw [hz, List.length_zipIdx] at hI
  rw [hz] at ht hl h1
  obtain ⟨i1, i2, i3⟩ := hI
  generalize hs : bmM row = s at *
  obtain ⟨taps, last, long, gap⟩ := s
  simp only at i1 i2 i3 ht hl h1
  have hsh : shortM row = (long, ((taps ++ List.replicate long false).drop 1).take long) := by unfold shortM; rw [hs]
  rw [hsh]
  apply call_rv (df := ⟨1, 12, Bshortest⟩) rfl rfl (by simp [purs]) (by simp [pur, purs])
  · show qSs _ Bshortest [some (W row), none, none, none, none, none, none, none, none, none, none, none] [] = _
    unfold Bshortest
    apply s_cons
    · show qS _ _ _ _ = .ok .nx [some (W row), some (.ref 0), some (.ref 1), some (.int 0), some (.int 1), none, none, none, none, none, none, none] [.lst [.int 1], .lst [.int 1]]
      apply s_of
      · walk_at "own ev"
      · rfl
      · rfl
    apply s_cons h1
    apply s_cons
    · apply s_asg
      · apply r_sl
        · apply r_bin
          · walk_at "own ev"
          · apply r_bin
            · walk_at "own ev"
            · walk_at "own ev"
            · apply op_mulF (items_new _ _)
              simp [few]; omega
          · refine op_addL (a := taps.map eb) (b := rep ((long : Nat) : Int) [D.int 0]) ?_ ?_ ?_
            · rw [List.append_assoc, app_old (lt_of_some ht)]; exact ht
            · rw [List.getElem?_concat_length]
            · rw [rep0]; simp [big]; omega
        · walk_at "own ev_eo"
        · walk_at "own ev_eo"
        · show (match items (_ ++ [MO.lst _]) _ with | some xs => alloc (.lst (cut xs _ _)) _ | none => .bad) = _
          rw [items_new]
          rfl
      · exact g_var
    apply s_ret
    apply r_tup
    · apply r_cons
      · walk_at "own ev"
      · apply r_cons
        · apply r_bi
          · walk_at "own ev"
          · show (match items (_ ++ [MO.lst _]) _ with | some ys => Res.ok (D.tup ys) _ | none => .bad) = _
            rw [items_new]
        · walk_at "own ev"
    · walk_at "own ev_side"
  · rw [cut_1l, rep0, Int.toNat_natCast, ← List.map_append, ← List.map_drop, ← List.map_take]
    rfl
end K54
end
section
set_option maxRecDepth 1000000
/-! What is finite, tried out. -/
namespace K54
open Ev Ew
theorem rows_all : ∀ (w : List Bool), w ∈ rowsM w.length := by
  intro w
  generalize hk : w.length = k
  induction k generalizing w with
  | zero => rw [List.length_eq_zero_iff.mp hk]; exact List.mem_singleton.mpr rfl
  | succ k ih =>
    have hne : w ≠ [] := by intro z; subst z; simp at hk
    have e := List.dropLast_concat_getLast hne
    have := ih w.dropLast (by rw [List.length_dropLast]; omega)
    rw [rowsM, List.mem_append, List.mem_map, List.mem_map]
    cases q : w.getLast hne with
    | false => exact .inl ⟨_, this, by rw [← q]; exact e⟩
    | true => exact .inr ⟨_, this, by rw [← q]; exact e⟩
def guards : List (List Bool) := ((rowsM 1) ++ (rowsM 2) ++ (rowsM 3)).map (true :: ·)
theorem guards_all (g : List Bool) (h1 : 1 ≤ g.length) (h3 : g.length ≤ 3) : true :: g ∈ guards := by
  unfold guards
  rw [List.mem_map]
  refine ⟨g, ?_, rfl⟩
  have := rows_all g
  rw [List.mem_append, List.mem_append]
  have : g.length = 1 ∨ g.length = 2 ∨ g.length = 3 := by omega
  rcases this with e | e | e <;> (have h := rows_all g; rw [e] at h) <;> simp [h]
def okShort (r : List Bool) : Bool := (shortM r).2.length == (shortM r).1 && decide ((shortM r).1 ≤ r.length) && makesM r (shortM r).2 && decide (goesM (shortM r).2 (r.length - (shortM r).1) (r.take (shortM r).1) = r) && (List.range (shortM r).1).all fun n => (rowsM n).all fun t => !makesM r t
theorem f1 : ((List.range 8).all fun k => (rowsM k).all fun r => okShort r) = true := by decide +kernel
def okRest (g w : List Bool) : Bool := decide (restM w g = lrestM w g) && decide (rshM w g = restM w g) && (restM w g).length == g.length - 1
theorem f2 : (guards.all fun g => (List.range 7).all fun k => (rowsM k).all fun w => okRest g w) = true := by decide +kernel
def flip1 (w : List Bool) (k : Nat) : List Bool := w.take k ++ [!(w.getD k false)] ++ w.drop (k + 1)
def okFlip (g w : List Bool) : Bool := let whole := w ++ restM w g; soundM whole g && (!(g.getLast?.getD false) || (List.range whole.length).all fun k => !soundM (flip1 whole k) g)
def fl (g : List Bool) (ks : List Nat) : Bool := ks.all fun k => (rowsM k).all fun w => okFlip g w
def gAt (i : Nat) : List Bool := guards.getD i []
theorem f3_0 : fl (gAt 0) [0, 1, 2, 3, 4, 5] = true := by decide +kernel
theorem f3b_0 : fl (gAt 0) [6] = true := by decide +kernel
theorem f3_1 : fl (gAt 1) [0, 1, 2, 3, 4, 5] = true := by decide +kernel
theorem f3b_1 : fl (gAt 1) [6] = true := by decide +kernel
theorem f3_2 : fl (gAt 2) [0, 1, 2, 3, 4, 5] = true := by decide +kernel
theorem f3b_2 : fl (gAt 2) [6] = true := by decide +kernel
theorem f3_3 : fl (gAt 3) [0, 1, 2, 3, 4, 5] = true := by decide +kernel
theorem f3b_3 : fl (gAt 3) [6] = true := by decide +kernel
theorem f3_4 : fl (gAt 4) [0, 1, 2, 3, 4, 5] = true := by decide +kernel
theorem f3b_4 : fl (gAt 4) [6] = true := by decide +kernel
theorem f3_5 : fl (gAt 5) [0, 1, 2, 3, 4, 5] = true := by decide +kernel
theorem f3b_5 : fl (gAt 5) [6] = true := by decide +kernel
theorem f3_6 : fl (gAt 6) [0, 1, 2, 3, 4, 5] = true := by decide +kernel
theorem f3b_6 : fl (gAt 6) [6] = true := by decide +kernel
theorem f3_7 : fl (gAt 7) [0, 1, 2, 3, 4, 5] = true := by decide +kernel
theorem f3b_7 : fl (gAt 7) [6] = true := by decide +kernel
theorem f3_8 : fl (gAt 8) [0, 1, 2, 3, 4, 5] = true := by decide +kernel
theorem f3b_8 : fl (gAt 8) [6] = true := by decide +kernel
theorem f3_9 : fl (gAt 9) [0, 1, 2, 3, 4, 5] = true := by decide +kernel
theorem f3b_9 : fl (gAt 9) [6] = true := by decide +kernel
theorem f3_10 : fl (gAt 10) [0, 1, 2, 3, 4, 5] = true := by decide +kernel
theorem f3b_10 : fl (gAt 10) [6] = true := by decide +kernel
theorem f3_11 : fl (gAt 11) [0, 1, 2, 3, 4, 5] = true := by decide +kernel
theorem f3b_11 : fl (gAt 11) [6] = true := by decide +kernel
theorem f3_12 : fl (gAt 12) [0, 1, 2, 3, 4, 5] = true := by decide +kernel
theorem f3b_12 : fl (gAt 12) [6] = true := by decide +kernel
theorem f3_13 : fl (gAt 13) [0, 1, 2, 3, 4, 5] = true := by decide +kernel
theorem f3b_13 : fl (gAt 13) [6] = true := by decide +kernel
def letsM (g : List Bool) (wide : Nat) : List Nat := ((rowsM wide).filter fun r => decide (0 < ones r) && soundM r g).map ones
def minO : List Nat → Option Nat
  | [] => none
  | a :: r => some (r.foldl min a)
theorem f4 : (guards.all fun g => (List.range 4).all fun k => decide (unM g (g.length - 1 + k) = minO (letsM g (g.length - 1 + k)))) = true := by decide +kernel
end K54
end
section
set_option maxRecDepth 100000
/-! k54: the law's body, parts. -/
namespace K54
open Ev Ew
local macro_rules | `(tactic| walk_at "own ev_call") => `(tactic| focus (apply_assumption <;> first | assumption | omega))
local macro_rules | `(tactic| walk_at "own ev_call") => `(tactic| assumption)
local macro_rules | `(tactic| walk_at "own ev_get") => `(tactic| assumption)
local macro_rules | `(tactic| walk_at "own ev_get") => `(tactic| rfl)
local macro_rules | `(tactic| walk_at "own ev_op") => `(tactic| (apply ix_last; walk_at "own ev_get"))
local macro_rules | `(tactic| walk_at "own ev_op") => `(tactic| (apply ix_ref; walk_at "own ev_get"; walk_at "own ev_side"; walk_at "own ev_get"))
local macro_rules | `(tactic| walk_at "own ev_op") => `(tactic| (apply ix_tup; walk_at "own ev_side"; walk_at "own ev_get"))
local macro_rules | `(tactic| walk_at "own ev_op") => `(tactic| (apply op_append; walk_at "own ev_get"; walk_at "own ev_side"))
local macro_rules | `(tactic| walk_at "own ev_op") => `(tactic| (apply set_lst; walk_at "own ev_get"; walk_at "own ev_side"; walk_at "own ev_side"))
local macro_rules | `(tactic| walk_at "own ev_op") => `(tactic| (apply op_addT; walk_at "own ev_side"))
local macro_rules | `(tactic| walk_at "own ev_op") => `(tactic| (apply op_mulR; walk_at "own ev_side"))
local macro_rules | `(tactic| walk_at "own ev_op") => `(tactic| (apply op_mulL; walk_at "own ev_side"))
local macro_rules | `(tactic| walk_at "own ev_op") => `(tactic| (apply op_mulT; walk_at "own ev_side"))
local macro_rules | `(tactic| walk_at "own ev_op") => `(tactic| (apply op_mulF; walk_at "own ev_get"; walk_at "own ev_side"))
local macro_rules | `(tactic| walk_at "own ev_op") => `(tactic| (apply op_fdiv; walk_at "own ev_side"; walk_at "own ev_side"))
local macro_rules | `(tactic| walk_at "own ev_op") => `(tactic| (apply op_mod; walk_at "own ev_side"))
local macro_rules | `(tactic| walk_at "own ev_op") => `(tactic| rfl)
local macro_rules | `(tactic| walk_at "own ev_test") => `(tactic| focus (simp [truth, *]; done))
local macro_rules | `(tactic| walk_at "own ev_test") => `(tactic| rfl)
local macro_rules | `(tactic| walk_at "own ev_side") => `(tactic| focus first | decide | (simp [big, word]; done) | omega | (simp [big]; omega) | (simp [word]; omega) | (simp [few]; omega) | (simp [small]; omega))
local macro_rules | `(tactic| walk_at "own ev_stm") => `(tactic| assumption)
local macro_rules | `(tactic| walk_at "own ev_e") => `(tactic| first
  | exact r_var rfl
  | exact r_int
  | exact r_bl
  | exact r_str
  | exact r_non
  | (apply r_bin; walk_at "own ev_e"; walk_at "own ev_e"; walk_at "own ev_op")
  | (apply r_neg; walk_at "own ev_e")
  | (apply r_not; walk_at "own ev_e"; walk_at "own ev_test")
  | (apply r_cmp; walk_at "own ev_e"; walk_at "own ev_e"; walk_at "own ev_op")
  | (apply r_cmp2; walk_at "own ev_e"; walk_at "own ev_e"; walk_at "own ev_op"; walk_at "own ev_e"; walk_at "own ev_op")
  | (apply r_and_f; walk_at "own ev_e"; walk_at "own ev_test")
  | (apply r_and_t; walk_at "own ev_e"; walk_at "own ev_test"; walk_at "own ev_e")
  | (apply r_and; walk_at "own ev_e"; walk_at "own ev_e")
  | (apply r_or_t; walk_at "own ev_e"; walk_at "own ev_test")
  | (apply r_or_f; walk_at "own ev_e"; walk_at "own ev_test"; walk_at "own ev_e")
  | (apply r_or; walk_at "own ev_e"; walk_at "own ev_e")
  | (apply r_ife_t; walk_at "own ev_e"; walk_at "own ev_test"; walk_at "own ev_e")
  | (apply r_ife_f; walk_at "own ev_e"; walk_at "own ev_test"; walk_at "own ev_e")
  | (apply r_tup; walk_at "own ev_es"; walk_at "own ev_side")
  | (apply r_lst; walk_at "own ev_es"; walk_at "own ev_side")
  | (apply r_ix; walk_at "own ev_e"; walk_at "own ev_e"; walk_at "own ev_op")
  | (apply r_sl; walk_at "own ev_e"; walk_at "own ev_eo"; walk_at "own ev_eo"; walk_at "own ev_op")
  | (apply r_call; walk_at "own ev_es"; walk_at "own ev_call")
  | (apply r_bi; walk_at "own ev_es"; walk_at "own ev_op")
  | (apply r_me; walk_at "own ev_e"; walk_at "own ev_op"; walk_at "own ev_es"; walk_at "own ev_op")
  | (apply r_isi; walk_at "own ev_e"; walk_at "own ev_op")
  | (apply r_told; walk_at "own ev_e")
  | walk_at "own ev_stm")
local macro_rules | `(tactic| walk_at "own ev_es") => `(tactic| first | exact r_nil | (apply r_cons; walk_at "own ev_e"; walk_at "own ev_es"))
local macro_rules | `(tactic| walk_at "own ev_eo") => `(tactic| first | exact r_none | (apply r_some; walk_at "own ev_e"))
local macro_rules | `(tactic| walk_at "own ev_g") => `(tactic| first | exact g_var | exact g_nil | (apply g_tup; walk_at "own ev_g") | (apply g_cons; walk_at "own ev_g"; walk_at "own ev_g") | (apply g_sub; walk_at "own ev_e"; walk_at "own ev_e"; walk_at "own ev_op"))
local macro_rules | `(tactic| walk_at "own ev_s") => `(tactic| first
  | (apply s_asg; walk_at "own ev_e"; walk_at "own ev_g")
  | (apply s_par; walk_at "own ev_es"; rfl)
  | (apply s_aug; rfl; walk_at "own ev_e"; walk_at "own ev_op")
  | (apply s_expr; walk_at "own ev_e")
  | walk_at "own ev_stm")
local macro_rules | `(tactic| walk_at "own ev_ss") => `(tactic| first
  | exact s_nil
  | (apply s_ret; walk_at "own ev_e")
  | exact x_rais
  | (apply s_ite_tr; walk_at "own ev_e"; walk_at "own ev_test"; walk_at "own ev_ss")
  | (apply s_ite_t; walk_at "own ev_e"; walk_at "own ev_test"; walk_at "own ev_ss"; walk_at "own ev_ss")
  | (apply s_ite_fr; walk_at "own ev_e"; walk_at "own ev_test"; walk_at "own ev_ss")
  | (apply s_ite_f; walk_at "own ev_e"; walk_at "own ev_test"; walk_at "own ev_ss"; walk_at "own ev_ss")
  | (apply x_ite_t; walk_at "own ev_e"; walk_at "own ev_test"; walk_at "own ev_ss")
  | (apply s_cons; walk_at "own ev_s"; walk_at "own ev_ss"))
local macro_rules | `(tactic| walk_at "own ev") => `(tactic| first | walk_at "own ev_ss" | walk_at "own ev_s" | walk_at "own ev_e" | walk_at "own ev_es")
variable (n : Nat)
abbrev Dc (q : Nat) (S : Sto) : Prop := ∃ o, S[q]? = some o ∧ Dice o
/-- bits drawn -/
theorem rollbits {it : II} {N : Nat} {env : Env} {q : Nat} {S S1 : Sto} (h1 : env[1]? = some (some (.ref q))) (hi : qI (qC P (n + 1)) it env S = .ok (.rng 0 1 N) S1) (hN : N < 1000) (hd : Dc q S1) :
    ∃ (bs : List Bool) (T : Sto), bs.length = N ∧ qE (qC P (n + 1)) (.bi .tuple (.cons (.lc [2] (.var 2) it .nil (.call 8 (.cons (.var 1) (.cons (.int 2) .nil)))) .nil)) env S = .ok (W bs) T ∧ Kp q S1 T ∧ Dc q T := by
  obtain ⟨ds, T, h2, h3, h4, h5, h6, h7⟩ := lc_dice (C := qC P (n + 1)) (vs := [2]) (g := .var 2) (it := it) (e := .call 8 (.cons (.var 1) (.cons (.int 2) .nil))) (env := env) (S := S) (S1 := S1) (q := q) (Good := fun d => ∃ b, d = eb b) (v := .rng 0 1 N) (enc := fun k : Nat => D.int (k : Nat)) (List.range N) hi (by simp; omega) (fun i T => turn_rng1 _ i T) hd (fun a ha T hT => by
    obtain ⟨r, T', k1, k2, k3, _, k4⟩ := roll_Q (P := P) (f := 8) rfl n 2 (by decide) (by decide) hT
    refine ⟨_, .int (r : Nat), T', g_var, ?_, ⟨decide (r = 1), ?_⟩, k2, k3⟩
    · apply r_call
      · apply r_cons
        · apply r_var
          show ((env.set 2 none).set 2 _)[1]? = _
          rw [List.getElem?_set_ne (by decide), List.getElem?_set_ne (by decide)]
          exact h1
        · walk_at "own ev"
      · exact k4
    · have : r = 0 ∨ r = 1 := by omega
      rcases this with rfl | rfl <;> rfl)
  obtain ⟨bs, rfl⟩ : ∃ bs : List Bool, ds = bs.map eb := by
    clear h2 h4 h5
    induction ds with
    | nil => exact ⟨[], rfl⟩
    | cons d r ih =>
      obtain ⟨b, rfl⟩ := h3 d (List.mem_cons_self ..)
      obtain ⟨bs, rfl⟩ := ih fun d hd => h3 d (List.mem_cons_of_mem _ hd)
      exact ⟨b :: bs, rfl⟩
  refine ⟨bs, T, by simpa using h2, ?_, h6, h7⟩
  apply r_bi
  · exact r_cons h4 r_nil
  · show (match items T S1.length with | some ys => Res.ok (D.tup ys) T | none => .bad) = _
    unfold items; rw [h5]; rfl
abbrev E16 (x0 : Option D) (q : Nat) (a2 a3 a4 a5 a6 a7 a8 a9 a10 a11 a12 a13 a14 a15 : Option D) : Env := [x0, some (.ref q), a2, a3, a4, a5, a6, a7, a8, a9, a10, a11, a12, a13, a14, a15]
variable {x0 a2 a3 a4 a5 a6 a7 a8 a9 a10 a11 a12 a13 a14 a15 : Option D} {q : Nat}
theorem inner_lc (row : List Bool) (hr : row.length ≤ 40) (k : Nat) (hk : k ≤ 8) (S : Sto) :
    qE (qC P (n + 1)) (.lc [15] (.var 15) (.val (.call 10 (.cons (.var 14) .nil))) (.cons (.call 11 (.cons (.var 3) (.cons (.var 15) .nil))) .nil) (.var 15)) (E16 x0 q a2 (some (W row)) a4 a5 a6 a7 a8 a9 a10 a11 a12 a13 (some (.int (k : Nat))) a15) S =
      .ok (.ref (S.length + 1)) (S ++ [.lst ((rowsM k).map W)] ++ [.lst (((rowsM k).filter (makesM row)).map W)]) := by
  have hp : 2 ^ k ≤ 2 ^ 8 := Nat.pow_le_pow_right (n := 2) (by decide) hk
  have hi : qI (qC P (n + 1)) (.val (.call 10 (.cons (.var 14) .nil))) (E16 x0 q a2 (some (W row)) a4 a5 a6 a7 a8 a9 a10 a11 a12 a13 (some (.int (k : Nat))) a15) S = .ok (.lst S.length) (S ++ [.lst ((rowsM k).map W)]) := by
    apply i_ref
    · apply r_call
      · walk_at "own ev"
      · exact rows_ev n k hk S
    · exact items_new _ _
  have := lc_Q (C := qC P (n + 1)) (vs := [15]) (g := .var 15) (ifs := .cons (.call 11 (.cons (.var 3) (.cons (.var 15) .nil))) .nil) (e := .var 15) (enc := W) (rowsM k) (makesM row) W hi (by rw [rowsM_len]; omega)
    (fun i X => by simp only [turn]; rw [items_app (items_new _ _)]; rfl) (fun r hr' X => by
      have hl := rowsM_mem k r hr'
      refine ⟨E16 x0 q a2 (some (W row)) a4 a5 a6 a7 a8 a9 a10 a11 a12 a13 (some (.int (k : Nat))) (some (W r)), g_var, ?_, fun _ => by walk_at "own ev"⟩
      apply t_cons
      · apply r_call
        · walk_at "own ev"
        · exact makes_ev n row r (by omega) (by omega) _
      · rfl)
  rw [this]
  simp
def hasM (row : List Bool) (k : Nat) : Bool := !((rowsM k).filter (makesM row)).isEmpty
theorem ne_nil_ref {S : Sto} {i j : Nat} {xs : List D} (h1 : items S i = some xs) (h2 : items S j = some []) (hx : shal 60 (deps xs) = true) : cmpD .ne (.ref i) (.ref j) S = some (!xs.isEmpty) := by
  have e : eqD S (.ref i) (.ref j) = some (eqvs xs []) := by
    unfold eqD
    simp only [h1, h2, hx]
    rfl
  simp only [cmpD, e]
  cases xs <;> rfl
theorem deps_W : ∀ l : List (List Bool), shal 60 (deps (l.map W)) = true ∧ ∃ k, deps (l.map W) = some k ∧ k ≤ 1
  | [] => ⟨rfl, 0, rfl, by decide⟩
  | w :: l => by
    obtain ⟨_, k, h1, h2⟩ := deps_W l
    have hw : dep (W w) = some 1 := by simp [W, dep, deps_eb]
    have h3 : deps ((w :: l).map W) = some (max 1 k) := by simp [deps, hw, h1]
    refine ⟨?_, max 1 k, h3, by omega⟩
    rw [h3]; simp [shal]; omega
theorem lengths_lc (row : List Bool) (hr : row.length ≤ 7) (S : Sto) :
    ∃ G, qE (qC P (n + 1)) (.lc [14] (.var 14) (.rng1 (.bin .add (.bi .len (.cons (.var 3) .nil)) (.int 1))) (.cons (.cmp .ne (.lc [15] (.var 15) (.val (.call 10 (.cons (.var 14) .nil))) (.cons (.call 11 (.cons (.var 3) (.cons (.var 15) .nil))) .nil) (.var 15)) (.lst .nil)) .nil) (.var 14)) (E16 x0 q a2 (some (W row)) a4 a5 a6 a7 a8 a9 a10 a11 a12 a13 a14 a15) S =
      .ok (.ref S.length) (S ++ .lst (((List.range (row.length + 1)).filter (hasM row)).map fun k : Nat => D.int (k : Nat)) :: G) := by
  refine lc_G (v := .rng 0 1 (row.length + 1)) (enc := fun k : Nat => D.int (k : Nat)) (List.range (row.length + 1)) (hasM row) (fun k : Nat => D.int (k : Nat)) ?_ (by simp; omega) (fun i X => turn_rng1 _ i _) (fun k hk X => ?_)
  · apply i_rng1
    · walk_at "own ev"
    · simp [word]; omega
    · simp
  · have hk' := List.mem_range.mp hk
    refine ⟨E16 x0 q a2 (some (W row)) a4 a5 a6 a7 a8 a9 a10 a11 a12 a13 (some (.int (k : Nat))) a15, [.lst ((rowsM k).map W)] ++ [.lst (((rowsM k).filter (makesM row)).map W)] ++ [.lst []], g_var, ?_, fun _ => ⟨[], by rw [List.append_nil]; walk_at "own ev"⟩⟩
    have eY : S ++ X ++ ([MO.lst ((rowsM k).map W)] ++ [.lst (((rowsM k).filter (makesM row)).map W)] ++ [.lst []]) = S ++ X ++ [.lst ((rowsM k).map W)] ++ [.lst (((rowsM k).filter (makesM row)).map W)] ++ [.lst []] := by simp
    rw [eY]
    apply t_cons
    · apply r_cmp
      · exact inner_lc n row (by omega) k (by omega) _
      · walk_at "own ev"
      · refine (ne_nil_ref (xs := ((rowsM k).filter (makesM row)).map W) ?_ ?_ (deps_W _).1).trans rfl
        · refine items_app ?_
          have := items_new (S ++ X ++ [MO.lst ((rowsM k).map W)]) (((rowsM k).filter (makesM row)).map W)
          rw [List.length_append, List.length_singleton] at this
          exact this
        · exact items_new _ _
    · simp [truth, hasM]
theorem minI_le : ∀ (r : List Int) (m : Int), (∀ x ∈ r, m ≤ x) → minI m r = m
  | [], _, _ => rfl
  | x :: r, m, h => by
    have := h x (List.mem_cons_self ..)
    rw [minI, if_neg (by omega)]
    exact minI_le r m fun y hy => h y (List.mem_cons_of_mem _ hy)
theorem filter_first (p : Nat → Bool) (l L : Nat) (hl : l ≤ L) (h1 : p l = true) (h2 : ∀ k, k < l → p k = false) : ∃ rest, (List.range (L + 1)).filter p = l :: rest ∧ ∀ x ∈ rest, l ≤ x := by
  refine ⟨((List.range' (l + 1) (L - l)).filter p), ?_, fun x hx => ?_⟩
  · have e : List.range (L + 1) = List.range l ++ (l :: List.range' (l + 1) (L - l)) := by
      rw [List.range_eq_range', List.range_eq_range', show L + 1 = l + (L - l + 1) by omega, ← List.range'_append_1, Nat.zero_add, List.range'_succ]
    rw [e, List.filter_append, List.filter_cons_of_pos h1, List.filter_eq_nil_iff.mpr (fun k hk => by simp [h2 k (List.mem_range.mp hk)]), List.nil_append]
  · have := List.mem_range'_1.mp (List.mem_filter.mp hx).1
    omega
theorem short_ok (row : List Bool) (hr : row.length ≤ 7) : okShort row = true := by
  have := List.all_eq_true.mp (List.all_eq_true.mp f1 row.length (List.mem_range.mpr (by omega))) row (rows_all row)
  exact this
theorem short_min (row : List Bool) (hr : row.length ≤ 7) : ∃ rest : List Nat, (List.range (row.length + 1)).filter (hasM row) = (shortM row).1 :: rest ∧ ∀ x ∈ rest, (shortM row).1 ≤ x := by
  have h := short_ok row hr
  unfold okShort at h
  simp only [Bool.and_eq_true, decide_eq_true_eq, beq_iff_eq, List.all_eq_true, List.mem_range, Bool.not_eq_true'] at h
  obtain ⟨⟨⟨⟨h1, h2⟩, h3⟩, h4⟩, h5⟩ := h
  refine filter_first _ _ _ h2 ?_ fun k hk => ?_
  · unfold hasM
    have : (shortM row).2 ∈ (rowsM (shortM row).1).filter (makesM row) := List.mem_filter.mpr ⟨by have := rows_all (shortM row).2; rwa [h1] at this, h3⟩
    cases e : (rowsM (shortM row).1).filter (makesM row) with
    | nil => rw [e] at this; cases this
    | cons => rfl
  · unfold hasM
    rw [List.filter_eq_nil_iff.mpr (fun t ht => by simp [h5 k hk t ht])]
    rfl
theorem min_ev {S : Sto} {m : Nat} {l : Nat} {rest : List Nat} (h : items S m = some ((l :: rest).map fun k : Nat => D.int (k : Nat))) (hr : ∀ x ∈ rest, l ≤ x) : biD .minl [.ref m] S = .ok (.int (l : Nat)) S := by
  show (match items S m with | some ys => (match intsD ys with | some (i :: r) => Res.ok (D.int (minI i r)) S | _ => .bad) | none => .bad) = _
  rw [h]
  simp only
  rw [intsD_map (fun k : Nat => (k : Int)) (l :: rest)]
  simp only [List.map_cons]
  rw [minI_le _ _ fun x hx => by
    obtain ⟨y, hy, rfl⟩ := List.mem_map.mp hx
    have := hr y hy
    omega]
theorem minO_I : ∀ (r : List Nat) (a : Nat), minI (a : Int) (r.map fun k : Nat => (k : Int)) = ((r.foldl min a : Nat) : Int)
  | [], _ => rfl
  | x :: r, a => by
    rw [List.map_cons, minI, List.foldl_cons, ← minO_I r]
    by_cases h : x < a
    · rw [if_pos (by omega), show min a x = x by omega]
    · rw [if_neg (by omega), show min a x = a by omega]
theorem lets_lc (g : List Bool) (wide : Nat) (hg : okG g) (hw : wide ≤ 8) (hgw : g.length - 1 ≤ wide) (S : Sto) :
    qE (qC P (n + 2)) (.lc [15] (.var 15) (.val (.call 10 (.cons (.var 10) .nil))) (.cons (.iand (.cmp .gt (.bi .sum (.cons (.var 15) .nil)) (.int 0)) (.call 5 (.cons (.var 15) (.cons (.var 7) .nil)))) .nil) (.bi .sum (.cons (.var 15) .nil))) (E16 x0 q a2 a3 a4 a5 a6 (some (W g)) a8 a9 (some (.int (wide : Nat))) a11 a12 a13 a14 a15) S =
      .ok (.ref (S.length + 1)) (S ++ [.lst ((rowsM wide).map W)] ++ [.lst ((letsM g wide).map fun k : Nat => D.int (k : Nat))]) := by
  have hp : 2 ^ wide ≤ 2 ^ 8 := Nat.pow_le_pow_right (n := 2) (by decide) hw
  have hi : qI (qC P (n + 2)) (.val (.call 10 (.cons (.var 10) .nil))) (E16 x0 q a2 a3 a4 a5 a6 (some (W g)) a8 a9 (some (.int (wide : Nat))) a11 a12 a13 a14 a15) S = .ok (.lst S.length) (S ++ [.lst ((rowsM wide).map W)]) := by
    apply i_ref
    · apply r_call
      · walk_at "own ev"
      · exact rows_ev (n + 1) wide hw S
    · exact items_new _ _
  have := lc_Q (C := qC P (n + 2)) (vs := [15]) (g := .var 15) (ifs := .cons (.iand (.cmp .gt (.bi .sum (.cons (.var 15) .nil)) (.int 0)) (.call 5 (.cons (.var 15) (.cons (.var 7) .nil)))) .nil) (e := .bi .sum (.cons (.var 15) .nil)) (enc := W) (rowsM wide) (fun r => decide (0 < ones r) && soundM r g) (fun r => D.int (ones r : Nat)) hi (by rw [rowsM_len]; omega)
    (fun i X => by simp only [turn]; rw [items_app (items_new _ _)]; rfl) (fun r hr' X => by
      have hl := rowsM_mem wide r hr'
      have hs := fun S => sum_W r S
      refine ⟨E16 x0 q a2 a3 a4 a5 a6 (some (W g)) a8 a9 (some (.int (wide : Nat))) a11 a12 a13 a14 (some (W r)), g_var, ?_, fun _ => ?_⟩
      · apply t_cons
        · apply r_and
          · apply r_cmp
            · apply r_bi
              · walk_at "own ev"
              · exact hs _
            · walk_at "own ev"
            · rfl
          · apply r_call
            · walk_at "own ev"
            · exact sound_ev n r g (by omega) hg (by omega) _
        · simp [truth]
      · apply r_bi
        · walk_at "own ev"
        · exact hs _)
  rw [this]
  simp [letsM, List.map_map, Function.comp_def]
end K54
end
section
set_option maxRecDepth 100000
/-! k54: the law's body. -/
namespace K54
open Ev Ew
local macro_rules | `(tactic| walk_at "own ev_call") => `(tactic| focus (apply_assumption <;> first | assumption | omega))
local macro_rules | `(tactic| walk_at "own ev_call") => `(tactic| assumption)
local macro_rules | `(tactic| walk_at "own ev_get") => `(tactic| assumption)
local macro_rules | `(tactic| walk_at "own ev_get") => `(tactic| rfl)
local macro_rules | `(tactic| walk_at "own ev_op") => `(tactic| (apply ix_last; walk_at "own ev_get"))
local macro_rules | `(tactic| walk_at "own ev_op") => `(tactic| (apply ix_ref; walk_at "own ev_get"; walk_at "own ev_side"; walk_at "own ev_get"))
local macro_rules | `(tactic| walk_at "own ev_op") => `(tactic| (apply ix_tup; walk_at "own ev_side"; walk_at "own ev_get"))
local macro_rules | `(tactic| walk_at "own ev_op") => `(tactic| (apply op_append; walk_at "own ev_get"; walk_at "own ev_side"))
local macro_rules | `(tactic| walk_at "own ev_op") => `(tactic| (apply set_lst; walk_at "own ev_get"; walk_at "own ev_side"; walk_at "own ev_side"))
local macro_rules | `(tactic| walk_at "own ev_op") => `(tactic| (apply op_addT; walk_at "own ev_side"))
local macro_rules | `(tactic| walk_at "own ev_op") => `(tactic| (apply op_mulR; walk_at "own ev_side"))
local macro_rules | `(tactic| walk_at "own ev_op") => `(tactic| (apply op_mulL; walk_at "own ev_side"))
local macro_rules | `(tactic| walk_at "own ev_op") => `(tactic| (apply op_mulT; walk_at "own ev_side"))
local macro_rules | `(tactic| walk_at "own ev_op") => `(tactic| (apply op_mulF; walk_at "own ev_get"; walk_at "own ev_side"))
local macro_rules | `(tactic| walk_at "own ev_op") => `(tactic| (apply op_fdiv; walk_at "own ev_side"; walk_at "own ev_side"))
local macro_rules | `(tactic| walk_at "own ev_op") => `(tactic| (apply op_mod; walk_at "own ev_side"))
local macro_rules | `(tactic| walk_at "own ev_op") => `(tactic| rfl)
local macro_rules | `(tactic| walk_at "own ev_test") => `(tactic| focus (simp [truth, *]; done))
local macro_rules | `(tactic| walk_at "own ev_test") => `(tactic| rfl)
local macro_rules | `(tactic| walk_at "own ev_side") => `(tactic| focus first | decide | (simp [big, word]; done) | omega | (simp [big]; omega) | (simp [word]; omega) | (simp [few]; omega) | (simp [small]; omega))
local macro_rules | `(tactic| walk_at "own ev_stm") => `(tactic| assumption)
local macro_rules | `(tactic| walk_at "own ev_e") => `(tactic| first
  | exact r_var rfl
  | exact r_int
  | exact r_bl
  | exact r_str
  | exact r_non
  | (apply r_bin; walk_at "own ev_e"; walk_at "own ev_e"; walk_at "own ev_op")
  | (apply r_neg; walk_at "own ev_e")
  | (apply r_not; walk_at "own ev_e"; walk_at "own ev_test")
  | (apply r_cmp; walk_at "own ev_e"; walk_at "own ev_e"; walk_at "own ev_op")
  | (apply r_cmp2; walk_at "own ev_e"; walk_at "own ev_e"; walk_at "own ev_op"; walk_at "own ev_e"; walk_at "own ev_op")
  | (apply r_and_f; walk_at "own ev_e"; walk_at "own ev_test")
  | (apply r_and_t; walk_at "own ev_e"; walk_at "own ev_test"; walk_at "own ev_e")
  | (apply r_and; walk_at "own ev_e"; walk_at "own ev_e")
  | (apply r_or_t; walk_at "own ev_e"; walk_at "own ev_test")
  | (apply r_or_f; walk_at "own ev_e"; walk_at "own ev_test"; walk_at "own ev_e")
  | (apply r_or; walk_at "own ev_e"; walk_at "own ev_e")
  | (apply r_ife_t; walk_at "own ev_e"; walk_at "own ev_test"; walk_at "own ev_e")
  | (apply r_ife_f; walk_at "own ev_e"; walk_at "own ev_test"; walk_at "own ev_e")
  | (apply r_tup; walk_at "own ev_es"; walk_at "own ev_side")
  | (apply r_lst; walk_at "own ev_es"; walk_at "own ev_side")
  | (apply r_ix; walk_at "own ev_e"; walk_at "own ev_e"; walk_at "own ev_op")
  | (apply r_sl; walk_at "own ev_e"; walk_at "own ev_eo"; walk_at "own ev_eo"; walk_at "own ev_op")
  | (apply r_call; walk_at "own ev_es"; walk_at "own ev_call")
  | (apply r_bi; walk_at "own ev_es"; walk_at "own ev_op")
  | (apply r_me; walk_at "own ev_e"; walk_at "own ev_op"; walk_at "own ev_es"; walk_at "own ev_op")
  | (apply r_isi; walk_at "own ev_e"; walk_at "own ev_op")
  | (apply r_told; walk_at "own ev_e")
  | walk_at "own ev_stm")
local macro_rules | `(tactic| walk_at "own ev_es") => `(tactic| first | exact r_nil | (apply r_cons; walk_at "own ev_e"; walk_at "own ev_es"))
local macro_rules | `(tactic| walk_at "own ev_eo") => `(tactic| first | exact r_none | (apply r_some; walk_at "own ev_e"))
local macro_rules | `(tactic| walk_at "own ev_g") => `(tactic| first | exact g_var | exact g_nil | (apply g_tup; walk_at "own ev_g") | (apply g_cons; walk_at "own ev_g"; walk_at "own ev_g") | (apply g_sub; walk_at "own ev_e"; walk_at "own ev_e"; walk_at "own ev_op"))
local macro_rules | `(tactic| walk_at "own ev_s") => `(tactic| first
  | (apply s_asg; walk_at "own ev_e"; walk_at "own ev_g")
  | (apply s_par; walk_at "own ev_es"; rfl)
  | (apply s_aug; rfl; walk_at "own ev_e"; walk_at "own ev_op")
  | (apply s_expr; walk_at "own ev_e")
  | walk_at "own ev_stm")
local macro_rules | `(tactic| walk_at "own ev_ss") => `(tactic| first
  | exact s_nil
  | (apply s_ret; walk_at "own ev_e")
  | exact x_rais
  | (apply s_ite_tr; walk_at "own ev_e"; walk_at "own ev_test"; walk_at "own ev_ss")
  | (apply s_ite_t; walk_at "own ev_e"; walk_at "own ev_test"; walk_at "own ev_ss"; walk_at "own ev_ss")
  | (apply s_ite_fr; walk_at "own ev_e"; walk_at "own ev_test"; walk_at "own ev_ss")
  | (apply s_ite_f; walk_at "own ev_e"; walk_at "own ev_test"; walk_at "own ev_ss"; walk_at "own ev_ss")
  | (apply x_ite_t; walk_at "own ev_e"; walk_at "own ev_test"; walk_at "own ev_ss")
  | (apply s_cons; walk_at "own ev_s"; walk_at "own ev_ss"))
local macro_rules | `(tactic| walk_at "own ev") => `(tactic| first | walk_at "own ev_ss" | walk_at "own ev_s" | walk_at "own ev_e" | walk_at "own ev_es")
variable (n : Nat)
variable {x0 a2 a3 a4 a5 a6 a7 a8 a9 a10 a11 a12 a13 a14 a15 : Option D} {q : Nat}
def nthS : ISs → Nat → IS
  | .cons s _, 0 => s
  | .cons _ ss, k + 1 => nthS ss k
  | .nil, _ => .never
theorem fl2 {g : List Bool} (h1 : fl g [0, 1, 2, 3, 4, 5] = true) (h2 : fl g [6] = true) (w : List Bool) (hw : w.length ≤ 6) : okFlip g w = true := by
  have m := rows_all w
  have h : w.length = 6 ∨ w.length ∈ [0, 1, 2, 3, 4, 5] := by
    have : w.length = 6 ∨ w.length = 0 ∨ w.length = 1 ∨ w.length = 2 ∨ w.length = 3 ∨ w.length = 4 ∨ w.length = 5 := by omega
    simpa using this
  rcases h with h | h
  · exact List.all_eq_true.mp (List.all_eq_true.mp h2 w.length (by rw [h]; decide)) w m
  · exact List.all_eq_true.mp (List.all_eq_true.mp h1 w.length h) w m
theorem guards_at : guards = (List.range 14).map gAt := by decide +kernel
theorem flip_all (g : List Bool) (hg : g ∈ guards) (w : List Bool) (hw : w.length ≤ 6) : okFlip g w = true := by
  rw [guards_at] at hg
  obtain ⟨i, hi, rfl⟩ := List.mem_map.mp hg
  have hi := List.mem_range.mp hi
  match i, hi with
  | 0, _ => exact fl2 f3_0 f3b_0 w hw
  | 1, _ => exact fl2 f3_1 f3b_1 w hw
  | 2, _ => exact fl2 f3_2 f3b_2 w hw
  | 3, _ => exact fl2 f3_3 f3b_3 w hw
  | 4, _ => exact fl2 f3_4 f3b_4 w hw
  | 5, _ => exact fl2 f3_5 f3b_5 w hw
  | 6, _ => exact fl2 f3_6 f3b_6 w hw
  | 7, _ => exact fl2 f3_7 f3b_7 w hw
  | 8, _ => exact fl2 f3_8 f3b_8 w hw
  | 9, _ => exact fl2 f3_9 f3b_9 w hw
  | 10, _ => exact fl2 f3_10 f3b_10 w hw
  | 11, _ => exact fl2 f3_11 f3b_11 w hw
  | 12, _ => exact fl2 f3_12 f3b_12 w hw
  | 13, _ => exact fl2 f3_13 f3b_13 w hw
  | k + 14, h => omega
theorem rest_all (g : List Bool) (hg : g ∈ guards) (w : List Bool) (hw : w.length ≤ 6) : okRest g w = true :=
  List.all_eq_true.mp (List.all_eq_true.mp (List.all_eq_true.mp f2 g hg) w.length (List.mem_range.mpr (by omega))) w (rows_all w)
theorem un_all (g : List Bool) (hg : g ∈ guards) (k : Nat) (hk : k < 4) : unM g (g.length - 1 + k) = minO (letsM g (g.length - 1 + k)) :=
  of_decide_eq_true (List.all_eq_true.mp (List.all_eq_true.mp f4 g hg) k (List.mem_range.mpr hk))
theorem ne_encO (a : Option Nat) (S : Sto) : cmpD .ne (encO a) (encO a) S = some false := by cases a <;> simp [encO, cmpD, eqD, dep, shal, eqv]
theorem shortest_all (row : List Bool) (hr : row.length ≤ 7) : (shortM row).2.length = (shortM row).1 ∧ (shortM row).1 ≤ row.length ∧ makesM row (shortM row).2 = true ∧ goesM (shortM row).2 (row.length - (shortM row).1) (row.take (shortM row).1) = row := by
  have h := short_ok row hr
  unfold okShort at h
  simp only [Bool.and_eq_true, decide_eq_true_eq, beq_iff_eq] at h
  exact ⟨h.1.1.1.1, h.1.1.1.2, h.1.1.2, h.1.2⟩
theorem cut_take' {α : Type} (xs : List α) (k : Nat) (h : k ≤ xs.length) : cut xs none (some (k : Int)) = xs.take k := by
  have h1 : ¬ ((k : Int) < 0) := by omega
  simp [cut, sIx, h1, Nat.min_eq_left h]
theorem bad_loop (w : List Bool) (hw : w.length ≤ 100) (S : Sto) : ∃ z X,
    qS (qC P (n + 2)) (nthS Blaw_L1 15) (E16 x0 q a2 a3 a4 a5 a6 a7 a8 a9 a10 a11 a12 (some (W w)) a14 a15) S = .ok .nx (E16 x0 q a2 a3 a4 a5 a6 a7 a8 a9 a10 a11 z (some (W w)) a14 a15) (S ++ X) := by
  have hi : qI (qC P (n + 2)) (.val (.lst (.cons (.tup (.cons (.int 1) .nil)) (.cons (.tup (.cons (.int 0) (.cons (.int 1) .nil))) (.cons (.tup (.cons (.int 1) (.cons (.int 2) .nil))) .nil))))) (E16 x0 q a2 a3 a4 a5 a6 a7 a8 a9 a10 a11 a12 (some (W w)) a14 a15) S = .ok (.lst S.length) (S ++ [.lst [.tup [.int 1], .tup [.int 0, .int 1], .tup [.int 1, .int 2]]]) := by
    apply i_ref
    · walk_at "own ev"
    · exact items_new _ _
  obtain ⟨env', S', h1, rfl, y, rfl⟩ := foriP (C := qC P (n + 2)) (g := .var 12) (b := Blaw_L0) (Rel := fun _ env S' => S' = S ++ [.lst [.tup [.int 1], .tup [.int 0, .int 1], .tup [.int 1, .int 2]]] ∧ ∃ y, env = E16 x0 q a2 a3 a4 a5 a6 a7 a8 a9 a10 a11 y (some (W w)) a14 a15) (enc := fun d : D => d) hi [.tup [.int 1], .tup [.int 0, .int 1], .tup [.int 1, .int 2]] (by simp)
    (fun i s env S' h => by obtain ⟨rfl, _⟩ := h; simp only [turn]; rw [items_new]; simp) ⟨rfl, a12, rfl⟩ (fun pre a post ep env S' ⟨e1, y, e2⟩ => by
      subst e1 e2
      have ha : a ∈ [D.tup [.int 1], .tup [.int 0, .int 1], .tup [.int 1, .int 2]] := by rw [ep]; simp
      have hx : ∀ S, qC P (n + 2) 3 [W w, a] S = .exc ⟨0, none⟩ S := fun S => by
        simp only [List.mem_cons, List.not_mem_nil, or_false] at ha
        rcases ha with rfl | rfl | rfl
        · exact rest_x1 (n + 1) w S
        · exact rest_x2 (n + 1) w S
        · exact rest_x3 (n + 1) w hw S
      apply Stp.nx g_var
      · unfold Blaw_L0
        apply s_ite_f
        · apply r_cmp
          · apply r_told_x
            · apply r_call
              · walk_at "own ev"
              · exact hx _
            · rfl
          · walk_at "own ev"
          · rfl
        · rfl
        · walk_at "own ev"
        · walk_at "own ev"
      · exact ⟨rfl, _, rfl⟩)
  exact ⟨y, _, h1⟩
theorem kp_app {S T : Sto} (h : Dc q S) (X : Sto) : Dc q (S ++ X) := by
  obtain ⟨o, h1, h2⟩ := h
  exact ⟨o, by rw [app_old (lt_of_some h1)]; exact h1, h2⟩
theorem body_ok (T : Sto) (hd : Dc q T) :
    ∃ env' T', qSs (qC P (n + 4)) Blaw_L1 (E16 x0 q a2 a3 a4 a5 a6 a7 a8 a9 a10 a11 a12 a13 a14 a15) T = .ok .nx env' T' ∧
      (∃ b2 b3 b4 b5 b6 b7 b8 b9 b10 b11 b12 b13 b14 b15, env' = E16 x0 q b2 b3 b4 b5 b6 b7 b8 b9 b10 b11 b12 b13 b14 b15) ∧ Kp q T T' ∧ Dc q T' := by
  have rl : ∀ (k : Int), 0 < k → k < 1073741824 → ∀ {S : Sto}, Dc q S → _ := fun k hk hk2 {S} h => roll_Q (P := P) (f := 8) rfl (n + 3) k hk hk2 (q := q) (S := S) h
  obtain ⟨r1, T1, l1, k1, d1, _, e1⟩ := rl 8 (by decide) (by decide) hd
  -- 0
  obtain ⟨row, T2, hrow, s0, k2, d2⟩ := rollbits (n + 3) (env := E16 x0 q a2 a3 a4 a5 a6 a7 a8 a9 a10 a11 a12 a13 a14 a15) (q := q) (it := .rng1 (.call 8 (.cons (.var 1) (.cons (.int 8) .nil)))) (S := T) (S1 := T1) (N := r1) rfl (by
    apply i_rng1
    · walk_at "own ev"
    · simp [word]; omega
    · simp) (by omega) d1
  have hr7 : row.length ≤ 7 := by omega
  have s0' : qS (qC P (n + 4)) (nthS Blaw_L1 0) (E16 x0 q a2 a3 a4 a5 a6 a7 a8 a9 a10 a11 a12 a13 a14 a15) T = .ok .nx (E16 x0 q a2 (some (W row)) a4 a5 a6 a7 a8 a9 a10 a11 a12 a13 a14 a15) T2 := s_asg s0 g_var
  -- 1
  obtain ⟨c1, c2, c3, c4⟩ := shortest_all row hr7
  obtain ⟨rest, m1, m2⟩ := short_min row hr7
  have sh := fun S => shortest_ev (n + 3) row (by omega) S
  generalize shortM row = lt at *
  obtain ⟨long, taps⟩ := lt
  simp only at c1 c2 c3 c4 m1 m2 sh
  have s1 : qS (qC P (n + 4)) (nthS Blaw_L1 1) (E16 x0 q a2 (some (W row)) a4 a5 a6 a7 a8 a9 a10 a11 a12 a13 a14 a15) T2 = .ok .nx (E16 x0 q a2 (some (W row)) (some (.int (long : Nat))) (some (W taps)) a6 a7 a8 a9 a10 a11 a12 a13 a14 a15) T2 := by
    apply s_asg
    · apply r_call
      · walk_at "own ev"
      · exact sh _
    · exact g_tup (g_cons g_var (g_cons g_var g_nil))
  -- 2
  obtain ⟨G2, l2⟩ := lengths_lc (n + 3) (x0 := x0) (q := q) (a2 := a2) (a4 := some (.int (long : Nat))) (a5 := some (W taps)) (a6 := a6) (a7 := a7) (a8 := a8) (a9 := a9) (a10 := a10) (a11 := a11) (a12 := a12) (a13 := a13) (a14 := a14) (a15 := a15) row hr7 T2
  have s2 : qS (qC P (n + 4)) (nthS Blaw_L1 2) (E16 x0 q a2 (some (W row)) (some (.int (long : Nat))) (some (W taps)) a6 a7 a8 a9 a10 a11 a12 a13 a14 a15) T2 = .ok .nx (E16 x0 q a2 (some (W row)) (some (.int (long : Nat))) (some (W taps)) (some (.ref T2.length)) a7 a8 a9 a10 a11 a12 a13 a14 a15) _ := s_asg l2 g_var
  rw [m1] at s2
  have hi2 : items (T2 ++ MO.lst ((long :: rest).map fun k : Nat => D.int (k : Nat)) :: G2) T2.length = some ((long :: rest).map fun k : Nat => D.int (k : Nat)) := by
    unfold items
    rw [List.getElem?_append_right (Nat.le_refl _), Nat.sub_self]; rfl
  have d3 : Dc q (T2 ++ MO.lst ((long :: rest).map fun k : Nat => D.int (k : Nat)) :: G2) := kp_app (T := T2) d2 _
  have k3 : Kp q T2 (T2 ++ MO.lst ((long :: rest).map fun k : Nat => D.int (k : Nat)) :: G2) := .app _ _ _
  generalize hp : T2.length = p at *
  generalize T2 ++ MO.lst ((long :: rest).map fun k : Nat => D.int (k : Nat)) :: G2 = T3 at *
  -- 3
  have mk := fun S => makes_ev (n + 3) row taps (by omega) (by omega) S
  rw [c3] at mk
  have s3 : qS (qC P (n + 4)) (nthS Blaw_L1 3) (E16 x0 q a2 (some (W row)) (some (.int (long : Nat))) (some (W taps)) (some (.ref p)) a7 a8 a9 a10 a11 a12 a13 a14 a15) T3 = .ok .nx (E16 x0 q a2 (some (W row)) (some (.int (long : Nat))) (some (W taps)) (some (.ref p)) a7 a8 a9 a10 a11 a12 a13 a14 a15) T3 := by
    apply ite_f
    · apply r_or_f
      · apply r_cmp
        · walk_at "own ev"
        · apply r_bi
          · walk_at "own ev"
          · exact min_ev hi2 m2
        · rfl
      · simp [truth, eqv]
      · apply r_or_f
        · apply r_cmp
          · walk_at "own ev"
          · walk_at "own ev"
          · rfl
        · simp [truth, eqv, c1]
        · apply r_not
          · apply r_call
            · walk_at "own ev"
            · exact mk _
          · rfl
    · rfl
    · walk_at "own ev"
  -- 4
  have go := fun S => goes_ev (n + 3) (row.take long) taps (row.length - long) (by omega) (by simp; omega) (by simp; omega) S
  rw [c4, c1] at go
  have s4 : qS (qC P (n + 4)) (nthS Blaw_L1 4) (E16 x0 q a2 (some (W row)) (some (.int (long : Nat))) (some (W taps)) (some (.ref p)) a7 a8 a9 a10 a11 a12 a13 a14 a15) T3 = .ok .nx (E16 x0 q a2 (some (W row)) (some (.int (long : Nat))) (some (W taps)) (some (.ref p)) a7 a8 a9 a10 a11 a12 a13 a14 a15) T3 := by
    apply ite_f
    · apply r_cmp
      · apply r_call
        · apply r_cons
          · show qE _ _ _ _ = .ok (W (row.take long)) T3
            apply e_of
            · apply r_sl
              · walk_at "own ev"
              · walk_at "own ev_eo"
              · walk_at "own ev_eo"
              · rfl
            · rw [cut_take' _ _ (by simp; omega), ← List.map_take]; rfl
            · rfl
          · apply r_cons
            · walk_at "own ev"
            · apply r_cons
              · walk_at "own ev"
              · apply r_cons
                · show qE _ _ _ _ = .ok (.int ((row.length - long : Nat) : Int)) T3
                  apply e_of
                  · walk_at "own ev"
                  · simp; omega
                  · rfl
                · walk_at "own ev"
        · exact go _
      · walk_at "own ev"
      · exact ne_W _ _ _
    · simp [truth]
    · walk_at "own ev"
  -- 5
  obtain ⟨r5, T4, l5, k5, d5, _, e5⟩ := rl 3 (by decide) (by decide) d3
  obtain ⟨g, T5, hg, t5, k6, d6⟩ := rollbits (n + 3) (env := E16 x0 q a2 (some (W row)) (some (.int (long : Nat))) (some (W taps)) (some (.ref p)) a7 a8 a9 a10 a11 a12 a13 a14 a15) (q := q) (it := .rng1 (.bin .add (.int 1) (.call 8 (.cons (.var 1) (.cons (.int 3) .nil))))) (S := T3) (S1 := T4) (N := 1 + r5) rfl (by
    apply i_rng1
    · walk_at "own ev"
    · simp [word]; omega
    · omega) (by omega) d5
  have hgm := guards_all g (by omega) (by omega)
  have okg : okG (true :: g) := ⟨by simp; omega, rfl, by simp; omega⟩
  have s5 : qS (qC P (n + 4)) (nthS Blaw_L1 5) (E16 x0 q a2 (some (W row)) (some (.int (long : Nat))) (some (W taps)) (some (.ref p)) a7 a8 a9 a10 a11 a12 a13 a14 a15) T3 = .ok .nx (E16 x0 q a2 (some (W row)) (some (.int (long : Nat))) (some (W taps)) (some (.ref p)) (some (W (true :: g))) a8 a9 a10 a11 a12 a13 a14 a15) T5 := by
    apply s_asg
    · apply r_bin
      · walk_at "own ev"
      · exact t5
      · apply op_addT; simp [big]; omega
    · exact g_var
  have hgl : (true :: g).length = g.length + 1 := rfl
  have hgu : (true :: g).length - 1 = g.length := rfl
  generalize hG : true :: g = gd at *
  -- 6
  obtain ⟨r6, T6, l6, k7, d7, _, e6⟩ := rl 7 (by decide) (by decide) d6
  obtain ⟨w, T7, hw, t6, k8, d8⟩ := rollbits (n + 3) (env := E16 x0 q a2 (some (W row)) (some (.int (long : Nat))) (some (W taps)) (some (.ref p)) (some (W gd)) a8 a9 a10 a11 a12 a13 a14 a15) (q := q) (it := .rng1 (.call 8 (.cons (.var 1) (.cons (.int 7) .nil)))) (S := T5) (S1 := T6) (N := r6) rfl (by
    apply i_rng1
    · walk_at "own ev"
    · simp [word]; omega
    · simp) (by omega) d7
  have hw6 : w.length ≤ 6 := by omega
  have s6 : qS (qC P (n + 4)) (nthS Blaw_L1 6) (E16 x0 q a2 (some (W row)) (some (.int (long : Nat))) (some (W taps)) (some (.ref p)) (some (W gd)) a8 a9 a10 a11 a12 a13 a14 a15) T5 = .ok .nx (E16 x0 q a2 (some (W row)) (some (.int (long : Nat))) (some (W taps)) (some (.ref p)) (some (W gd)) (some (.int (g.length : Nat))) a9 a10 a11 a12 (some (W w)) a14 a15) T7 := by
    apply s_of
    · apply s_asg
      · apply r_tup
        · apply r_cons
          · exact t6
          · apply r_cons
            · walk_at "own ev"
            · walk_at "own ev"
        · walk_at "own ev_side"
      · exact g_tup (g_cons g_var (g_cons g_var g_nil))
    · simp [hgl]
    · rfl
  -- 7
  have okr := rest_all gd hgm w hw6
  unfold okRest at okr
  simp only [Bool.and_eq_true, decide_eq_true_eq, beq_iff_eq] at okr
  obtain ⟨⟨o1, o2⟩, o3⟩ := okr
  have okf := flip_all gd hgm w hw6
  unfold okFlip at okf
  simp only [Bool.and_eq_true, Bool.or_eq_true, Bool.not_eq_true', List.all_eq_true, List.mem_range] at okf
  obtain ⟨f1', f2'⟩ := okf
  have v1 := fun S => rest_ev (n + 3) w gd (by omega) okg S
  have v2 := fun S => lrest_ev (n + 3) w gd (by omega) okg S
  have v3 := fun S => rsh_ev (n + 3) w gd (by omega) okg S
  rw [← o1] at v2
  rw [o2] at v3
  generalize hR : restM w gd = R at *
  have s7 : qS (qC P (n + 4)) (nthS Blaw_L1 7) (E16 x0 q a2 (some (W row)) (some (.int (long : Nat))) (some (W taps)) (some (.ref p)) (some (W gd)) (some (.int (g.length : Nat))) a9 a10 a11 a12 (some (W w)) a14 a15) T7 = .ok .nx (E16 x0 q a2 (some (W row)) (some (.int (long : Nat))) (some (W taps)) (some (.ref p)) (some (W gd)) (some (.int (g.length : Nat))) a9 a10 a11 a12 (some (W w)) a14 a15) T7 := by
    apply ite_f
    · apply r_or_f
      · apply r_cmp
        · apply r_call
          · walk_at "own ev"
          · exact v1 _
        · apply r_call
          · walk_at "own ev"
          · exact v2 _
        · exact ne_W _ _ _
      · simp [truth]
      · apply r_cmp
        · apply r_call
          · walk_at "own ev"
          · exact v3 _
        · apply r_call
          · walk_at "own ev"
          · exact v1 _
        · exact ne_W _ _ _
    · simp [truth]
    · walk_at "own ev"
  -- 8
  have s8 : qS (qC P (n + 4)) (nthS Blaw_L1 8) (E16 x0 q a2 (some (W row)) (some (.int (long : Nat))) (some (W taps)) (some (.ref p)) (some (W gd)) (some (.int (g.length : Nat))) a9 a10 a11 a12 (some (W w)) a14 a15) T7 = .ok .nx (E16 x0 q a2 (some (W row)) (some (.int (long : Nat))) (some (W taps)) (some (.ref p)) (some (W gd)) (some (.int (g.length : Nat))) (some (W (w ++ R))) a10 a11 a12 (some (W w)) a14 a15) T7 := by
    apply s_of
    · apply s_asg
      · apply r_bin
        · walk_at "own ev"
        · apply r_call
          · walk_at "own ev"
          · exact v1 _
        · apply op_addT; simp [big]; omega
      · exact g_var
    · simp [W]
    · rfl
  have hwl : (w ++ R).length = w.length + R.length := List.length_append ..
  generalize hWh : w ++ R = wh at *
  -- 9
  have so := fun S => sound_ev (n + 2) wh gd (by omega) okg (by omega) S
  rw [f1'] at so
  have s9 : qS (qC P (n + 4)) (nthS Blaw_L1 9) (E16 x0 q a2 (some (W row)) (some (.int (long : Nat))) (some (W taps)) (some (.ref p)) (some (W gd)) (some (.int (g.length : Nat))) (some (W wh)) a10 a11 a12 (some (W w)) a14 a15) T7 = .ok .nx (E16 x0 q a2 (some (W row)) (some (.int (long : Nat))) (some (W taps)) (some (.ref p)) (some (W gd)) (some (.int (g.length : Nat))) (some (W wh)) a10 a11 a12 (some (W w)) a14 a15) T7 := by
    apply ite_f
    · apply r_not
      · apply r_call
        · walk_at "own ev"
        · exact so _
      · rfl
    · rfl
    · walk_at "own ev"
  -- 10
  obtain ⟨k, T8, l8, k9, d9, _, e8⟩ := rl ((wh.length : Nat) : Int) (by omega) (by omega) d8
  have s10 : qS (qC P (n + 4)) (nthS Blaw_L1 10) (E16 x0 q a2 (some (W row)) (some (.int (long : Nat))) (some (W taps)) (some (.ref p)) (some (W gd)) (some (.int (g.length : Nat))) (some (W wh)) a10 a11 a12 (some (W w)) a14 a15) T7 = .ok .nx (E16 x0 q (some (.int (k : Nat))) (some (W row)) (some (.int (long : Nat))) (some (W taps)) (some (.ref p)) (some (W gd)) (some (.int (g.length : Nat))) (some (W wh)) a10 a11 a12 (some (W w)) a14 a15) T8 := by
    apply s_asg
    · apply r_call
      · apply r_cons
        · walk_at "own ev"
        · apply r_cons
          · show qE _ _ _ _ = .ok (.int (wh.length : Nat)) T7
            apply e_of
            · walk_at "own ev"
            · simp
            · rfl
          · walk_at "own ev"
      · exact e8
    · exact g_var
  -- 11
  have hk : k < wh.length := by omega
  have hfl : (flip1 wh k).length = wh.length := by unfold flip1; simp; omega
  have so2 := fun S => sound_ev (n + 2) (flip1 wh k) gd (by omega) okg (by omega) S
  have gk : (wh.map eb)[((k : Nat) : Int).toNat]? = some (eb (wh.getD k false)) := get_eb (by simp) hk
  have glast : (gd.map eb)[(((gd.map eb).length : Nat) - 1 : Int).toNat]? = some (eb (gd.getLast?.getD false)) := by
    rw [get_eb (j := gd.length - 1) (by simp) (by omega)]
    rw [List.getLast?_eq_getElem?, List.getD_eq_getElem?_getD]
  have s11 : qS (qC P (n + 4)) (nthS Blaw_L1 11) (E16 x0 q (some (.int (k : Nat))) (some (W row)) (some (.int (long : Nat))) (some (W taps)) (some (.ref p)) (some (W gd)) (some (.int (g.length : Nat))) (some (W wh)) a10 a11 a12 (some (W w)) a14 a15) T8 = .ok .nx (E16 x0 q (some (.int (k : Nat))) (some (W row)) (some (.int (long : Nat))) (some (W taps)) (some (.ref p)) (some (W gd)) (some (.int (g.length : Nat))) (some (W wh)) a10 a11 a12 (some (W w)) a14 a15) T8 := by
    cases hb : gd.getLast?.getD false with
    | false =>
      rw [hb] at glast
      apply ite_f
      · apply r_and_f
        · apply r_cmp
          · apply r_ix
            · walk_at "own ev"
            · walk_at "own ev"
            · exact ix_tup (by simp; omega) glast
          · walk_at "own ev"
          · rfl
        · rfl
      · rfl
      · walk_at "own ev"
    | true =>
      rw [hb] at glast
      have hns : soundM (flip1 wh k) gd = false := by
        rcases f2' with z | z
        · rw [hb] at z; cases z
        · exact z k hk
      rw [hns] at so2
      apply ite_f
      · apply r_and_t
        · apply r_cmp
          · apply r_ix
            · walk_at "own ev"
            · walk_at "own ev"
            · exact ix_tup (by simp; omega) glast
          · walk_at "own ev"
          · rfl
        · rfl
        · apply r_call
          · apply r_cons
            · show qE _ _ _ _ = .ok (W (flip1 wh k)) T8
              apply e_of
              · apply r_bin
                · apply r_bin
                  · apply r_sl
                    · walk_at "own ev"
                    · walk_at "own ev_eo"
                    · walk_at "own ev_eo"
                    · rfl
                  · apply r_tup
                    · apply r_cons
                      · apply r_bin
                        · walk_at "own ev"
                        · apply r_ix
                          · walk_at "own ev"
                          · walk_at "own ev"
                          · exact ix_tup (by omega) gk
                        · rfl
                      · walk_at "own ev"
                    · walk_at "own ev_side"
                  · apply op_addT; rw [cut_take' _ _ (by simp; omega)]; simp [big]; omega
                · apply r_sl
                  · walk_at "own ev"
                  · walk_at "own ev_eo"
                  · walk_at "own ev_eo"
                  · rfl
                · apply op_addT
                  rw [cut_take' _ _ (by simp; omega), show ((k : Nat) : Int) + 1 = ((k + 1 : Nat) : Int) by omega, cut_drop]; simp [big]; omega
              · rw [cut_take' _ _ (by simp; omega), show ((k : Nat) : Int) + 1 = ((k + 1 : Nat) : Int) by omega, cut_drop]
                unfold flip1
                cases wh.getD k false <;> simp [W, List.map_take, List.map_drop, eb, b2n]
              · rfl
            · walk_at "own ev"
          · exact so2 _
      · rfl
      · walk_at "own ev"
  -- 12
  obtain ⟨r9, T9, l9, k10, d10, _, e9⟩ := rl 4 (by decide) (by decide) d9
  obtain ⟨wide, hwide⟩ : ∃ wide, wide = g.length + r9 := ⟨_, rfl⟩
  have s12 : qS (qC P (n + 4)) (nthS Blaw_L1 12) (E16 x0 q (some (.int (k : Nat))) (some (W row)) (some (.int (long : Nat))) (some (W taps)) (some (.ref p)) (some (W gd)) (some (.int (g.length : Nat))) (some (W wh)) a10 a11 a12 (some (W w)) a14 a15) T8 = .ok .nx (E16 x0 q (some (.int (k : Nat))) (some (W row)) (some (.int (long : Nat))) (some (W taps)) (some (.ref p)) (some (W gd)) (some (.int (g.length : Nat))) (some (W wh)) (some (.int (wide : Nat))) a11 a12 (some (W w)) a14 a15) T9 := by
    apply s_of
    · walk_at "own ev"
    · rw [hwide]; rfl
    · rfl
  -- 13
  have l13 := lets_lc (n + 2) (x0 := x0) (q := q) (a2 := some (.int (k : Nat))) (a3 := some (W row)) (a4 := some (.int (long : Nat))) (a5 := some (W taps)) (a6 := some (.ref p)) (a8 := some (.int (g.length : Nat))) (a9 := some (W wh)) (a11 := a11) (a12 := a12) (a13 := some (W w)) (a14 := a14) (a15 := a15) gd wide okg (by omega) (by omega) T9
  have hun := un_all gd hgm r9 (by omega)
  rw [hgu, ← hwide] at hun
  have u14 := fun S => unseen_ev (n + 1) gd wide okg (by omega) (by omega) S
  rw [hun] at u14
  generalize letsM gd wide = L at *
  have i13 : items (T9 ++ [MO.lst ((rowsM wide).map W)] ++ [MO.lst (L.map fun k : Nat => D.int (k : Nat))]) (T9.length + 1) = some (L.map fun k : Nat => D.int (k : Nat)) := by
    have := items_new (T9 ++ [.lst ((rowsM wide).map W)]) (L.map fun k : Nat => D.int (k : Nat))
    rw [List.length_append, List.length_singleton] at this
    exact this
  have d11 : Dc q (T9 ++ [MO.lst ((rowsM wide).map W)] ++ [MO.lst (L.map fun k : Nat => D.int (k : Nat))]) := kp_app (T := T9) (kp_app (T := T9) d10 _) _
  have k11 : Kp q T9 (T9 ++ [MO.lst ((rowsM wide).map W)] ++ [MO.lst (L.map fun k : Nat => D.int (k : Nat))]) := (Kp.app _ _ _).trans (.app _ _ _)
  have s13 : qS (qC P (n + 4)) (nthS Blaw_L1 13) (E16 x0 q (some (.int (k : Nat))) (some (W row)) (some (.int (long : Nat))) (some (W taps)) (some (.ref p)) (some (W gd)) (some (.int (g.length : Nat))) (some (W wh)) (some (.int (wide : Nat))) a11 a12 (some (W w)) a14 a15) T9 = .ok .nx (E16 x0 q (some (.int (k : Nat))) (some (W row)) (some (.int (long : Nat))) (some (W taps)) (some (.ref p)) (some (W gd)) (some (.int (g.length : Nat))) (some (W wh)) (some (.int (wide : Nat))) (some (.ref (T9.length + 1))) a12 (some (W w)) a14 a15) _ := s_asg l13 g_var
  generalize T9.length + 1 = p2 at *
  generalize (T9 ++ [MO.lst ((rowsM wide).map W)] ++ [MO.lst (L.map fun k : Nat => D.int (k : Nat))] : Sto) = T10 at *
  -- 14
  have s14 : qS (qC P (n + 4)) (nthS Blaw_L1 14) (E16 x0 q (some (.int (k : Nat))) (some (W row)) (some (.int (long : Nat))) (some (W taps)) (some (.ref p)) (some (W gd)) (some (.int (g.length : Nat))) (some (W wh)) (some (.int (wide : Nat))) (some (.ref p2)) a12 (some (W w)) a14 a15) T10 = .ok .nx (E16 x0 q (some (.int (k : Nat))) (some (W row)) (some (.int (long : Nat))) (some (W taps)) (some (.ref p)) (some (W gd)) (some (.int (g.length : Nat))) (some (W wh)) (some (.int (wide : Nat))) (some (.ref p2)) a12 (some (W w)) a14 a15) (T10 ++ [MO.lst []]) := by
    have hz : shal 60 (deps (L.map fun k : Nat => D.int (k : Nat))) = true := by
      have : L.map (fun k : Nat => D.int (k : Nat)) = (L.map fun k : Nat => (k : Int)).map D.int := by rw [List.map_map]; rfl
      rw [this, deps_ints]; rfl
    have hcmp : cmpD .ne (.ref p2) (.ref T10.length) (T10 ++ [MO.lst []]) = some (!(L.map fun k : Nat => D.int (k : Nat)).isEmpty) := ne_nil_ref (items_app i13) (items_new _ _) hz
    cases L with
    | nil =>
      apply ite_f
      · apply r_cmp
        · apply r_call
          · walk_at "own ev"
          · exact u14 _
        · apply r_ife_f
          · apply r_cmp
            · walk_at "own ev"
            · walk_at "own ev"
            · exact hcmp
          · rfl
          · walk_at "own ev"
        · rfl
      · rfl
      · walk_at "own ev"
    | cons a r =>
      apply ite_f
      · apply r_cmp
        · apply r_call
          · walk_at "own ev"
          · exact u14 _
        · apply r_ife_t
          · apply r_cmp
            · walk_at "own ev"
            · walk_at "own ev"
            · exact hcmp
          · rfl
          · show qE _ _ _ _ = .ok (encO (minO (a :: r))) (T10 ++ [MO.lst []])
            apply r_bi
            · walk_at "own ev"
            · show (match items (T10 ++ [MO.lst []]) p2 with | some ys => (match intsD ys with | some (i :: r) => Res.ok (D.int (minI i r)) (T10 ++ [MO.lst []]) | _ => .bad) | none => .bad) = _
              rw [items_app i13]
              simp only
              rw [intsD_map (fun k : Nat => (k : Int)) (a :: r)]
              simp only [List.map_cons]
              rw [minO_I]
              rfl
        · exact ne_encO _ _
      · rfl
      · walk_at "own ev"
  -- 15, 16
  obtain ⟨z, X, s15⟩ := bad_loop (n + 2) (x0 := x0) (q := q) (a2 := some (.int (k : Nat))) (a3 := some (W row)) (a4 := some (.int (long : Nat))) (a5 := some (W taps)) (a6 := some (.ref p)) (a7 := some (W gd)) (a8 := some (.int (g.length : Nat))) (a9 := some (W wh)) (a10 := some (.int (wide : Nat))) (a11 := some (.ref p2)) (a12 := a12) (a14 := a14) (a15 := a15) w (by omega) (T10 ++ [MO.lst []])
  have s16 : qS (qC P (n + 4)) (nthS Blaw_L1 16) (E16 x0 q (some (.int (k : Nat))) (some (W row)) (some (.int (long : Nat))) (some (W taps)) (some (.ref p)) (some (W gd)) (some (.int (g.length : Nat))) (some (W wh)) (some (.int (wide : Nat))) (some (.ref p2)) z (some (W w)) a14 a15) (T10 ++ [MO.lst []] ++ X) = .ok .nx (E16 x0 q (some (.int (k : Nat))) (some (W row)) (some (.int (long : Nat))) (some (W taps)) (some (.ref p)) (some (W gd)) (some (.int (g.length : Nat))) (some (W wh)) (some (.int (wide : Nat))) (some (.ref p2)) z (some (W w)) a14 a15) (T10 ++ [MO.lst []] ++ X) := by
    apply ite_f
    · apply r_cmp
      · apply r_told_x
        · apply r_call
          · walk_at "own ev"
          · exact sound_x (n + 3) _
        · rfl
      · walk_at "own ev"
      · rfl
    · rfl
    · walk_at "own ev"
  refine ⟨E16 x0 q (some (.int (k : Nat))) (some (W row)) (some (.int (long : Nat))) (some (W taps)) (some (.ref p)) (some (W gd)) (some (.int (g.length : Nat))) (some (W wh)) (some (.int (wide : Nat))) (some (.ref p2)) z (some (W w)) a14 a15, T10 ++ [MO.lst []] ++ X, ?_, ⟨_, _, _, _, _, _, _, _, _, _, _, _, _, _, rfl⟩, ?_, kp_app (T := T10) (kp_app (T := T10) d11 [MO.lst []]) X⟩
  · unfold Blaw_L1 at *
    exact s_cons s0' (s_cons s1 (s_cons s2 (s_cons s3 (s_cons s4 (s_cons s5 (s_cons s6 (s_cons s7 (s_cons s8 (s_cons s9 (s_cons s10 (s_cons s11 (s_cons s12 (s_cons s13 (s_cons s14 (s_cons s15 (s_cons s16 s_nil))))))))))))))))
  · exact k1.trans (k2.trans (k3.trans (k5.trans (k6.trans (k7.trans (k8.trans (k9.trans (k10.trans (k11.trans ((Kp.app _ _ _).trans (.app _ _ _)))))))))))
theorem law_ok (ns : List Int) : ∃ S, qC P (n + 5) 13 [.fl (ns.map .int)] [] = .ok (.bl true) S := by
  obtain ⟨env', S', h1, h2, h3⟩ := law_Q (P := P) (d := 7) (f := 9) (n := n + 2) (k := 3) rfl rfl (by decide) ns 1 Blaw_L1 (fun env => ∃ x0 y1 y2 y3 y4 y5 y6 y7 y8 y9 y10 y11 y12 y13 y14 y15, env = [x0, y1, y2, y3, y4, y5, y6, y7, y8, y9, y10, y11, y12, y13, y14, y15])
    [some (.fl (ns.map .int)), none, none, none, none, none, none, none, none, none, none, none, none, none, none, none] [] rfl ⟨_, _, _, _, _, _, _, _, _, _, _, _, _, _, _, _, rfl⟩ (fun q env T k hq hd ⟨x0, y1, y2, y3, y4, y5, y6, y7, y8, y9, y10, y11, y12, y13, y14, y15, e⟩ => by
      subst e
      obtain ⟨env', T', e1, ⟨z2, z3, z4, z5, z6, z7, z8, z9, z10, z11, z12, z13, z14, z15, e2⟩, e3, e4⟩ := body_ok n (x0 := x0) (q := q) (a2 := y2) (a3 := y3) (a4 := y4) (a5 := y5) (a6 := y6) (a7 := y7) (a8 := y8) (a9 := y9) (a10 := y10) (a11 := y11) (a12 := y12) (a13 := y13) (a14 := y14) (a15 := y15) T hd
      exact ⟨env', T', e1, ⟨_, _, _, _, _, _, _, _, _, _, _, _, _, _, _, _, e2⟩, e3, e4⟩)
  refine ⟨[], ?_⟩
  apply call_rt (df := ⟨1, 16, Blaw⟩) rfl rfl (by simp [purs, pur, pur_ints]) (hv := rfl)
  rotate_right 2
  exact env'
  exact S'
  show qSs _ Blaw [some (.fl (ns.map .int)), none, none, none, none, none, none, none, none, none, none, none, none, none, none, none] [] = _
  unfold Blaw
  apply s_cons h1
  walk_at "own ev"
end K54
end
section
theorem J54.room : L2.Room ((2 + 1) * 5) PySem.callerA := ⟨rfl, by decide +kernel, by decide +kernel⟩
theorem PySem.Challenge.cw_circuithall_k54_shortest_taps_and_guards_holds : PySem.Challenge.rw_circuithall_k54_shortest_taps_and_guards.Holds :=
  K54.holds 5 J54.room fun ns _ => by
    have h := K54.law_ok 0 ns
    rw [Ev.qC_eq] at h
    exact h
end
