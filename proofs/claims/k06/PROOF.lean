import PyProof.Rows.All
import Wide.All
import OpenK.AllK
import Wide.FinOn
import HandS.ForMost
import HandS.Exc
import HandS.TryOnly
import HandS.ExcOwn
import HandS.TupAny
import HandS.TupMul
import HandS.DictComp
import HandS.More
import HandS.Conv
import HandS.Strs
import HandS.Style
import HandS.Replace
import HandS.Zip
import PySem.Syntax
import PySem.PyData
import PySem.Eval
import KE.GoesEnum
import KE.GoesMore
import HandS.Flow
import HandS.Lambda
import HandS.Defaults
import HandS.Words
import HandS.Ends
import HandS.Head0
import HandS.Head1
import HandS.Head2
import HandS.HeadEnd
import HandS.HeadHook1
import HandS.HeadHook2
import PySem.Challenge.RW_circuithall_k06_formulas_made_plain
import PyProof.TableCode
set_option Elab.async false
set_option linter.all false
section
/-! The evaluator: values, the store, the intermediate form (IR), its meaning. -/
namespace Ev

/-- a value: what is not changed in place stands for itself; a list, a dict by its place in the store; fl: a list that is only read -/
inductive D where
  | non | bl (b : Bool) | int (i : Int) | str (s : List Nat) | tup (ds : List D) | ref (n : Nat) | fl (ds : List D)
deriving Inhabited

/-- what stands in the store; fd: a dict while it is walked -/
inductive MO where
  | lst (xs : List D) | dct (kvs : List (D × D)) | fd (kvs : List (D × D))
deriving Inhabited

abbrev Sto := List MO
abbrev Env := List (Option D)

/-- an exception: the number of its class, what it carries -/
structure Ex where
  cls : Nat
  fld : Option D

inductive Res (α : Type) where
  | ok (a : α) (S : Sto) | exc (e : Ex) (S : Sto) | bad

@[reducible] def Res.bind {α β : Type} (r : Res α) (f : α → Sto → Res β) : Res β :=
  match r with
  | .ok a S => f a S
  | .exc e S => .exc e S
  | .bad => .bad

/-- the largest length -/
abbrev big : Nat := 16777216

/-! ### the intermediate form -/
inductive BOp where
  | add | sub | mul | fdiv | mod | pow
deriving DecidableEq
inductive COp where
  | eq | ne | lt | le | gt | ge | isN | notN | isin | notin
deriving DecidableEq
inductive BI where
  | len | abs | int | max2 | min2 | tuple | list | sorted | sum | maxl | minl
deriving DecidableEq
inductive ME where
  | append | index | pop | count
deriving DecidableEq

mutual
inductive IE where
  | var (i : Nat) | non | bl (b : Bool) | int (i : Int) | str (s : List Nat)
  | bin (o : BOp) (a b : IE)
  | neg (a : IE) | inot (a : IE)
  | cmp (o : COp) (a b : IE)
  | cmp2 (o o' : COp) (a b c : IE)
  | iand (a b : IE) | ior (a b : IE)
  | ife (c a b : IE)
  | tup (es : IEs) | lst (es : IEs) | dct (ps : IPs)
  | ix (a i : IE) | sl (a : IE) (lo hi : IEo)
  | call (f : Nat) (es : IEs)
  | bi (f : BI) (es : IEs)
  | me (m : ME) (o : IE) (es : IEs)
  | lc (vs : List Nat) (g : IG) (it : II) (ifs : IEs) (e : IE)
  | lc2 (vs : List Nat) (g : IG) (it : II) (ifs : IEs) (vs1 : List Nat) (g1 : IG) (it1 : II) (ifs1 : IEs) (e : IE)
  | dc (vs : List Nat) (g : IG) (it : II) (ifs : IEs) (k v : IE)
  | dc2 (vs : List Nat) (g : IG) (it : II) (ifs : IEs) (vs1 : List Nat) (g1 : IG) (it1 : II) (ifs1 : IEs) (k v : IE)
inductive IEs where
  | nil | cons (e : IE) (es : IEs)
inductive IPs where
  | nil | cons (k v : IE) (ps : IPs)
inductive IEo where
  | none | some (e : IE)
inductive II where
  | val (e : IE) | rng1 (a : IE) | rng2 (a b : IE) | rng3 (a b c : IE) | enum (e : IE) | zip (a b : IE)
inductive IG where
  | var (i : Nat) | tup (gs : IGs) | sub (o i : IE)
inductive IGs where
  | nil | cons (g : IG) (gs : IGs)
end

mutual
inductive IS where
  | asg (g : IG) (e : IE)
  | par (xs : List Nat) (es : IEs)
  | aug (i : Nat) (o : BOp) (e : IE)
  | expr (e : IE)
  | ret (e : IE) | retN
  | ite (c : IE) (a b : ISs)
  | whil (c : IE) (b : ISs)
  | fori (g : IG) (it : II) (b : ISs)
  | brk | cont | pass | never
inductive ISs where
  | nil | cons (s : IS) (ss : ISs)
end

/-! ### operations on values -/
mutual
/-- == as Python has it, on what holds no lists, no dicts -/
def eqv : D → D → Bool
  | .non, .non => true
  | .bl a, .bl b => a == b
  | .bl a, .int j => (if a then 1 else 0) == j
  | .int i, .bl b => i == (if b then 1 else 0)
  | .int i, .int j => i == j
  | .str x, .str y => x == y
  | .tup xs, .tup ys => eqvs xs ys
  | _, _ => false
def eqvs : List D → List D → Bool
  | [], [] => true
  | x :: xs, y :: ys => eqv x y && eqvs xs ys
  | _, _ => false
end
mutual
/-- the depth of nesting; none where a list or dict is within -/
def dep : D → Option Nat
  | .ref _ => none
  | .fl _ => none
  | .tup ds => (deps ds).map (· + 1)
  | .str s => if s.all (fun c => decide (c < 1114112)) then some 0 else none
  | _ => some 0
def deps : List D → Option Nat
  | [] => some 0
  | d :: ds => match dep d, deps ds with
    | some a, some b => some (max a b)
    | _, _ => none
end
/-- may be compared, held in a flat store -/
def shal (n : Nat) (o : Option Nat) : Bool := match o with | some k => decide (k ≤ n) | none => false
def flat : D → Bool
  | .tup _ => false
  | .ref _ => false
  | .fl _ => false
  | _ => true

def lookS (S : Sto) (n : Nat) : Option MO := S[n]?
/-- the items of a list -/
def items (S : Sto) (n : Nat) : Option (List D) := match S[n]? with
  | some (.lst xs) => some xs
  | _ => none
def pairs (S : Sto) (n : Nat) : Option (List (D × D)) := match S[n]? with
  | some (.dct xs) => some xs
  | some (.fd xs) => some xs
  | _ => none

/-- == of two values -/
def eqD (S : Sto) (x y : D) : Option Bool := match x, y with
  | .ref n, .ref m => match items S n, items S m with
    | some xs, some ys => if shal 60 (deps xs) && shal 60 (deps ys) then some (eqvs xs ys) else none
    | _, _ => none
  | .ref n, y => match items S n with
    | some xs => if shal 60 (deps xs) && shal 60 (dep y) then some false else none
    | none => none
  | x, .ref m => match items S m with
    | some ys => if shal 60 (dep x) && shal 60 (deps ys) then some false else none
    | none => none
  | x, y => if shal 60 (dep x) && shal 60 (dep y) then some (eqv x y) else none

def truth (S : Sto) : D → Option Bool
  | .non => some false
  | .bl b => some b
  | .int i => some (i != 0)
  | .str s => if s.length ≤ big then some (!s.isEmpty) else none
  | .tup ds => some (!ds.isEmpty)
  | .fl _ => none
  | .ref n => match items S n with
    | some xs => some (!xs.isEmpty)
    | none => match S[n]? with
      | some (.dct kvs) => some (!kvs.isEmpty)
      | _ => none

def small (i : Int) : Bool := decide (-(2 ^ 64) < i) && decide (i < 2 ^ 64)
def word (i : Int) : Bool := decide (-(2 ^ 62) ≤ i) && decide (i < 2 ^ 62)

def alloc (o : MO) (S : Sto) : Res D := .ok (.ref S.length) (S ++ [o])

def binD (o : BOp) (x y : D) (S : Sto) : Res D := match o with
  | .add => match x, y with
    | .int i, .int j => .ok (.int (i + j)) S
    | .str a, .str b => if a.length + b.length ≤ big then .ok (.str (a ++ b)) S else .bad
    | .tup a, .tup b => if a.length + b.length ≤ big then .ok (.tup (a ++ b)) S else .bad
    | .ref n, .ref m => match S[n]?, S[m]? with
      | some (.lst a), some (.lst b) => if a.length + b.length ≤ big then alloc (.lst (a ++ b)) S else .bad
      | _, _ => .bad
    | _, _ => .bad
  | .sub => match x, y with
    | .int i, .int j => .ok (.int (i - j)) S
    | _, _ => .bad
  | .mul => match x, y with
    | .int i, .int j => if small i || small j then .ok (.int (i * j)) S else .bad
    | _, _ => .bad
  | .fdiv => match x, y with
    | .int i, .int j => if decide (0 < j) && decide (j < 1073741824) then .ok (.int (i / j)) S else .bad
    | _, _ => .bad
  | .mod => match x, y with
    | .int i, .int j => if 0 < j then .ok (.int (i % j)) S else .bad
    | _, _ => .bad
  | .pow => match x, y with
    | .int i, .int j => if decide (0 ≤ j) && decide (j ≤ 1000) && decide (i.natAbs < 2 ^ 64) then .ok (.int (i ^ j.toNat)) S else .bad
    | _, _ => .bad

/-- op= : a list is not taken (it would be changed in place) -/
def augD (o : BOp) (x y : D) (S : Sto) : Res D := match x with
  | .ref _ => .bad
  | .fl _ => .bad
  | .tup _ => .bad
  | x => binD o x y S

/-- x in the items ys -/
def inD (x : D) (ys : List D) : Bool := ys.any fun y => eqv y x

def keyOk : D → Bool
  | .int _ => true
  | .str _ => true
  | _ => false
mutual
def deq : D → D → Bool
  | .non, .non => true
  | .bl a, .bl b => a == b
  | .int i, .int j => i == j
  | .str x, .str y => x == y
  | .ref n, .ref m => n == m
  | .tup xs, .tup ys => deqs xs ys
  | _, _ => false
def deqs : List D → List D → Bool
  | [], [] => true
  | x :: xs, y :: ys => deq x y && deqs xs ys
  | _, _ => false
end
def dget (kvs : List (D × D)) (k : D) : Option D := match kvs with
  | [] => none
  | (a, v) :: r => if deq a k then some v else dget r k
def dput (kvs : List (D × D)) (k v : D) : List (D × D) :=
  if kvs.any (fun p => deq p.1 k) then kvs.map (fun p => if deq p.1 k then (p.1, v) else p) else kvs ++ [(k, v)]
def dmerge (kvs : List (D × D)) : List (D × D) → List (D × D)
  | [] => kvs
  | (k, v) :: r => dmerge (dput kvs k v) r

def cmpD (o : COp) (x y : D) (S : Sto) : Option Bool := match o with
  | .eq => eqD S x y
  | .ne => (eqD S x y).map (!·)
  | .lt => match x, y with
    | .int i, .int j => some (decide (i < j))
    | _, _ => none
  | .le => match x, y with
    | .int i, .int j => some (decide (i ≤ j))
    | _, _ => none
  | .gt => match x, y with
    | .int i, .int j => some (decide (j < i))
    | _, _ => none
  | .ge => match x, y with
    | .int i, .int j => some (decide (j ≤ i))
    | _, _ => none
  | .isN => match y with
    | .non => some (match x with | .non => true | _ => false)
    | _ => none
  | .notN => match y with
    | .non => some (match x with | .non => false | _ => true)
    | _ => none
  | .isin => memD x y S
  | .notin => (memD x y S).map (!·)
where
  memD (x y : D) (S : Sto) : Option Bool := match y with
    | .tup ys => if flat x && ys.all flat then some (inD x ys) else none
    | .ref n => match items S n with
      | some ys => if flat x && ys.all flat then some (inD x ys) else none
      | none => match S[n]? with
        | some (.dct kvs) => if keyOk x then some (dget kvs x).isSome else none
        | _ => none
    | .str ys => match x with
      | .str [c] => some (decide (c ∈ ys))
      | _ => none
    | _ => none

def ixN (n : Nat) (i : Int) : Option Nat := if 0 ≤ i then (if i < n then some i.toNat else none) else if -(n : Int) ≤ i then some (i + n).toNat else none
def atI {α : Type} (xs : List α) (i : Int) : Option α := (ixN xs.length i).bind fun j => xs[j]?
def sIx (n d : Nat) : Option Int → Nat
  | none => d
  | some v => if v < 0 then (v + (n : Int)).toNat else min v.toNat n
def cut {α : Type} (xs : List α) (lo hi : Option Int) : List α := (xs.drop (sIx xs.length 0 lo)).take (sIx xs.length xs.length hi - sIx xs.length 0 lo)

def getD' (o : Option D) (S : Sto) : Res D := match o with
  | some d => .ok d S
  | none => .bad
def ixD (x i : D) (S : Sto) : Res D := match x with
  | .tup ds => match i with
    | .int k => getD' (atI ds k) S
    | _ => .bad
  | .str s => match i with
    | .int k => if s.length ≤ big then getD' ((atI s k).map fun c => .str [c]) S else .bad
    | _ => .bad
  | .ref n => match items S n with
    | some xs => match i with
      | .int k => getD' (atI xs k) S
      | _ => .bad
    | none => match S[n]? with
      | some (.dct kvs) => if keyOk i then getD' (dget kvs i) S else .bad
      | _ => .bad
  | _ => .bad
def slD (x : D) (lo hi : Option Int) (S : Sto) : Res D := match x with
  | .tup ds => .ok (.tup (cut ds lo hi)) S
  | .str s => if s.length ≤ big then .ok (.str (cut s lo hi)) S else .bad
  | .fl ds => alloc (.lst (cut ds lo hi)) S
  | .ref n => match items S n with
    | some xs => alloc (.lst (cut xs lo hi)) S
    | none => .bad
  | _ => .bad
def setD (o i v : D) (S : Sto) : Option Sto := match o with
  | .ref n => match S[n]? with
    | some (.lst xs) => match i with
      | .int k => match ixN xs.length k with
        | some j => some (S.set n (.lst (xs.set j v)))
        | none => none
      | _ => none
    | some (.dct kvs) => if keyOk i && decide (kvs.length < big) then some (S.set n (.dct (dput kvs i v))) else none
    | _ => none
  | _ => none

/-- the intsD of a list of values -/
def intsD : List D → Option (List Int)
  | [] => some []
  | .int i :: r => (intsD r).map (i :: ·)
  | _ :: _ => none
def strsD : List D → Option (List (List Nat))
  | [] => some []
  | .str s :: r => (strsD r).map (s :: ·)
  | _ :: _ => none
/-- a < b of texts, by their codes -/
def ltS : List Nat → List Nat → Bool
  | [], [] => false
  | [], _ :: _ => true
  | _ :: _, [] => false
  | a :: r, b :: s => decide (a < b) || (decide (a = b) && ltS r s)
def insS (x : List Nat) : List (List Nat) → List (List Nat)
  | [] => [x]
  | y :: r => if ltS y x then y :: insS x r else x :: y :: r
def sortS : List (List Nat) → List (List Nat)
  | [] => []
  | x :: r => insS x (sortS r)
def insI (x : Int) : List Int → List Int
  | [] => [x]
  | y :: r => if y < x then y :: insI x r else x :: y :: r
def sortI : List Int → List Int
  | [] => []
  | x :: r => insI x (sortI r)

/-- sorted of items -/
def sortedD (xs : List D) (S : Sto) : Res D :=
  if xs.length < 64 then
    match strsD xs with
    | some ss => alloc (.lst ((sortS ss).map .str)) S
    | none => match intsD xs with
      | some is => alloc (.lst ((sortI is).map .int)) S
      | none => .bad
  else .bad

def maxI (m : Int) : List Int → Int
  | [] => m
  | x :: r => maxI (if x > m then x else m) r
def minI (m : Int) : List Int → Int
  | [] => m
  | x :: r => minI (if x < m then x else m) r

def biD (f : BI) (xs : List D) (S : Sto) : Res D := match f, xs with
  | .len, [x] => match x with
    | .str s => if s.length ≤ big then .ok (.int s.length) S else .bad
    | .tup ds => .ok (.int ds.length) S
    | .ref n => match items S n with
      | some ys => .ok (.int ys.length) S
      | none => .bad
    | _ => .bad
  | .abs, [.int i] => .ok (.int (if i < 0 then -i else i)) S
  | .int, [.int i] => .ok (.int i) S
  | .int, [.bl b] => .ok (.int (if b then 1 else 0)) S
  | .max2, [.int i, .int j] => .ok (.int (if j > i then j else i)) S
  | .min2, [.int i, .int j] => .ok (.int (if j < i then j else i)) S
  | .tuple, [x] => match x with
    | .tup ds => .ok (.tup ds) S
    | .ref n => match items S n with
      | some ys => .ok (.tup ys) S
      | none => .bad
    | _ => .bad
  | .list, [x] => match x with
    | .tup ds => alloc (.lst ds) S
    | .ref n => match items S n with
      | some ys => alloc (.lst ys) S
      | none => .bad
    | _ => .bad
  | .sorted, [.ref n] => match items S n with
    | some ys => sortedD ys S
    | none => match S[n]? with
      | some (.dct kvs) => match strsD (kvs.map (·.1)) with
        | some ss => if ss.length < 64 then alloc (.lst ((sortS ss).map .str)) S else .bad
        | none => .bad
      | _ => .bad
  | .sum, [.ref n] => match items S n with
    | some ys => match intsD ys with
      | some is => .ok (.int is.sum) S
      | none => .bad
    | none => .bad
  | .maxl, [.ref n] => match items S n with
    | some ys => match intsD ys with
      | some (i :: r) => .ok (.int (maxI i r)) S
      | _ => .bad
    | none => .bad
  | .minl, [.ref n] => match items S n with
    | some ys => match intsD ys with
      | some (i :: r) => .ok (.int (minI i r)) S
      | _ => .bad
    | none => .bad
  | _, _ => .bad

/-- the first place of a sign -/
def idx (c : Nat) : List Nat → Option Nat
  | [] => none
  | a :: r => if a = c then some 0 else (idx c r).map (· + 1)
def idxD (c : D) : List D → Option Nat
  | [] => none
  | a :: r => if eqv a c then some 0 else (idxD c r).map (· + 1)

def meD (m : ME) (o : D) (xs : List D) (S : Sto) : Res D := match m, o, xs with
  | .append, .ref n, [y] => match S[n]? with
    | some (.lst ys) => if ys.length < big then .ok .non (S.set n (.lst (ys ++ [y]))) else .bad
    | _ => .bad
  | .index, .str s, [.str [c]] => match idx c s with
    | some j => .ok (.int j) S
    | none => .bad
  | .index, .ref n, [y] => match items S n with
    | some ys => if flat y && ys.all flat then (match idxD y ys with
      | some j => .ok (.int j) S
      | none => .bad) else .bad
    | none => .bad
  | .pop, .ref n, [] => match S[n]? with
    | some (.lst ys) => match ys[ys.length - 1]? with
      | some y => .ok y (S.set n (.lst ys.dropLast))
      | none => .bad
    | _ => .bad
  | _, _, _ => .bad

/-- a text or a list -/
def meOk (m : ME) (x : D) (S : Sto) : Bool := match x with
  | .str _ => match m with
    | .index => true
    | _ => false
  | .ref n => (items S n).isSome
  | _ => false

/-! ### walking -/
inductive ItV where
  | tup (ds : List D) | lst (n : Nat) | rng (lo c : Int) (n : Nat) | str (s : List Nat) | enumL (n : Nat) | enumT (ds : List D) | zipL (n m : Nat) | zipT (ds es : List D) | keys (n : Nat)
/-- turn i: none: no meaning; some none: the end -/
def turn (v : ItV) (i : Nat) (S : Sto) : Option (Option D) := match v with
  | .tup ds => some ds[i]?
  | .lst n => (items S n).map fun xs => xs[i]?
  | .rng lo c n => some (if i < n then some (.int (lo + (i : Int) * c)) else none)
  | .str s => some (s[i]?.map fun c => .str [c])
  | .enumL n => (items S n).map fun xs => xs[i]?.map fun x => .tup [.int (i : Int), x]
  | .enumT ds => some (ds[i]?.map fun x => .tup [.int (i : Int), x])
  | .zipL n m => match items S n, items S m with
    | some xs, some ys => some (match xs[i]?, ys[i]? with | some x, some y => some (.tup [x, y]) | _, _ => none)
    | _, _ => none
  | .zipT ds es => some (match ds[i]?, es[i]? with | some x, some y => some (.tup [x, y]) | _, _ => none)
  | .keys n => match S[n]? with
    | some (.fd kvs) => some (kvs[i]?.map (·.1))
    | _ => none

inductive Fl where
  | nx | brk | ct | rt (d : D)
inductive SRes where
  | ok (f : Fl) (env : Env) (S : Sto) | exc (e : Ex) (env : Env) (S : Sto) | bad

/-- the number of turns that are waited for -/
abbrev fuel : Nat := 1000000

def wipe (env : Env) : List Nat → Env
  | [] => env
  | v :: vs => (wipe env vs).set v none

/-- a loop of statements -/
def forL (v : ItV) (g : D → Env → Sto → SRes) (b : Env → Sto → SRes) : Nat → Nat → Env → Sto → SRes
  | 0, _, _, _ => .bad
  | n + 1, i, env, S => match turn v i S with
    | none => .bad
    | some none => .ok .nx env S
    | some (some d) => match g d env S with
      | .ok .nx env1 S1 => match b env1 S1 with
        | .ok .nx env2 S2 => forL v g b n (i + 1) env2 S2
        | .ok .ct env2 S2 => forL v g b n (i + 1) env2 S2
        | .ok .brk env2 S2 => .ok .nx env2 S2
        | .ok (.rt d) env2 S2 => .ok (.rt d) env2 S2
        | .exc e env2 S2 => .exc e env2 S2
        | .bad => .bad
      | .exc e env2 S2 => .exc e env2 S2
      | _ => .bad
def whileL (c : Env → Sto → Res D) (b : Env → Sto → SRes) : Nat → Env → Sto → SRes
  | 0, _, _ => .bad
  | n + 1, env, S => match c env S with
    | .ok d S1 => match truth S1 d with
      | some true => match b env S1 with
        | .ok .nx env2 S2 => whileL c b n env2 S2
        | .ok .ct env2 S2 => whileL c b n env2 S2
        | .ok .brk env2 S2 => .ok .nx env2 S2
        | .ok (.rt d) env2 S2 => .ok (.rt d) env2 S2
        | .exc e env2 S2 => .exc e env2 S2
        | .bad => .bad
      | some false => .ok .nx env S1
      | none => .bad
    | .exc e S1 => .exc e env S1
    | .bad => .bad
/-- the tests of a clause: none: no meaning -/
inductive TRes where
  | ok (b : Bool) (S : Sto) | bad
/-- a loop of a comprehension: what a turn makes of the store -/
def compL (v : ItV) (g : D → Sto → Option (Env × Sto)) (t : Env → Sto → TRes) (b : Env → Sto → Option Sto) : Nat → Nat → Sto → Option Sto
  | 0, _, _ => none
  | n + 1, i, S => match turn v i S with
    | none => none
    | some none => some S
    | some (some d) => match g d S with
      | none => none
      | some (env1, S1) => match t env1 S1 with
        | .bad => none
        | .ok false S2 => compL v g t b n (i + 1) S2
        | .ok true S2 => match b env1 S2 with
          | none => none
          | some S3 => compL v g t b n (i + 1) S3
/-- behind a list comprehension -/
def addL (n : Nat) (d : D) (S : Sto) : Option Sto := match S[n]? with
  | some (.lst xs) => if xs.length < big then some (S.set n (.lst (xs ++ [d]))) else none
  | _ => none
def addK (n : Nat) (k v : D) (S : Sto) : Option Sto := match S[n]? with
  | some (.dct kvs) => if keyOk k && decide (kvs.length < big) then some (S.set n (.dct (dput kvs k v))) else none
  | _ => none

/-! ### the meaning -/
abbrev CallS := Nat → List D → Sto → Res D

def okO {α : Type} (r : Res α) : Option (α × Sto) := match r with
  | .ok a S => some (a, S)
  | _ => none

/-- store the pieces of a tuple -/
def boolR (o : Option Bool) (S : Sto) : Res D := match o with
  | some b => .ok (.bl b) S
  | none => .bad

mutual
def evE (C : CallS) : IE → Env → Sto → Res D
  | .var i, env, S => match env[i]? with
    | some (some d) => .ok d S
    | _ => .bad
  | .non, _, S => .ok .non S
  | .bl b, _, S => .ok (.bl b) S
  | .int i, _, S => .ok (.int i) S
  | .str s, _, S => .ok (.str s) S
  | .bin o a b, env, S => (evE C a env S).bind fun x S1 => (evE C b env S1).bind fun y S2 => binD o x y S2
  | .neg a, env, S => (evE C a env S).bind fun x S1 => match x with
    | .int i => .ok (.int (-i)) S1
    | _ => .bad
  | .inot a, env, S => (evE C a env S).bind fun x S1 => boolR ((truth S1 x).map (!·)) S1
  | .cmp o a b, env, S => (evE C a env S).bind fun x S1 => (evE C b env S1).bind fun y S2 => boolR (cmpD o x y S2) S2
  | .cmp2 o o' a b c, env, S => (evE C a env S).bind fun x S1 => (evE C b env S1).bind fun y S2 => match cmpD o x y S2 with
    | some true => (evE C c env S2).bind fun z S3 => boolR (cmpD o' y z S3) S3
    | some false => .ok (.bl false) S2
    | none => .bad
  | .iand a b, env, S => (evE C a env S).bind fun x S1 => match truth S1 x with
    | some true => evE C b env S1
    | some false => .ok x S1
    | none => .bad
  | .ior a b, env, S => (evE C a env S).bind fun x S1 => match truth S1 x with
    | some false => evE C b env S1
    | some true => .ok x S1
    | none => .bad
  | .ife c a b, env, S => (evE C c env S).bind fun x S1 => match truth S1 x with
    | some true => evE C a env S1
    | some false => evE C b env S1
    | none => .bad
  | .tup es, env, S => (evEs C es env S).bind fun ds S1 => if ds.length ≤ big then .ok (.tup ds) S1 else .bad
  | .lst es, env, S => (evEs C es env S).bind fun ds S1 => if ds.length ≤ big then alloc (.lst ds) S1 else .bad
  | .dct ps, env, S => (evPs C ps env (S ++ [.dct []])).bind fun kvs S1 => match S1[S.length]? with
    | some (.dct []) => if kvs.all (fun p => keyOk p.1) && decide (kvs.length ≤ 15) then .ok (.ref S.length) (S1.set S.length (.dct (dmerge [] kvs))) else .bad
    | _ => .bad
  | .ix a i, env, S => (evE C a env S).bind fun x S1 => (evE C i env S1).bind fun y S2 => ixD x y S2
  | .sl a lo hi, env, S => (evE C a env S).bind fun x S1 => (evEo C lo env S1).bind fun l S2 => (evEo C hi env S2).bind fun h S3 => slD x l h S3
  | .call f es, env, S => (evEs C es env S).bind fun ds S1 => C f ds S1
  | .bi f es, env, S => (evEs C es env S).bind fun ds S1 => biD f ds S1
  | .me m o es, env, S => (evE C o env S).bind fun x S1 => if meOk m x S1 then (evEs C es env S1).bind fun ds S2 => meD m x ds S2 else .bad
  | .lc vs g it ifs e, env, S => (evI C it env S).bind fun v S1 =>
    match compL v (fun d S' => (evG C g d (wipe env vs) S')) (fun env1 S' => evT C ifs env1 S') (fun env1 S' => match evE C e env1 S' with
      | .ok d S2 => addL S1.length d S2
      | _ => none) fuel 0 (S1 ++ [.lst []]) with
    | some S2 => .ok (.ref S1.length) S2
    | none => .bad
  | .lc2 vs g it ifs vs1 g1 it1 ifs1 e, env, S => (evI C it env S).bind fun v S1 =>
    match compL v (fun d S' => (evG C g d (wipe env vs) S')) (fun env1 S' => evT C ifs env1 S') (fun env1 S' => match evI C it1 env1 S' with
      | .ok v1 S2 => compL v1 (fun d S' => (evG C g1 d (wipe env1 vs1) S')) (fun env2 S' => evT C ifs1 env2 S') (fun env2 S' => match evE C e env2 S' with
        | .ok d S3 => addL S1.length d S3
        | _ => none) fuel 0 S2
      | _ => none) fuel 0 (S1 ++ [.lst []]) with
    | some S2 => .ok (.ref S1.length) S2
    | none => .bad
  | .dc vs g it ifs k w, env, S => (evI C it env S).bind fun v S1 =>
    match compL v (fun d S' => (evG C g d (wipe env vs) S')) (fun env1 S' => evT C ifs env1 S') (fun env1 S' => match evE C k env1 S' with
      | .ok dk S2 => match evE C w env1 S2 with
        | .ok dv S3 => addK S1.length dk dv S3
        | _ => none
      | _ => none) fuel 0 (S1 ++ [.dct []]) with
    | some S2 => .ok (.ref S1.length) S2
    | none => .bad
  | .dc2 vs g it ifs vs1 g1 it1 ifs1 k w, env, S => (evI C it env S).bind fun v S1 =>
    match compL v (fun d S' => (evG C g d (wipe env vs) S')) (fun env1 S' => evT C ifs env1 S') (fun env1 S' => match evI C it1 env1 S' with
      | .ok v1 S2 => compL v1 (fun d S' => (evG C g1 d (wipe env1 vs1) S')) (fun env2 S' => evT C ifs1 env2 S') (fun env2 S' => match evE C k env2 S' with
        | .ok dk S3 => match evE C w env2 S3 with
          | .ok dv S4 => addK S1.length dk dv S4
          | _ => none
        | _ => none) fuel 0 S2
      | _ => none) fuel 0 (S1 ++ [.dct []]) with
    | some S2 => .ok (.ref S1.length) S2
    | none => .bad
def evEs (C : CallS) : IEs → Env → Sto → Res (List D)
  | .nil, _, S => .ok [] S
  | .cons e es, env, S => (evE C e env S).bind fun x S1 => (evEs C es env S1).bind fun xs S2 => .ok (x :: xs) S2
def evEo (C : CallS) : IEo → Env → Sto → Res (Option Int)
  | .none, _, S => .ok none S
  | .some e, env, S => (evE C e env S).bind fun x S1 => match x with
    | .int i => .ok (some i) S1
    | _ => .bad
def evPs (C : CallS) : IPs → Env → Sto → Res (List (D × D))
  | .nil, _, S => .ok [] S
  | .cons k v ps, env, S => (evE C k env S).bind fun x S1 => (evE C v env S1).bind fun y S2 => (evPs C ps env S2).bind fun r S3 => .ok ((x, y) :: r) S3
def evI (C : CallS) : II → Env → Sto → Res ItV
  | .val e, env, S => (evE C e env S).bind fun x S1 => match x with
    | .tup ds => .ok (.tup ds) S1
    | .str s => .ok (.str s) S1
    | .ref n => match items S1 n with
      | some _ => .ok (.lst n) S1
      | none => .bad
    | _ => .bad
  | .rng1 a, env, S => (evE C a env S).bind fun x S1 => match x with
    | .int j => if word j then .ok (.rng 0 1 j.toNat) S1 else .bad
    | _ => .bad
  | .rng2 a b, env, S => (evE C a env S).bind fun x S1 => (evE C b env S1).bind fun y S2 => match x, y with
    | .int i, .int j => if word i && word j then .ok (.rng i 1 (j - i).toNat) S2 else .bad
    | _, _ => .bad
  | .rng3 a b c, env, S => (evE C a env S).bind fun x S1 => (evE C b env S1).bind fun y S2 => (evE C c env S2).bind fun z S3 => match x, y, z with
    | .int i, .int j, .int k => if word i && word j && decide (k = -1) then .ok (.rng i (-1) (i - j).toNat) S3 else .bad
    | _, _, _ => .bad
  | .enum e, env, S => (evE C e env S).bind fun x S1 => match x with
    | .tup ds => .ok (.enumT ds) S1
    | .ref n => match items S1 n with
      | some _ => .ok (.enumL n) S1
      | none => .bad
    | _ => .bad
  | .zip a b, env, S => (evE C a env S).bind fun x S1 => (evE C b env S1).bind fun y S2 => match x, y with
    | .tup ds, .tup es => .ok (.zipT ds es) S2
    | .ref n, .ref m => match items S2 n, items S2 m with
      | some _, some _ => .ok (.zipL n m) S2
      | _, _ => .bad
    | _, _ => .bad
/-- the tests of a clause -/
def evT (C : CallS) : IEs → Env → Sto → TRes
  | .nil, _, S => .ok true S
  | .cons e _, env, S => match evE C e env S with
    | .ok d S1 => match truth S1 d with
      | some b => .ok b S1
      | none => .bad
    | _ => .bad
def evG (C : CallS) : IG → D → Env → Sto → Option (Env × Sto)
  | .var i, d, env, S => some (env.set i (some d), S)
  | .tup gs, d, env, S => match d with
    | .tup ds => evGs C gs ds env S
    | _ => none
  | .sub o i, d, env, S => match evE C o env S with
    | .ok x S1 => match evE C i env S1 with
      | .ok y S2 => (setD x y d S2).map fun S3 => (env, S3)
      | _ => none
    | _ => none
def evGs (C : CallS) : IGs → List D → Env → Sto → Option (Env × Sto)
  | .nil, [], env, S => some (env, S)
  | .cons g gs, d :: ds, env, S => match evG C g d env S with
    | some (env1, S1) => evGs C gs ds env1 S1
    | none => none
  | _, _, _, _ => none
end

def parEnv : List Nat → List D → Env → Option Env
  | [], [], env => some env
  | i :: is, d :: ds, env => parEnv is ds (env.set i (some d))
  | _, _, _ => none

mutual
def evS (C : CallS) : IS → Env → Sto → SRes
  | .asg g e, env, S => match evE C e env S with
    | .ok d S1 => match evG C g d env S1 with
      | some (env2, S2) => .ok .nx env2 S2
      | none => .bad
    | .exc e S1 => .exc e env S1
    | .bad => .bad
  | .par xs es, env, S => match evEs C es env S with
    | .ok ds S1 => match parEnv xs ds env with
      | some env2 => .ok .nx env2 S1
      | none => .bad
    | .exc e S1 => .exc e env S1
    | .bad => .bad
  | .aug i o e, env, S => match env[i]? with
    | some (some x) => match evE C e env S with
      | .ok y S1 => match augD o x y S1 with
        | .ok z S2 => .ok .nx (env.set i (some z)) S2
        | _ => .bad
      | .exc e S1 => .exc e env S1
      | .bad => .bad
    | _ => .bad
  | .expr e, env, S => match evE C e env S with
    | .ok _ S1 => .ok .nx env S1
    | .exc e S1 => .exc e env S1
    | .bad => .bad
  | .ret e, env, S => match evE C e env S with
    | .ok d S1 => .ok (.rt d) env S1
    | .exc e S1 => .exc e env S1
    | .bad => .bad
  | .retN, env, S => .ok (.rt .non) env S
  | .ite c a b, env, S => match evE C c env S with
    | .ok d S1 => match truth S1 d with
      | some true => evSs C a env S1
      | some false => evSs C b env S1
      | none => .bad
    | .exc e S1 => .exc e env S1
    | .bad => .bad
  | .whil c b, env, S => whileL (fun env' S' => evE C c env' S') (fun env' S' => evSs C b env' S') fuel env S
  | .fori g it b, env, S => match evI C it env S with
    | .ok v S1 => forL v (fun d env' S' => match evG C g d env' S' with
      | some (env2, S2) => .ok .nx env2 S2
      | none => .bad) (fun env' S' => evSs C b env' S') fuel 0 env S1
    | .exc e S1 => .exc e env S1
    | .bad => .bad
  | .brk, env, S => .ok .brk env S
  | .cont, env, S => .ok .ct env S
  | .pass, env, S => .ok .nx env S
  | .never, _, _ => .bad
def evSs (C : CallS) : ISs → Env → Sto → SRes
  | .nil, env, S => .ok .nx env S
  | .cons s ss, env, S => match evS C s env S with
    | .ok .nx env1 S1 => evSs C ss env1 S1
    | r => r
end

/-! ### calls -/
mutual
/-- no list, no dict within -/
def pur : D → Bool
  | .ref _ => false
  | .tup ds => purs ds
  | .fl ds => purs ds
  | _ => true
def purs : List D → Bool
  | [] => true
  | d :: ds => pur d && purs ds
end
def purO : MO → Bool
  | .lst xs => purs xs
  | .dct kvs => kvs.all fun p => pur p.2
  | .fd _ => false
mutual
def ren (f : Nat → Nat) : D → D
  | .ref n => .ref (f n)
  | .tup ds => .tup (rens f ds)
  | .fl ds => .fl (rens f ds)
  | d => d
def rens (f : Nat → Nat) : List D → List D
  | [] => []
  | d :: ds => ren f d :: rens f ds
end
def renO (f : Nat → Nat) : MO → MO
  | .lst xs => .lst (rens f xs)
  | .dct kvs => .dct (kvs.map fun p => (p.1, ren f p.2))
  | .fd kvs => .fd (kvs.map fun p => (p.1, ren f p.2))
/-- the arguments in the callee's own store: their places there, the places of what they name -/
def argsIn : List D → List Nat → Option (List D × List Nat)
  | [], is => some ([], is)
  | .ref n :: ds, is => if n ∈ is then none else (argsIn ds (is ++ [n])).map fun p => (.ref is.length :: p.1, p.2)
  | d :: ds, is => if pur d then (argsIn ds is).map fun p => (d :: p.1, p.2) else none
def objsIn (S : Sto) : List Nat → Option Sto
  | [] => some []
  | n :: r => match S[n]? with
    | some o => if purO o then (objsIn S r).map (o :: ·) else none
    | none => none
def back : Sto → List Nat → Sto → Sto
  | S, n :: is, o :: S1 => back (S.set n o) is S1
  | S, _, _ => S

structure Def where
  np : Nat
  ns : Nat
  body : ISs

/-- behind a call: is: the places of the objects handed in; S1: the callee's store -/
def leave (S : Sto) (is : List Nat) (v : D) (S1 : Sto) : Res D :=
  if (S1.take is.length).all purO then
    if pur v then .ok v (back S is (S1.take is.length))
    else
      let f := fun j => if j < is.length then is.getD j 0 else S.length + (j - is.length)
      match v with
      | .ref j => match S1[j]? with
        | some o => if purO o && decide (is.length ≤ j) then .ok (.ref S.length) (back S is (S1.take is.length) ++ [o])
          else .ok (ren f v) (back S is (S1.take is.length) ++ (S1.drop is.length).map (renO f))
        | none => .bad
      | v => .ok (ren f v) (back S is (S1.take is.length) ++ (S1.drop is.length).map (renO f))
  else .bad
def startE (d : Def) (args : List D) : Env := args.map some ++ List.replicate (d.ns - d.np) none
def callD (d : Def) (C : CallS) (args : List D) (S : Sto) : Res D :=
  if args.length = d.np then
    match argsIn args [] with
    | some (args', is) => match objsIn S is with
      | some S0 => match evSs C d.body (startE d args') S0 with
        | .ok .nx _ S1 => leave S is .non S1
        | .ok (.rt v) _ S1 => leave S is v S1
        | _ => .bad
      | none => .bad
    | none => .bad
  else .bad
def callSem (P : List Def) : Nat → CallS
  | 0 => fun _ _ _ => .bad
  | n + 1 => fun f args S => match P[f]? with
    | some d => callD d (callSem P n) args S
    | none => .bad
end Ev
end
section
/-! From the text's syntax to the intermediate form. -/
namespace Ev
open PySem (Expr Stmt Str Scope NameKind ScopeKind Comprehension Const Pos)

/-- the names: slots, the scope that runs, the text's defs by number -/
structure Cn where
  N : List Str
  sc : Scope
  fns : List Str

def ixOf (x : Str) : List Str → Option Nat
  | [] => none
  | a :: r => if a = x then some 0 else (ixOf x r).map (· + 1)

def Cn.slot (c : Cn) (x : Str) : Option Nat :=
  if (c.sc.names.lookup x == some .local || c.sc.names.lookup x == some .cell || c.sc.names.lookup x == some .free) && !(x == ("__debug__" : Str)) && !(x == ("__classdict__" : Str)) then ixOf x c.N else none
/-- a slot that is stored to -/
def Cn.slotW (c : Cn) (x : Str) : Option Nat :=
  if (c.sc.names.lookup x == some .local || c.sc.names.lookup x == some .cell) && !(x == ("__debug__" : Str)) && !(x == ("__classdict__" : Str)) then ixOf x c.N else none
def Cn.glob (c : Cn) (x : Str) : Bool := c.sc.names.lookup x == some .globalImplicit && !(x == ("__debug__" : Str))

def starred : Expr → Bool
  | .Starred .. => true
  | _ => false
def isComp : Expr → Bool
  | .ListComp .. => true
  | .SetComp .. => true
  | .DictComp .. => true
  | _ => false
def isSet : Expr → Bool
  | .Set .. => true
  | _ => false
def isSlice : Expr → Bool
  | .Slice .. => true
  | _ => false
def isCall : Expr → Bool
  | .Call .. => true
  | _ => false

/-- the scope of a comprehension's block -/
def relS' (scope sc : Scope) : Scope :=
  { scope with names := scope.names.map fun (n, k) => if (k == .free && sc.kind == .function && sc.names.lookup n == some .cell) then (n, .cell) else (n, k) }
/-- a comprehension's own names, with their slots -/
def ownOf (N : List Str) : List (Str × NameKind) → List (Str × Nat)
  | [] => []
  | (n, k) :: r => match (if k = .local ∨ k = .cell then ixOf n N else none) with
    | some i => (n, i) :: ownOf N r
    | none => ownOf N r
def uniqB (l : List (Str × NameKind)) : Bool := l.all fun y => l.lookup y.1 == some y.2
def freeB (l : List (Str × NameKind)) (sc : Scope) : Bool := l.all fun y => y.2 != .free || sc.names.lookup y.1 == some .cell || sc.names.lookup y.1 == some .free
def blkB (N : List Str) (sc scope : Scope) : Bool :=
  scope.kind == .function && sc.kind == .function && uniqB scope.names && freeB scope.names sc

def bop : PySem.Operator → Option BOp
  | .Add => some .add | .Sub => some .sub | .Mult => some .mul | .FloorDiv => some .fdiv | .Mod => some .mod | .Pow => some .pow
  | _ => none
def cop (isN : Bool) : PySem.CmpOp → Option COp
  | .Eq => some .eq | .NotEq => some .ne | .Lt => some .lt | .LtE => some .le | .Gt => some .gt | .GtE => some .ge
  | .In => some .isin | .NotIn => some .notin
  | .Is => if isN then some .isN else none
  | .IsNot => if isN then some .notN else none
def isNone : Expr → Bool
  | .Constant .none _ _ => true
  | _ => false
def builtinOf (x : Str) (n : Nat) : Option BI :=
  if x = ("len" : Str) ∧ n = 1 then some .len else if x = ("abs" : Str) ∧ n = 1 then some .abs else if x = ("int" : Str) ∧ n = 1 then some .int
  else if x = ("max" : Str) ∧ n = 2 then some .max2 else if x = ("min" : Str) ∧ n = 2 then some .min2 else if x = ("tuple" : Str) ∧ n = 1 then some .tuple
  else if x = ("list" : Str) ∧ n = 1 then some .list else if x = ("sorted" : Str) ∧ n = 1 then some .sorted else if x = ("sum" : Str) ∧ n = 1 then some .sum
  else if x = ("max" : Str) ∧ n = 1 then some .maxl else if x = ("min" : Str) ∧ n = 1 then some .minl else none
def methodOf (x : Str) (n : Nat) : Option ME :=
  if x = ("append" : Str) ∧ n = 1 then some .append else if x = ("index" : Str) ∧ n = 1 then some .index else none

/-- slots that a target stores to -/
def gslots : IG → List Nat
  | .var i => [i]
  | .tup gs => gslotss gs
  | .sub _ _ => []
where gslotss : IGs → List Nat
  | .nil => []
  | .cons g gs => gslots g ++ gslotss gs
/-- a target of names alone -/
def gplain : IG → Bool
  | .var _ => true
  | .tup gs => gplains gs
  | .sub _ _ => false
where gplains : IGs → Bool
  | .nil => true
  | .cons g gs => gplain g && gplains gs

/-- a target that takes apart what enumerate, zip give -/
def isTup : Expr → Bool
  | .Tuple .. => true
  | _ => false
def pairsOnly : II → Bool
  | .enum _ => true
  | .zip _ _ => true
  | _ => false

mutual
def trE : Nat → Cn → Expr → Option IE
  | 0, _, _ => none
  | n + 1, c, e => match e with
    | .Name x _ => (c.slot x).map .var
    | .Constant k _ _ => match k with
      | .none => some .non
      | .bool b => some (.bl b)
      | .int i => some (.int i)
      | .str s => some (.str s.cps.toList)
      | _ => none
    | .BinOp a o b _ => do
      let o ← bop o
      let a ← trE n c a
      let b ← trE n c b
      some (.bin o a b)
    | .UnaryOp .USub a _ => (trE n c a).map .neg
    | .UnaryOp .Not a _ => (trE n c a).map .inot
    | .BoolOp o es _ => match es with
      | [] => none
      | a :: r => do
        let a ← trE n c a
        trB n c (match o with | .And => true | .Or => false) a r
    | .IfExp t a b _ => do
      let t ← trE n c t
      let a ← trE n c a
      let b ← trE n c b
      some (.ife t a b)
    | .Compare a ops cs _ => match ops, cs with
      | [o], [b] => if isSet b then none else do
        let o ← cop (isNone b) o
        let a ← trE n c a
        let b ← trE n c b
        some (.cmp o a b)
      | [o, o'], [b, d] => if isSet d then none else do
        let o ← cop false o
        let o' ← cop false o'
        let a ← trE n c a
        let b ← trE n c b
        let d ← trE n c d
        some (.cmp2 o o' a b d)
      | _, _ => none
    | .Tuple es _ _ => (trEs n c es).map .tup
    | .List es _ => (trEs n c es).map .lst
    | .Dict ks vs _ => if ks.length ≤ 15 then (trPs n c ks vs).map .dct else none
    | .Subscript a i _ => match i with
      | .Slice lo hi st _ => match st with
        | none => do
          let a ← trE n c a
          let lo ← trO n c lo
          let hi ← trO n c hi
          some (.sl a lo hi)
        | some _ => none
      | i => do
        let a ← trE n c a
        let i ← trE n c i
        some (.ix a i)
    | .Call f es ks pos => match ks with
      | [] => match f with
        | .Name x _ => if c.glob x then
            match ixOf x c.fns with
            | some k => if es.isEmpty then none else (trEs n c es).map (.call k)
            | none => match builtinOf x es.length with
              | some b => (trEs n c es).map (.bi b)
              | none => none
          else none
        | .Attribute o m apos => if isCall o || !(apos.endLine == pos.line) then none else do
          let m ← methodOf m es.length
          let o ← trE n c o
          let es ← trEs n c es
          some (.me m o es)
        | _ => none
      | _ => none
    | .ListComp elt gens scope _ => match gens with
      | [⟨tg, iter, ifs, 0⟩] => if blkB c.N c.sc scope then do
          let it ← trI n c iter
          let vs := (ownOf c.N scope.names).map (·.2)
          let c' : Cn := { c with sc := relS' scope c.sc }
          let g ← trG n c' tg
          let ifs ← trT n c' ifs
          let e ← trE n c' elt
          if gplain g && (gslots g).all vs.contains && !(pairsOnly it && !isTup tg) then some (.lc vs g it ifs e) else none
        else none
      | [⟨tg, iter, ifs, 0⟩, ⟨tg1, iter1, ifs1, 0⟩] => if blkB c.N c.sc scope then do
          let it ← trI n c iter
          let vs := (ownOf c.N scope.names).map (·.2)
          let c' : Cn := { c with sc := relS' scope c.sc }
          let g ← trG n c' tg
          let ifs ← trT n c' ifs
          let it1 ← trI n c' iter1
          let g1 ← trG n c' tg1
          let ifs1 ← trT n c' ifs1
          let e ← trE n c' elt
          if gplain g && (gslots g).all vs.contains && gplain g1 && (gslots g1).all vs.contains && !(pairsOnly it && !isTup tg) && !(pairsOnly it1 && !isTup tg1) then some (.lc2 vs g it ifs (gslots g1) g1 it1 ifs1 e) else none
        else none
      | _ => none
    | .DictComp k v gens scope _ => match gens with
      | [⟨tg, iter, ifs, 0⟩] => if blkB c.N c.sc scope then do
          let it ← trI n c iter
          let vs := (ownOf c.N scope.names).map (·.2)
          let c' : Cn := { c with sc := relS' scope c.sc }
          let g ← trG n c' tg
          let ifs ← trT n c' ifs
          let k ← trE n c' k
          let v ← trE n c' v
          if gplain g && (gslots g).all vs.contains && !(pairsOnly it && !isTup tg) then some (.dc vs g it ifs k v) else none
        else none
      | [⟨tg, iter, ifs, 0⟩, ⟨tg1, iter1, ifs1, 0⟩] => if blkB c.N c.sc scope then do
          let it ← trI n c iter
          let vs := (ownOf c.N scope.names).map (·.2)
          let c' : Cn := { c with sc := relS' scope c.sc }
          let g ← trG n c' tg
          let ifs ← trT n c' ifs
          let it1 ← trI n c' iter1
          let g1 ← trG n c' tg1
          let ifs1 ← trT n c' ifs1
          let k ← trE n c' k
          let v ← trE n c' v
          if gplain g && (gslots g).all vs.contains && gplain g1 && (gslots g1).all vs.contains && !(pairsOnly it && !isTup tg) && !(pairsOnly it1 && !isTup tg1) then some (.dc2 vs g it ifs (gslots g1) g1 it1 ifs1 k v) else none
        else none
      | _ => none
    | _ => none
/-- the rest of an and, an or -/
def trB : Nat → Cn → Bool → IE → List Expr → Option IE
  | 0, _, _, _, _ => none
  | n + 1, c, o, a, r => match r with
    | [] => some a
    | b :: r => do
      let b ← trE n c b
      let r ← trB n c o b r
      some (if o then .iand a r else .ior a r)
def trEs : Nat → Cn → List Expr → Option IEs
  | 0, _, _ => none
  | n + 1, c, es => match es with
    | [] => some .nil
    | e :: r => if starred e then none else do
      let e ← trE n c e
      let r ← trEs n c r
      some (.cons e r)
def trPs : Nat → Cn → List (Option Expr) → List Expr → Option IPs
  | 0, _, _, _ => none
  | n + 1, c, ks, vs => match ks, vs with
    | [], [] => some .nil
    | some k :: ks, v :: vs => do
      let k ← trE n c k
      let v ← trE n c v
      let r ← trPs n c ks vs
      some (.cons k v r)
    | _, _ => none
def trO : Nat → Cn → Option Expr → Option IEo
  | 0, _, _ => none
  | n + 1, c, e => match e with
    | none => some .none
    | some e => (trE n c e).map .some
def trI : Nat → Cn → Expr → Option II
  | 0, _, _ => none
  | n + 1, c, e => if isSet e then none else
    match e with
    | .Call (.Name x _) es ks _ => match ks with
      | [] => if c.glob x && (ixOf x c.fns).isNone then
          if x = ("range" : Str) then match es with
            | [a] => if starred a then none else (trE n c a).map .rng1
            | [a, b] => if starred a || starred b then none else do
              let a ← trE n c a
              let b ← trE n c b
              some (.rng2 a b)
            | [a, b, d] => if starred a || starred b || starred d then none else do
              let a ← trE n c a
              let b ← trE n c b
              let d ← trE n c d
              some (.rng3 a b d)
            | _ => none
          else if x = ("enumerate" : Str) then match es with
            | [a] => if starred a then none else (trE n c a).map .enum
            | _ => none
          else if x = ("zip" : Str) then match es with
            | [a, b] => if starred a || starred b then none else do
              let a ← trE n c a
              let b ← trE n c b
              some (.zip a b)
            | _ => none
          else (trE n c e).map .val
        else (trE n c e).map .val
      | _ => none
    | e => (trE n c e).map .val
/-- the tests of a clause: none or one -/
def trT : Nat → Cn → List Expr → Option IEs
  | 0, _, _ => none
  | n + 1, c, es => match es with
    | [] => some .nil
    | [e] => (trE n c e).map fun e => .cons e .nil
    | _ => none
def trG : Nat → Cn → Expr → Option IG
  | 0, _, _ => none
  | n + 1, c, e => match e with
    | .Name x _ => (c.slotW x).map .var
    | .Tuple es _ _ => (trGs n c es).map .tup
    | .Subscript o i _ => if isSlice i then none else do
      let o ← trE n c o
      let i ← trE n c i
      some (.sub o i)
    | _ => none
def trGs : Nat → Cn → List Expr → Option IGs
  | 0, _, _ => none
  | n + 1, c, es => match es with
    | [] => some .nil
    | e :: r => if starred e then none else do
      let g ← trG n c e
      let r ← trGs n c r
      some (.cons g r)
end

/-- the names of a parallel store: all plain locals, on one line -/
def parNames (c : Cn) (ts : List Expr) : List Str :=
  let line := (ts.head?.map (·.pos.line)).getD 0
  ts.filterMap fun
    | .Name id pos => if c.sc.names.lookup id == some .local && pos.line == line then some id else none
    | _ => none
/-- some none: stored one after another; some (some names): a parallel store of plain locals -/
def parOf (c : Cn) (ts vs : List Expr) : Option (Option (List Str)) :=
  if !(ts.length == 2 || ts.length == 3) || vs.length != ts.length then some none
  else if vs.any starred then some none
  else
    let names := parNames c ts
    if names.length != ts.length || names.eraseDups.length != names.length then some none
    else if vs.all (PySem.foldedForSure 8) then some none
    else if vs.all (PySem.constantsAlone 8) then none
    else some (some names)

mutual
def trS : Nat → Cn → Stmt → Option IS
  | 0, _, _ => none
  | n + 1, c, s => match s with
    | .Assign ts v _ => match ts with
      | [t] => if starred t then none else
        match t, v with
        | .Tuple ts _ _, .Tuple vs _ _ => match parOf c ts vs with
          | none => none
          | some none => do
            let g ← trG n c t
            let e ← trE n c v
            some (.asg g e)
          | some (some xs) => do
            let es ← trEs n c vs
            let is ← xs.mapM c.slotW
            if is.eraseDups.length == is.length then some (.par is es) else none
        | t, v => do
          let g ← trG n c t
          let e ← trE n c v
          some (.asg g e)
      | _ => none
    | .AugAssign t o v _ => match t with
      | .Name x _ => do
        let i ← c.slotW x
        let o ← bop o
        let e ← trE n c v
        if o = .pow then none else some (.aug i o e)
      | _ => none
    | .Expr e _ => if isComp e then none else (trE n c e).map .expr
    | .Return v _ => match v with
      | none => some .retN
      | some e => (trE n c e).map .ret
    | .If t a b _ => do
      let t ← trE n c t
      let a ← trSs n c a
      let b ← trSs n c b
      some (.ite t a b)
    | .While t b o _ => match o with
      | [] => do
        let t ← trE n c t
        let b ← trSs n c b
        some (.whil t b)
      | _ => none
    | .For t it b o _ => match o with
      | [] => if starred t then none else do
        let g ← trG n c t
        let i ← trI n c it
        let b ← trSs n c b
        if pairsOnly i && !isTup t then none else some (.fori g i b)
      | _ => none
    | .Break _ => some .brk
    | .Continue _ => some .cont
    | .Pass _ => some .pass
    | .Raise .. => some .never
    | _ => none
def trSs : Nat → Cn → List Stmt → Option ISs
  | 0, _, _ => none
  | n + 1, c, ss => match ss with
    | [] => some .nil
    | s :: r => do
      let s ← trS n c s
      let r ← trSs n c r
      some (.cons s r)
end

/-- all names of a def by slot: its parameters, the names of its scope, then the comprehensions' own -/
structure DefT where
  name : Str
  N : List Str
  ps : List Str
  st : Stmt
def bodyOf : Stmt → List Stmt
  | .FunctionDef _ _ b _ _ _ _ _ _ _ => b
  | _ => []
def scopeOf : Stmt → Scope
  | .FunctionDef _ _ _ _ _ _ sc _ _ _ => sc
  | _ => ⟨.function, [], false, false, []⟩
def trDef (fns : List Str) (d : DefT) : Option Def :=
  (trSs 200 ⟨d.N, scopeOf d.st, fns⟩ (bodyOf d.st)).map fun b => ⟨d.ps.length, d.N.length, b⟩
end Ev
end
section
/-! The relation between the evaluator's values and the abstract heap's. -/
namespace Ev
open PySem L2 PyProof.Rows
open PySem.W (Frag)

def sv (s : List Nat) : Str := ⟨s.toArray⟩
@[simp] theorem sv_list (s : List Nat) : (sv s).cps.toList = s := by simp [sv]
theorem sv_cps (x : Str) : sv x.cps.toList = x := by cases x; simp [sv]
theorem sv_len (s : List Nat) : (sv s).length = s.length := by simp [sv, Str.length]
theorem sv_inj {s t : List Nat} : sv s = sv t ↔ s = t := by simp [sv]

/-- a list that is only read: locked, or an object of the module -/
def SqF (K : Frag) (H : Hp) (a : Addr) (xs : List V) : Prop :=
  (∃ o, H a = some (.frz o (.lst xs))) ∨
    ∃ (o : Obj) (its : Array Value) (n : Nat), K.lookup a = some o ∧ o.cls = .type "list" ∧ o.dict = none ∧ o.data = .seq its n ∧ its.size ≤ sizeLine ∧ Vals xs its.toList
theorem SqF.sq {K : Frag} {H : Hp} {a : Addr} {xs : List V} (h : SqF K H a xs) : SqL K H a xs := h.elim (fun h => .inl (.inr h)) .inr
mutual
inductive RepV (K : Frag) (H : Hp) (r : List Addr) : D → V → Prop
  | non : RepV K H r .non .non
  | bl (b : Bool) : RepV K H r (.bl b) (.bl b)
  | int (i : Int) : RepV K H r (.int i) (.int i)
  | str (s : List Nat) : RepV K H r (.str s) (.str (sv s))
  | ref {n : Nat} {a : Addr} : r[n]? = some a → RepV K H r (.ref n) (.ref a)
  | tup {ds : List D} {a : Addr} {xs : List V} : SqT K H a xs → RepVs K H r ds xs → RepV K H r (.tup ds) (.ref a)
  | fl {ds : List D} {a : Addr} {xs : List V} : SqF K H a xs → RepVs K H r ds xs → RepV K H r (.fl ds) (.ref a)
inductive RepVs (K : Frag) (H : Hp) (r : List Addr) : List D → List V → Prop
  | nil : RepVs K H r [] []
  | cons {d : D} {ds : List D} {x : V} {xs : List V} : RepV K H r d x → RepVs K H r ds xs → RepVs K H r (d :: ds) (x :: xs)
end
def keyD : D → Option Key
  | .int i => some (.inl i)
  | .str s => some (.inr (sv s))
  | _ => none
inductive RepK (K : Frag) (H : Hp) (r : List Addr) : List (D × D) → List (Key × V) → Prop
  | nil : RepK K H r [] []
  | cons {k v : D} {kv : List (D × D)} {q : Key} {x : V} {qs : List (Key × V)} : keyD k = some q → RepV K H r v x → RepK K H r kv qs → RepK K H r ((k, v) :: kv) ((q, x) :: qs)

/-- tracked, no tuple, no list that is locked -/
def NoTup (H : Hp) (a : Addr) : Prop := H a ≠ none ∧ (∀ xs, H a ≠ some (.tup xs)) ∧ (∀ o xs, H a ≠ some (.frz o (.tup xs))) ∧ ∀ o xs, H a ≠ some (.frz o (.lst xs))
def RepO (K : Frag) (H : Hp) (r : List Addr) (o : MO) (a : Addr) : Prop := match o with
  | .lst ds => ∃ xs, H a = some (.lst xs) ∧ RepVs K H r ds xs
  | .dct kvs => ∃ ks, H a = some (.dK ks) ∧ RepK K H r kvs ks
  | .fd kvs => ∃ o ks, H a = some (.frz o (.dK ks)) ∧ RepK K H r kvs ks

structure SI (K : Frag) (H : Hp) (r : List Addr) (S : Sto) : Prop where
  len : r.length = S.length
  nd : r.Nodup
  obj : ∀ (n : Nat) (o : MO) (a : Addr), S[n]? = some o → r[n]? = some a → RepO K H r o a

/-- what has grown: the places r, the abstract heap; but the objects at r all is as it was -/
structure Xt (r : List Addr) (H : Hp) (r' : List Addr) (H' : Hp) : Prop where
  new : ∃ l, r' = r ++ l ∧ ∀ a ∈ l, H a = none
  keep : ∀ a o, H a = some o → a ∉ r → (∀ ps, o ≠ .tbl ps) → H' a = some o
  there : ∀ a, H a ≠ none → H' a ≠ none

structure RepE (K : Frag) (H : Hp) (r : List Addr) (env : Ev.Env) (σ : L2.St) : Prop where
  len : env.length = σ.length
  get : ∀ (i : Nat) (d : D), env[i]? = some (some d) → ∃ x, σ[i]? = some (some x) ∧ RepV K H r d x

section
variable {K : Frag} {H H' H'' : Hp} {r r' r'' : List Addr} {S : Sto}

theorem nodup_ix' {l : List Addr} (h : l.Nodup) {i j : Nat} {a : Addr} (e : l[i]? = some a) (f : l[j]? = some a) : i = j := by
  obtain ⟨h1, e1⟩ := List.getElem?_eq_some_iff.mp e
  obtain ⟨h2, e2⟩ := List.getElem?_eq_some_iff.mp f
  exact (List.getElem_inj h).mp (e1.trans e2.symm)
theorem RepO.noTup {o : MO} {a : Addr} (h : RepO K H r o a) : NoTup H a := by
  cases o with
  | lst ds => obtain ⟨ys, e, _⟩ := h; refine ⟨?_, ?_, ?_, ?_⟩ <;> intros <;> rw [e] <;> exact fun z => by cases z
  | dct ds => obtain ⟨ys, e, _⟩ := h; refine ⟨?_, ?_, ?_, ?_⟩ <;> intros <;> rw [e] <;> exact fun z => by cases z
  | fd ds => obtain ⟨o', ys, e, _⟩ := h; refine ⟨?_, ?_, ?_, ?_⟩ <;> intros <;> rw [e] <;> exact fun z => by cases z
theorem SI.noTup (h : SI K H r S) : ∀ a ∈ r, NoTup H a := fun a ha => by
  obtain ⟨n, hn, e⟩ := List.getElem_of_mem ha
  have hs : n < S.length := by rw [← h.len]; exact hn
  exact (h.obj n S[n] a (List.getElem?_eq_getElem hs) (by rw [List.getElem?_eq_getElem hn, e])).noTup
theorem Xt.refl (r : List Addr) (H : Hp) : Xt r H r H := ⟨⟨[], by simp, by simp⟩, fun _ _ h _ _ => h, fun _ h => h⟩
theorem Xt.sqT (e : Xt r H r' H') (hr : ∀ a ∈ r, NoTup H a) {a : Addr} {xs : List V} (h : SqT K H a xs) : SqT K H' a xs := by
  rcases h with (h | ⟨o, h⟩) | h
  · exact .inl (.inl (e.keep a _ h (fun m => (hr a m).2.1 xs h) (fun ps z => by cases z)))
  · exact .inl (.inr ⟨o, e.keep a _ h (fun m => (hr a m).2.2.1 o xs h) (fun ps z => by cases z)⟩)
  · exact .inr h
theorem Xt.sqF (e : Xt r H r' H') (hr : ∀ a ∈ r, NoTup H a) {a : Addr} {xs : List V} (h : SqF K H a xs) : SqF K H' a xs := by
  rcases h with ⟨o, h⟩ | h
  · exact .inl ⟨o, e.keep a _ h (fun m => (hr a m).2.2.2 o xs h) (fun ps z => by cases z)⟩
  · exact .inr h
theorem Xt.get (e : Xt r H r' H') {n : Nat} {a : Addr} (h : r[n]? = some a) : r'[n]? = some a := by
  obtain ⟨l, rfl, _⟩ := e.new
  rw [List.getElem?_append_left (List.getElem?_eq_some_iff.mp h).1]; exact h
mutual
theorem RepV.ext (e : Xt r H r' H') (hr : ∀ a ∈ r, NoTup H a) : ∀ (d : D) (x : V), RepV K H r d x → RepV K H' r' d x
  | .non, _, h => by cases h; exact .non
  | .bl _, _, h => by cases h; exact .bl _
  | .int _, _, h => by cases h; exact .int _
  | .str _, _, h => by cases h; exact .str _
  | .ref _, _, h => by cases h with | ref g => exact .ref (e.get g)
  | .tup ds, _, h => by cases h with | tup g t => exact .tup (e.sqT hr g) (RepVs.ext e hr ds _ t)
  | .fl ds, _, h => by cases h with | fl g t => exact .fl (e.sqF hr g) (RepVs.ext e hr ds _ t)
theorem RepVs.ext (e : Xt r H r' H') (hr : ∀ a ∈ r, NoTup H a) : ∀ (ds : List D) (xs : List V), RepVs K H r ds xs → RepVs K H' r' ds xs
  | [], _, h => by cases h; exact .nil
  | d :: ds, _, h => by cases h with | cons a b => exact .cons (RepV.ext e hr d _ a) (RepVs.ext e hr ds _ b)
end
theorem RepK.ext (e : Xt r H r' H') (hr : ∀ a ∈ r, NoTup H a) {kvs : List (D × D)} {ks : List (Key × V)} (h : RepK K H r kvs ks) : RepK K H' r' kvs ks := by
  induction h with
  | nil => exact .nil
  | cons a b _ ih => exact .cons a (RepV.ext e hr _ _ b) ih
theorem RepE.ext (e : Xt r H r' H') (hr : ∀ a ∈ r, NoTup H a) {env : Ev.Env} {σ : L2.St} (h : RepE K H r env σ) : RepE K H' r' env σ :=
  ⟨h.len, fun i d g => let ⟨x, h1, h2⟩ := h.get i d g; ⟨x, h1, RepV.ext e hr d x h2⟩⟩
theorem Xt.trans (a : Xt r H r' H') (b : Xt r' H' r'' H'') : Xt r H r'' H'' := by
  obtain ⟨l, e1, n1⟩ := a.new
  obtain ⟨l', e2, n2⟩ := b.new
  refine ⟨⟨l ++ l', by rw [e2, e1, List.append_assoc], fun x hx => ?_⟩, fun x o h na nt => ?_, fun x h => b.there x (a.there x h)⟩
  · rcases List.mem_append.mp hx with hx | hx
    · exact n1 x hx
    · have z := n2 x hx
      cases q : H x with
      | none => rfl
      | some o => exact absurd z (a.there x (by rw [q]; exact fun w => by cases w))
  · have h1 := a.keep x o h na nt
    refine b.keep x o h1 (fun m => ?_) nt
    rw [e1] at m
    rcases List.mem_append.mp m with m | m
    · exact na m
    · rw [n1 x m] at h; cases h

/-- a new object that is no part of the store: a tuple -/
theorem Xt.upd {p : Addr} {o : HO} (hp : H p = none) : Xt r H r (upd H p o) :=
  ⟨⟨[], by simp, by simp⟩, fun a u h _ _ => by rw [upd_ne (ne_of_none h hp)]; exact h, fun a h => by
    by_cases e : a = p
    · subst e; rw [upd_same]; exact fun z => by cases z
    · rw [upd_ne e]; exact h⟩
/-- objects of the store stay where another place is written -/
theorem RepO.at {a : Addr} {o : MO} (h : RepO K H r o a) (e : Xt r H r' H') (hr : ∀ a ∈ r, NoTup H a) (ha : H' a = H a) : RepO K H' r' o a := by
  cases o with
  | lst ds => obtain ⟨ys, q, t⟩ := h; exact ⟨ys, ha.trans q, RepVs.ext e hr ds ys t⟩
  | dct ds => obtain ⟨ys, q, t⟩ := h; exact ⟨ys, ha.trans q, t.ext e hr⟩
  | fd ds => obtain ⟨u, ys, q, t⟩ := h; exact ⟨u, ys, ha.trans q, t.ext e hr⟩
theorem SI.out (h : SI K H r S) {p : Addr} (hp : H p = none) : p ∉ r := fun m => (h.noTup p m).1 hp
/-- a new object that is no part of the store: a tuple -/
theorem SI.tup (h : SI K H r S) {p : Addr} {o : HO} (hp : H p = none) : SI K (L2.upd H p o) r S :=
  ⟨h.len, h.nd, fun n u a e1 e2 => (h.obj n u a e1 e2).at (Xt.upd hp) h.noTup (upd_ne fun z => h.out hp (z ▸ List.mem_of_getElem? e2))⟩
/-- a new object of the store -/
theorem Xt.neu {p : Addr} {u : HO} (hp : H p = none) : Xt r H (r ++ [p]) (L2.upd H p u) :=
  ⟨⟨[p], rfl, fun a ha => by rw [List.mem_singleton.mp ha]; exact hp⟩, (Xt.upd (r := r) hp).keep, (Xt.upd (r := r) hp).there⟩
theorem SI.new (h : SI K H r S) {p : Addr} {o : MO} {u : HO} (hp : H p = none) (ho : RepO K (L2.upd H p u) (r ++ [p]) o p) : SI K (L2.upd H p u) (r ++ [p]) (S ++ [o]) := by
  refine ⟨by simp [h.len], ?_, fun n v a e1 e2 => ?_⟩
  · refine List.nodup_append.mpr ⟨h.nd, by simp, fun a ha b hb z => ?_⟩
    rw [List.mem_singleton.mp hb] at z
    exact h.out hp (z ▸ ha)
  · by_cases hn : n < S.length
    · rw [List.getElem?_append_left hn] at e1
      rw [List.getElem?_append_left (by rw [h.len]; exact hn)] at e2
      exact (h.obj n v a e1 e2).at (Xt.neu hp) h.noTup (upd_ne fun z => h.out hp (z ▸ List.mem_of_getElem? e2))
    · have hn' : n = S.length := by
        have := (List.getElem?_eq_some_iff.mp e1).1
        simp at this; omega
      subst hn'
      rw [List.getElem?_concat_length] at e1
      cases e1
      rw [← h.len, List.getElem?_concat_length] at e2
      cases e2
      exact ho
/-- an object of the store is written -/
theorem Xt.put {a : Addr} {u : HO} (ha : a ∈ r) : Xt r H r (L2.upd H a u) :=
  ⟨⟨[], by simp, by simp⟩, fun b o h nb _ => by rw [upd_ne (show b ≠ a from fun z => nb (by rw [z]; exact ha))]; exact h, fun b h => by
    by_cases e : b = a
    · subst e; rw [upd_same]; exact fun z => by cases z
    · rw [upd_ne e]; exact h⟩
theorem SI.put (h : SI K H r S) {n : Nat} {a : Addr} {o : MO} {u : HO} (hn : r[n]? = some a) (ho : RepO K (L2.upd H a u) r o a) : SI K (L2.upd H a u) r (S.set n o) := by
  refine ⟨by simp [h.len], h.nd, fun m v b e1 e2 => ?_⟩
  by_cases hm : m = n
  · subst hm
    rw [hn] at e2; cases e2
    have hl : m < S.length := by rw [← h.len]; exact (List.getElem?_eq_some_iff.mp hn).1
    rw [List.getElem?_set_self hl] at e1; cases e1
    exact ho
  · rw [List.getElem?_set_ne (Ne.symm hm)] at e1
    refine (h.obj m v b e1 e2).at (Xt.put (List.mem_of_getElem? hn)) h.noTup (upd_ne fun z => hm ?_)
    subst z
    exact nodup_ix' h.nd e2 hn
/-- the place of an object of the store -/
theorem SI.place (h : SI K H r S) {n : Nat} {o : MO} (e : S[n]? = some o) : ∃ a, r[n]? = some a ∧ RepO K H r o a := by
  have hl : n < r.length := by rw [h.len]; exact (List.getElem?_eq_some_iff.mp e).1
  exact ⟨r[n], List.getElem?_eq_getElem hl, h.obj n o _ e (List.getElem?_eq_getElem hl)⟩
theorem RepVs.length {ds : List D} {xs : List V} (h : RepVs K H r ds xs) : ds.length = xs.length := by
  induction ds generalizing xs with
  | nil => cases h; rfl
  | cons d ds ih => cases h with | cons a b => simp [ih b]
theorem RepVs.get {ds : List D} {xs : List V} (h : RepVs K H r ds xs) {i : Nat} {d : D} (e : ds[i]? = some d) : ∃ x, xs[i]? = some x ∧ RepV K H r d x := by
  induction ds generalizing xs i with
  | nil => simp at e
  | cons a ds ih =>
    cases h with
    | cons p q =>
      cases i with
      | zero => simp at e; subst e; exact ⟨_, rfl, p⟩
      | succ i => simpa using ih q (by simpa using e)
theorem RepVs.get' {ds : List D} {xs : List V} (h : RepVs K H r ds xs) {i : Nat} {x : V} (e : xs[i]? = some x) : ∃ d, ds[i]? = some d ∧ RepV K H r d x := by
  have hl : i < ds.length := by rw [h.length]; exact (List.getElem?_eq_some_iff.mp e).1
  obtain ⟨y, e', q⟩ := h.get (List.getElem?_eq_getElem hl)
  rw [e] at e'; cases e'
  exact ⟨_, List.getElem?_eq_getElem hl, q⟩
theorem RepVs.append {ds es : List D} {xs ys : List V} (h : RepVs K H r ds xs) (g : RepVs K H r es ys) : RepVs K H r (ds ++ es) (xs ++ ys) := by
  induction ds generalizing xs with
  | nil => cases h; exact g
  | cons a ds ih => cases h with | cons p q => exact .cons p (ih q)
theorem RepVs.take {ds : List D} {xs : List V} (h : RepVs K H r ds xs) (n : Nat) : RepVs K H r (ds.take n) (xs.take n) := by
  induction ds generalizing xs n with
  | nil => cases h; simp; exact .nil
  | cons a ds ih => cases h with | cons p q => cases n with | zero => exact .nil | succ n => exact .cons p (ih q n)
theorem RepVs.drop {ds : List D} {xs : List V} (h : RepVs K H r ds xs) (n : Nat) : RepVs K H r (ds.drop n) (xs.drop n) := by
  induction ds generalizing xs n with
  | nil => cases h; simp; exact .nil
  | cons a ds ih => cases h with | cons p q => cases n with | zero => exact .cons p q | succ n => exact ih q n
theorem RepVs.set {ds : List D} {xs : List V} (h : RepVs K H r ds xs) (n : Nat) {d : D} {x : V} (g : RepV K H r d x) : RepVs K H r (ds.set n d) (xs.set n x) := by
  induction ds generalizing xs n with
  | nil => cases h; exact .nil
  | cons a ds ih => cases h with | cons p q => cases n with | zero => exact .cons g q | succ n => exact .cons p (ih q n)
theorem RepVs.dropLast {ds : List D} {xs : List V} (h : RepVs K H r ds xs) : RepVs K H r ds.dropLast xs.dropLast := by
  rw [List.dropLast_eq_take, List.dropLast_eq_take, h.length]; exact h.take _
end
end Ev
end
section
/-! The readings; operators. -/
namespace Ev
open PySem L2 PyProof.Rows
open PySem.W (Frag)

/-- an exception of the evaluator's and one of the machine's; T: the classes by number -/
def ExR (K : Frag) (T : List Addr) (H : Hp) (r : List Addr) (e : Ex) (cls : Value) (dd : Option Addr) : Prop :=
  ∃ C, T[e.cls]? = some C ∧ cls = .ref C ∧ match e.fld with
    | none => dd = none
    | some d => ∃ p nm x, dd = some p ∧ H p = some (.xd [(nm, x)]) ∧ RepV K H r d x

def GoodG {α β : Type} (R : Hp → List Addr → α → β → Prop) (K : Frag) (T : List Addr) (W : WX) (r : List Addr) (σ : L2.St) (H : Hp) (x : Res α) (Q : β → Hp → Prop) : Prop := match x with
  | .ok a S => ∀ r' b H', Xt r H r' H' → R H' r' a b → SI K H' r' S → Q b H'
  | .exc e S => ∀ r' H' cls dd, Xt r H r' H' → SI K H' r' S → ExR K T H' r' e cls dd → W cls dd σ H'
  | .bad => False
/-- the reading of what the evaluator makes -/
def REG {α β : Type} (R : Hp → List Addr → α → β → Prop) (K : Frag) (T : List Addr) (W : WX) (f : Ev.Env → Sto → Res α) : L2.St → Hp → (β → Hp → Prop) → Prop := fun σ H Q => ∃ r env S, RepE K H r env σ ∧ SI K H r S ∧ GoodG R K T W r σ H (f env S) Q
abbrev Good (K : Frag) (T : List Addr) (W : WX) (r : List Addr) (σ : L2.St) (H : Hp) (x : Res D) (Q : VK) : Prop := GoodG (fun H r => RepV K H r) K T W r σ H x Q
abbrev RE (K : Frag) (T : List Addr) (W : WX) (f : Ev.Env → Sto → Res D) : TE := REG (fun H r => RepV K H r) K T W f
/-- without an exception -/
def GoodN (K : Frag) (r : List Addr) (H : Hp) (x : Res D) (Q : VK) : Prop := match x with
  | .ok d S => ∀ r' v H', Xt r H r' H' → RepV K H' r' d v → SI K H' r' S → Q v H'
  | _ => False
section
variable {K : Frag} {T : List Addr} {W : WX} {r r1 : List Addr} {σ : L2.St} {H H1 : Hp} {Q Q' : VK}
theorem GoodG.shift {α β : Type} {R : Hp → List Addr → α → β → Prop} {Q : β → Hp → Prop} {x : Res α} (e : Xt r H r1 H1) (h : GoodG R K T W r σ H x Q) : GoodG R K T W r1 σ H1 x Q := by
  cases x with
  | ok d S => exact fun r' v H' e' => h r' v H' (e.trans e')
  | exc ex S => exact fun r' H' cls dd e' => h r' H' cls dd (e.trans e')
  | bad => exact h
theorem GoodG.bind {α β γ δ : Type} {R : Hp → List Addr → α → β → Prop} {R' : Hp → List Addr → γ → δ → Prop} {Q : δ → Hp → Prop} {Q' : β → Hp → Prop} {x : Res α} {k : α → Sto → Res γ} (h : GoodG R' K T W r σ H (x.bind k) Q)
    (hk : ∀ d S r1 v H1, x = .ok d S → Xt r H r1 H1 → R H1 r1 d v → SI K H1 r1 S → GoodG R' K T W r1 σ H1 (k d S) Q → Q' v H1) : GoodG R K T W r σ H x Q' := by
  cases x with
  | ok d S => exact fun r1 v H1 e rv si => hk d S r1 v H1 rfl e rv si (h.shift e)
  | exc ex S => exact h
  | bad => exact h
theorem GoodG.noexc {x : Res D} (h : Good K T W r σ H x Q) (hx : ∀ e S, x ≠ .exc e S) : GoodN K r H x Q := by
  cases x with
  | ok d S => exact h
  | exc e S => exact absurd rfl (hx e S)
  | bad => exact h
/-- a value that needs nothing new -/
theorem GoodN.same {d : D} {S : Sto} {v : V} (h : GoodN K r H (.ok d S) Q) (rv : RepV K H r d v) (si : SI K H r S) : Q v H := h r v H (Xt.refl _ _) rv si
theorem GoodN.tup {ds : List D} {S : Sto} {xs : List V} (h : GoodN K r H (.ok (.tup ds) S) Q) (rv : RepVs K H r ds xs) (si : SI K H r S) : ∀ p, H p = none → Q (.ref p) (upd H p (.tup xs)) := fun p hp =>
  h r _ _ (Xt.upd hp) (.tup (.inl (.inl upd_same)) (RepVs.ext (Xt.upd hp) si.noTup _ _ rv)) (si.tup hp)
theorem GoodN.lst {ds : List D} {S : Sto} {xs : List V} (h : GoodN K r H (alloc (.lst ds) S) Q) (rv : RepVs K H r ds xs) (si : SI K H r S) : ∀ p, H p = none → Q (.ref p) (upd H p (.lst xs)) := fun p hp => by
  refine h (r ++ [p]) _ _ (Xt.neu hp) (.ref ?_) (si.new hp ⟨xs, upd_same, RepVs.ext (Xt.neu hp) si.noTup _ _ rv⟩)
  rw [← si.len, List.getElem?_concat_length]
end

section
variable {X : Cx} {pins : List (Addr × Obj)} {s : Shared}
theorem big_eq : big = sizeLine := by rw [sizeLine_eq]
theorem sv_append (a b : List Nat) : sv a ++ sv b = sv (a ++ b) := by
  show (⟨_⟩ : Str) = ⟨_⟩
  congr 1
  simp [sv]
/-- the list at a place -/
theorem SI.lst {K : Frag} {H : Hp} {r : List Addr} {S : Sto} (si : SI K H r S) {n : Nat} {a : Addr} {ds : List D} (e : items S n = some ds) (g : r[n]? = some a) : ∃ xs, H a = some (.lst xs) ∧ RepVs K H r ds xs := by
  unfold items at e
  split at e
  · rename_i xs q
    cases e
    exact si.obj n _ a q g
  · cases e
theorem SI.lst' {K : Frag} {H : Hp} {r : List Addr} {S : Sto} (si : SI K H r S) {n : Nat} {a : Addr} {ds : List D} (e : S[n]? = some (.lst ds)) (g : r[n]? = some a) : ∃ xs, H a = some (.lst xs) ∧ RepVs K H r ds xs := si.obj n _ a e g
theorem SI.dct {K : Frag} {H : Hp} {r : List Addr} {S : Sto} (si : SI K H r S) {n : Nat} {a : Addr} {ds : List (D × D)} (e : S[n]? = some (.dct ds)) (g : r[n]? = some a) : ∃ ks, H a = some (.dK ks) ∧ RepK K H r ds ks := si.obj n _ a e g

/-! ### two-place operators -/
/-- the reading of a two-place operation: what f makes -/
def rB (K : Frag) (f : D → D → Sto → Res D) : R2 := fun x y H Q => ∃ r S d d2, RepV K H r d x ∧ RepV K H r d2 y ∧ SI K H r S ∧ GoodN K r H (f d d2 S) Q
theorem op_addD : OpR X (binaryOp .Add) (rB X.K (binD .add)) := by
  intro pins s σ H x y v u Q I rx ry ⟨r, S, d, d2, hx, hy, si, g⟩
  cases hx <;> cases hy <;> try exact False.elim g
  · exact op_add pins s σ H _ _ v u Q I rx ry ⟨_, _, rfl, rfl, g.same (.int _) si⟩
  · rename_i a b
    simp only [binD] at g
    split at g
    · rename_i hl
      refine op_add_str pins s σ H _ _ v u Q I rx ry ⟨_, _, rfl, rfl, ?_, ?_⟩
      · rw [sv_len, sv_len, ← big_eq]; exact hl
      · rw [sv_append]; exact g.same (.str _) si
    · exact False.elim g
  · rename_i n a ga m b gb
    simp only [binD] at g
    split at g
    · rename_i ds es e1 e2
      split at g
      · rename_i hl
        obtain ⟨xs, h1, q1⟩ := si.lst' e1 ga
        obtain ⟨ys, h2, q2⟩ := si.lst' e2 gb
        refine op_cat pins s σ H _ _ v u Q I rx ry ⟨a, b, xs, ys, rfl, rfl, h1, h2, ?_, g.lst (q1.append q2) si⟩
        rw [← q1.length, ← q2.length, ← big_eq]; exact hl
      · exact False.elim g
    · exact False.elim g
  · rename_i ds a xs h1 q1 es b ys h2 q2
    simp only [binD] at g
    split at g
    · rename_i hl
      refine op_catA pins s σ H _ _ v u Q I rx ry ⟨a, b, xs, ys, rfl, rfl, h1, h2, ?_, fun e => ?_, fun e e' => ?_, fun _ _ => g.tup (q1.append q2) si⟩
      · rw [← q1.length, ← q2.length, ← big_eq]; exact hl
      · subst e
        cases q1
        exact g.same (.tup h2 q2) si
      · subst e'
        cases q2
        rw [List.append_nil] at g
        exact g.same (.tup h1 q1) si
    · exact False.elim g
theorem op_subD : OpR X (binaryOp .Sub) (rB X.K (binD .sub)) := by
  intro pins s σ H x y v u Q I rx ry ⟨r, S, d, d2, hx, hy, si, g⟩
  cases hx <;> cases hy <;> try exact False.elim g
  exact op_sub pins s σ H _ _ v u Q I rx ry ⟨_, _, rfl, rfl, g.same (.int _) si⟩
theorem cmul_of {i j : Int} (h : (small i || small j) = true) : CMul i j := by
  simp only [small, Bool.or_eq_true, Bool.and_eq_true, decide_eq_true_eq] at h
  exact h
theorem op_mulD : OpR X (binaryOp .Mult) (rB X.K (binD .mul)) := by
  intro pins s σ H x y v u Q I rx ry ⟨r, S, d, d2, hx, hy, si, g⟩
  cases hx <;> cases hy <;> try exact False.elim g
  simp only [binD] at g
  split at g
  · rename_i hc
    exact op_mul pins s σ H _ _ v u Q I rx ry ⟨_, _, rfl, rfl, cmul_of hc, g.same (.int _) si⟩
  · exact False.elim g
theorem op_fdivD : OpR X (binaryOp .FloorDiv) (rB X.K (binD .fdiv)) := by
  intro pins s σ H x y v u Q I rx ry ⟨r, S, d, d2, hx, hy, si, g⟩
  cases hx <;> cases hy <;> try exact False.elim g
  simp only [binD] at g
  split at g
  · rename_i hc
    simp only [Bool.and_eq_true, decide_eq_true_eq] at hc
    exact op_fdiv pins s σ H _ _ v u Q I rx ry ⟨_, _, rfl, rfl, hc, g.same (.int _) si⟩
  · exact False.elim g
theorem op_modD : OpR X (binaryOp .Mod) (rB X.K (binD .mod)) := by
  intro pins s σ H x y v u Q I rx ry ⟨r, S, d, d2, hx, hy, si, g⟩
  cases hx <;> cases hy <;> try exact False.elim g
  simp only [binD] at g
  split at g
  · rename_i hc
    exact op_mod pins s σ H _ _ v u Q I rx ry ⟨_, _, rfl, rfl, hc, g.same (.int _) si⟩
  · exact False.elim g
theorem op_powD : OpR X (binaryOp .Pow) (rB X.K (binD .pow)) := by
  intro pins s σ H x y v u Q I rx ry ⟨r, S, d, d2, hx, hy, si, g⟩
  cases hx <;> cases hy <;> try exact False.elim g
  simp only [binD] at g
  split at g
  · rename_i hc
    simp only [Bool.and_eq_true, decide_eq_true_eq] at hc
    exact op_pow pins s σ H _ _ v u Q I rx ry ⟨_, _, rfl, rfl, ⟨hc.1.1, by have := hc.1.2; omega, hc.2⟩, g.same (.int _) si⟩
  · exact False.elim g
theorem opD {o : PySem.Operator} {b : BOp} (h : bop o = some b) : OpR X (binaryOp o) (rB X.K (binD b)) := by
  cases o <;> first | (cases h; first | exact op_addD | exact op_subD | exact op_mulD | exact op_fdivD | exact op_modD | exact op_powD) | exact absurd h (by simp [bop])
/-- the same in place; no list -/
theorem iopD {o : PySem.Operator} {b : BOp} (h : bop o = some b) (hb : b ≠ .pow) : OpR X (inplaceOp o) (rB X.K (augD b)) := by
  intro pins s σ H x y v u Q I rx ry ⟨r, S, d, d2, hx, hy, si, g⟩
  cases o <;> first | (cases h) | exact absurd h (by simp [bop])
  all_goals first | exact absurd rfl hb | skip
  · cases hx <;> cases hy <;> try exact False.elim g
    · exact iop_add pins s σ H _ _ v u Q I rx ry ⟨_, _, rfl, rfl, g.same (.int _) si⟩
    · simp only [augD, binD] at g
      split at g
      · rename_i hl
        refine iop_add_str pins s σ H _ _ v u Q I rx ry ⟨_, _, rfl, rfl, ?_, ?_⟩
        · rw [sv_len, sv_len, ← big_eq]; exact hl
        · rw [sv_append]; exact g.same (.str _) si
      · exact False.elim g
  · cases hx <;> cases hy <;> try exact False.elim g
    exact iop_sub pins s σ H _ _ v u Q I rx ry ⟨_, _, rfl, rfl, g.same (.int _) si⟩
  · cases hx <;> cases hy <;> try exact False.elim g
    simp only [augD, binD] at g
    split at g
    · rename_i hc
      exact iop_mul pins s σ H _ _ v u Q I rx ry ⟨_, _, rfl, rfl, cmul_of hc, g.same (.int _) si⟩
    · exact False.elim g
  · cases hx <;> cases hy <;> try exact False.elim g
    simp only [augD, binD] at g
    split at g
    · rename_i hc
      exact iop_mod pins s σ H _ _ v u Q I rx ry ⟨_, _, rfl, rfl, hc, g.same (.int _) si⟩
    · exact False.elim g
  · cases hx <;> cases hy <;> try exact False.elim g
    simp only [augD, binD] at g
    split at g
    · rename_i hc
      simp only [Bool.and_eq_true, decide_eq_true_eq] at hc
      exact iop_fdiv pins s σ H _ _ v u Q I rx ry ⟨_, _, rfl, rfl, hc, g.same (.int _) si⟩
    · exact False.elim g
end
end Ev
end
section
/-! Truth, comparisons, index, slice. -/
namespace Ev
open PySem L2 PyProof.Rows
open PySem.W (Frag)
section
variable {X : Cx} {pins : List (Addr × Obj)} {s : Shared} {K : Frag} {H : Hp} {r : List Addr} {S : Sto}

/-! ### truth -/
theorem truth_ok {d : D} {x : V} {b : Bool} (hx : RepV K H r d x) (si : SI K H r S) (h : truth S d = some b) : TruV K x H b := by
  cases hx with
  | non => simp [truth] at h; subst h; rfl
  | bl k => simp [truth] at h; subst h; rfl
  | int i => simp [truth] at h; subst h; rfl
  | str t =>
    simp only [truth] at h
    split at h
    · rename_i hl
      cases h
      refine ⟨by rw [sv_len, ← big_eq]; exact hl, ?_⟩
      rw [sv_len]
      cases t <;> simp; omega
    · cases h
  | tup hs hr =>
    simp only [truth, Option.some.injEq] at h; subst h
    refine .inr (.inl ⟨_, hs, ?_⟩)
    cases hr <;> rfl
  | ref g =>
    simp only [truth] at h
    split at h
    · rename_i ds e
      obtain ⟨xs, e1, q⟩ := si.lst e g
      cases h
      refine .inl ⟨xs, .inl (.inl e1), ?_⟩
      cases q <;> rfl
    · split at h
      · rename_i kvs e
        obtain ⟨ks, e1, q⟩ := si.dct e g
        cases h
        refine .inr (.inr ⟨ks, e1, ?_⟩)
        cases q <;> rfl
      · cases h
  | fl hs hr => simp [truth] at h

/-! ### == -/
mutual
def pd : D → PyData
  | .non => .none
  | .bl b => .bool b
  | .int i => .int i
  | .str s => .str (sv s)
  | .tup ds => .tuple (pds ds)
  | .ref _ => .none
  | .fl _ => .none
def pds : List D → List PyData
  | [] => []
  | d :: ds => pd d :: pds ds
end
theorem le_of_shal {n : Nat} {o : Option Nat} (h : shal n o = true) : ∃ k, o = some k ∧ k ≤ n := by
  cases o with
  | none => simp [shal] at h
  | some k => exact ⟨k, rfl, by simpa [shal] using h⟩
mutual
theorem pd_of : ∀ (d : D) (x : V) (k : Nat), dep d = some k → RepV K H r d x → Dp K H x (pd d) ∧ (pd d).depth = k ∧ (pd d).canLay0 = true
  | .non, _, _, e, h => by cases h; simp [dep] at e; exact ⟨.non, by simp [pd, PyData.depth, e], by simp [pd, PyData.canLay0]⟩
  | .bl _, _, _, e, h => by cases h; simp [dep] at e; exact ⟨.bl _, by simp [pd, PyData.depth, e], by simp [pd, PyData.canLay0]⟩
  | .int _, _, _, e, h => by cases h; simp [dep] at e; exact ⟨.int _, by simp [pd, PyData.depth, e], by simp [pd, PyData.canLay0]⟩
  | .str _, _, _, e, h => by
    cases h
    simp only [dep] at e
    split at e
    · rename_i hc
      cases e
      refine ⟨.str _, by simp [pd, PyData.depth], ?_⟩
      simp only [pd, PyData.canLay0, PyData.strOk, sv]
      simpa using hc
    · cases e
  | .ref _, _, _, e, h => by simp [dep] at e
  | .fl _, _, _, e, h => by simp [dep] at e
  | .tup ds, _, k, e, h => by
    cases h with
    | tup hs hr =>
      simp only [dep, Option.map_eq_some_iff] at e
      obtain ⟨j, e, rfl⟩ := e
      obtain ⟨a, b, c⟩ := pds_of ds _ j e hr
      exact ⟨.tup hs a, by simp [pd, PyData.depth, b], by simp [pd, PyData.canLay0, c]⟩
theorem pds_of : ∀ (ds : List D) (xs : List V) (k : Nat), deps ds = some k → RepVs K H r ds xs → DpAll K H xs (pds ds) ∧ PyData.depthAll (pds ds) = k ∧ PyData.canLayAll0 (pds ds) = true
  | [], _, _, e, h => by cases h; simp [deps] at e; exact ⟨.nil, by simp [pds, PyData.depthAll, e], by simp [pds, PyData.canLayAll0]⟩
  | d :: ds, _, k, e, h => by
    cases h with
    | cons h1 h2 =>
      simp only [deps] at e
      split at e
      · rename_i a b e1 e2
        cases e
        obtain ⟨p1, q1, c1⟩ := pd_of d _ a e1 h1
        obtain ⟨p2, q2, c2⟩ := pds_of ds _ b e2 h2
        exact ⟨.cons p1 p2, by simp [pds, PyData.depthAll, q1, q2], by simp [pds, PyData.canLayAll0, c1, c2]⟩
      · cases e
end
mutual
theorem eqv_pd : ∀ (a b : D) (i j : Nat), dep a = some i → dep b = some j → PyData.eqv (pd a) (pd b) = eqv a b
  | .ref _, _, _, _, h, _ => by simp [dep] at h
  | .fl _, _, _, _, h, _ => by simp [dep] at h
  | .tup xs, .tup ys, i, j, h, g => by
    simp only [dep, Option.map_eq_some_iff] at h g
    obtain ⟨i', h, _⟩ := h
    obtain ⟨j', g, _⟩ := g
    simp [pd, PyData.eqv, eqv, eqvs_pd xs ys i' j' h g]
  | a, .ref _, _, _, _, h => by simp [dep] at h
  | a, .fl _, _, _, _, h => by simp [dep] at h
  | .non, .non, _, _, _, _ => by simp [pd, PyData.eqv, eqv]
  | .non, .bl _, _, _, _, _ => by simp [pd, PyData.eqv, eqv]
  | .non, .int _, _, _, _, _ => by simp [pd, PyData.eqv, eqv]
  | .non, .str _, _, _, _, _ => by simp [pd, PyData.eqv, eqv]
  | .non, .tup _, _, _, _, _ => by simp [pd, PyData.eqv, eqv]
  | .bl _, .non, _, _, _, _ => by simp [pd, PyData.eqv, eqv]
  | .bl _, .bl _, _, _, _, _ => by simp [pd, PyData.eqv, eqv]
  | .bl _, .int _, _, _, _, _ => by simp [pd, PyData.eqv, eqv]
  | .bl _, .str _, _, _, _, _ => by simp [pd, PyData.eqv, eqv]
  | .bl _, .tup _, _, _, _, _ => by simp [pd, PyData.eqv, eqv]
  | .int _, .non, _, _, _, _ => by simp [pd, PyData.eqv, eqv]
  | .int _, .bl _, _, _, _, _ => by simp [pd, PyData.eqv, eqv]
  | .int _, .int _, _, _, _, _ => by simp [pd, PyData.eqv, eqv]
  | .int _, .str _, _, _, _, _ => by simp [pd, PyData.eqv, eqv]
  | .int _, .tup _, _, _, _, _ => by simp [pd, PyData.eqv, eqv]
  | .str _, .non, _, _, _, _ => by simp [pd, PyData.eqv, eqv]
  | .str _, .bl _, _, _, _, _ => by simp [pd, PyData.eqv, eqv]
  | .str _, .int _, _, _, _, _ => by simp [pd, PyData.eqv, eqv]
  | .str s, .str t, _, _, _, _ => by
    simp only [pd, PyData.eqv, eqv]
    rw [Bool.eq_iff_iff, beq_iff_eq, beq_iff_eq]
    exact sv_inj
  | .str _, .tup _, _, _, _, _ => by simp [pd, PyData.eqv, eqv]
  | .tup _, .non, _, _, _, _ => by simp [pd, PyData.eqv, eqv]
  | .tup _, .bl _, _, _, _, _ => by simp [pd, PyData.eqv, eqv]
  | .tup _, .int _, _, _, _, _ => by simp [pd, PyData.eqv, eqv]
  | .tup _, .str _, _, _, _, _ => by simp [pd, PyData.eqv, eqv]
theorem eqvs_pd : ∀ (as bs : List D) (i j : Nat), deps as = some i → deps bs = some j → PyData.eqvAll (pds as) (pds bs) = eqvs as bs
  | [], [], _, _, _, _ => by simp [pds, PyData.eqvAll, eqvs]
  | [], _ :: _, _, _, _, _ => by simp [pds, PyData.eqvAll, eqvs]
  | _ :: _, [], _, _, _, _ => by simp [pds, PyData.eqvAll, eqvs]
  | a :: as, b :: bs, i, j, h, g => by
    simp only [deps] at h g
    split at h
    · rename_i p q e1 e2
      split at g
      · rename_i p' q' f1 f2
        simp [pds, PyData.eqvAll, eqvs, eqv_pd a b p p' e1 f1, eqvs_pd as bs q q' e2 f2]
      · cases g
    · cases h
end
theorem shal_dep {d : D} {x : V} (h : shal 60 (dep d) = true) (hx : RepV K H r d x) : ∃ k, dep d = some k ∧ Dp K H x (pd d) ∧ SeqAt.shaped (pd d) = true := by
  obtain ⟨k, e, hk⟩ := le_of_shal h
  obtain ⟨a, b, c⟩ := pd_of d x k e hx
  exact ⟨k, e, a, by simp [SeqAt.shaped, b, c]; omega⟩
theorem shal_deps {ds : List D} {a : Addr} {xs : List V} (h : shal 60 (deps ds) = true) (hl : SqL K H a xs) (hx : RepVs K H r ds xs) : ∃ k, deps ds = some k ∧ Dp K H (.ref a) (.list (pds ds)) ∧ SeqAt.shaped (.list (pds ds)) = true := by
  obtain ⟨k, e, hk⟩ := le_of_shal h
  obtain ⟨p, b, c⟩ := pds_of ds xs k e hx
  exact ⟨k, e, .lst hl p, by simp [SeqAt.shaped, PyData.depth, PyData.canLay0, b, c]; omega⟩
theorem list_ne : ∀ (ds : List PyData) (d : D) (k : Nat), dep d = some k → PyData.eqv (.list ds) (pd d) = false ∧ PyData.eqv (pd d) (.list ds) = false := by
  intro ds d k h
  cases d <;> simp [pd, PyData.eqv, dep] at h ⊢
/-- what eqD tells -/
theorem eqD_ok {d e : D} {x y : V} {b : Bool} (hx : RepV K H r d x) (hy : RepV K H r e y) (si : SI K H r S) (h : eqD S d e = some b) :
    ∃ p q, Dp K H x p ∧ Dp K H y q ∧ SeqAt.shaped p = true ∧ SeqAt.shaped q = true ∧ PyData.eqv p q = b := by
  have two : ∀ {d e : D} {x y : V}, RepV K H r d x → RepV K H r e y → (if (shal 60 (dep d) && shal 60 (dep e)) = true then some (eqv d e) else none) = some b →
      ∃ p q, Dp K H x p ∧ Dp K H y q ∧ SeqAt.shaped p = true ∧ SeqAt.shaped q = true ∧ PyData.eqv p q = b := by
    intro d e x y hx hy h
    split at h
    · rename_i hc
      rw [Bool.and_eq_true] at hc
      cases h
      obtain ⟨k, e1, p1, s1⟩ := shal_dep hc.1 hx
      obtain ⟨j, e2, p2, s2⟩ := shal_dep hc.2 hy
      exact ⟨_, _, p1, p2, s1, s2, eqv_pd _ _ k j e1 e2⟩
    · cases h
  have left : ∀ {n : Nat} {a : Addr} {e : D} {y : V}, r[n]? = some a → RepV K H r e y → (match items S n with
      | some xs => if (shal 60 (deps xs) && shal 60 (dep e)) = true then some false else none
      | none => none) = some b → ∃ p q, Dp K H (.ref a) p ∧ Dp K H y q ∧ SeqAt.shaped p = true ∧ SeqAt.shaped q = true ∧ PyData.eqv p q = b := by
    intro n a e y g hy h
    split at h
    · rename_i ds ei
      split at h
      · rename_i hc
        rw [Bool.and_eq_true] at hc
        cases h
        obtain ⟨xs, e1, q⟩ := si.lst ei g
        obtain ⟨k, _, p1, s1⟩ := shal_deps hc.1 (.inl (.inl e1)) q
        obtain ⟨j, e2, p2, s2⟩ := shal_dep hc.2 hy
        exact ⟨_, _, p1, p2, s1, s2, (list_ne _ _ _ e2).1⟩
      · cases h
    · cases h
  have right : ∀ {n : Nat} {a : Addr} {e : D} {y : V}, r[n]? = some a → RepV K H r e y → (match items S n with
      | some xs => if (shal 60 (dep e) && shal 60 (deps xs)) = true then some false else none
      | none => none) = some b → ∃ p q, Dp K H y p ∧ Dp K H (.ref a) q ∧ SeqAt.shaped p = true ∧ SeqAt.shaped q = true ∧ PyData.eqv p q = b := by
    intro n a e y g hy h
    split at h
    · rename_i ds ei
      split at h
      · rename_i hc
        rw [Bool.and_eq_true] at hc
        cases h
        obtain ⟨xs, e1, q⟩ := si.lst ei g
        obtain ⟨k, _, p1, s1⟩ := shal_deps hc.2 (.inl (.inl e1)) q
        obtain ⟨j, e2, p2, s2⟩ := shal_dep hc.1 hy
        exact ⟨_, _, p2, p1, s2, s1, (list_ne _ _ _ e2).2⟩
      · cases h
    · cases h
  cases hx with
  | ref g1 =>
    cases hy with
    | ref g2 =>
      simp only [eqD] at h
      split at h
      · rename_i ds es e1 e2
        split at h
        · rename_i hc
          rw [Bool.and_eq_true] at hc
          cases h
          obtain ⟨xs, f1, q1⟩ := si.lst e1 g1
          obtain ⟨ys, f2, q2⟩ := si.lst e2 g2
          obtain ⟨k, i1, p1, s1⟩ := shal_deps hc.1 (.inl (.inl f1)) q1
          obtain ⟨j, i2, p2, s2⟩ := shal_deps hc.2 (.inl (.inl f2)) q2
          exact ⟨_, _, p1, p2, s1, s2, by simp only [PyData.eqv]; exact eqvs_pd _ _ _ _ i1 i2⟩
        · cases h
      · cases h
    | non => exact left g1 .non h
    | bl => exact left g1 (.bl _) h
    | int => exact left g1 (.int _) h
    | str => exact left g1 (.str _) h
    | tup a b => exact left g1 (.tup a b) h
    | fl a b => exact left g1 (.fl a b) h
  | non => cases e <;> first | exact two .non hy h | (cases hy; exact right (by assumption) .non h)
  | bl => cases e <;> first | exact two (.bl _) hy h | (cases hy; exact right (by assumption) (.bl _) h)
  | int => cases e <;> first | exact two (.int _) hy h | (cases hy; exact right (by assumption) (.int _) h)
  | str => cases e <;> first | exact two (.str _) hy h | (cases hy; exact right (by assumption) (.str _) h)
  | tup a b => cases e <;> first | exact two (.tup a b) hy h | (cases hy; exact right (by assumption) (.tup a b) h)
  | fl a b => cases e <;> first | exact two (.fl a b) hy h | (cases hy; exact right (by assumption) (.fl a b) h)

/-! ### in -/
theorem flat_V {d : D} {x : V} (h : flat d = true) (hx : RepV K H r d x) : flatV x = true := by
  cases hx <;> first | rfl | simp [flat] at h
theorem flat_Vs {ds : List D} {xs : List V} (h : ds.all flat = true) (hx : RepVs K H r ds xs) : xs.all flatV = true := by
  induction ds generalizing xs with
  | nil => cases hx; rfl
  | cons d ds ih =>
    cases hx with
    | cons a b =>
      simp only [List.all_cons, Bool.and_eq_true] at h ⊢
      exact ⟨flat_V h.1 a, ih h.2 b⟩
theorem eqv_V {d e : D} {x y : V} (h : flat d = true) (g : flat e = true) (hx : RepV K H r d x) (hy : RepV K H r e y) : eqV x y = eqv d e := by
  cases hx <;> cases hy <;> first | rfl | (simp [flat] at h; done) | (simp [flat] at g; done) | skip
  simp only [eqV, eqv]
  rw [Bool.eq_iff_iff, beq_iff_eq, beq_iff_eq]
  exact sv_inj
theorem inD_V {d : D} {ds : List D} {x : V} {xs : List V} (h : flat d = true) (g : ds.all flat = true) (hx : RepV K H r d x) (hy : RepVs K H r ds xs) : inV x xs = inD d ds := by
  unfold inV inD
  induction ds generalizing xs with
  | nil => cases hy; rfl
  | cons e ds ih =>
    cases hy with
    | cons a b =>
      simp only [List.all_cons, Bool.and_eq_true] at g
      simp only [List.any_cons, eqv_V g.1 h a hx, ih g.2 b]
/-! ### dicts -/
theorem keyD_some {k : D} (h : keyOk k = true) : ∃ q, keyD k = some q := by
  cases k <;> first | exact ⟨_, rfl⟩ | simp [keyOk] at h
theorem keyD_V {k : D} {q : Key} {x : V} (h : keyD k = some q) (hx : RepV K H r k x) : x = kV q := by
  cases hx <;> simp [keyD] at h <;> subst h <;> rfl
theorem deq_key {a b : D} {p q : Key} (h : keyD a = some p) (g : keyD b = some q) : deq a b = decide (p = q) := by
  cases a <;> simp [keyD] at h <;> cases b <;> simp [keyD] at g <;> subst h g <;> simp [deq, sv_inj] <;> (rw [Bool.eq_iff_iff]; simp)
theorem RepK.get {kvs : List (D × D)} {ks : List (Key × V)} (h : RepK K H r kvs ks) {k : D} {q : Key} (hk : keyD k = some q) :
    (∀ d, dget kvs k = some d → ∃ x, valV ks q = some x ∧ RepV K H r d x) ∧ (dget kvs k = none → valV ks q = none) := by
  induction h with
  | nil => exact ⟨fun d e => by simp [dget] at e, fun _ => rfl⟩
  | @cons k' v kv q' x qs e1 e2 _ ih =>
    simp only [dget, valV, List.find?_cons]
    rw [deq_key e1 hk]
    cases c : decide (q' = q) with
    | true => simp; exact e2
    | false => simpa [valV] using ih
theorem RepK.len {kvs : List (D × D)} {ks : List (Key × V)} (h : RepK K H r kvs ks) : kvs.length = ks.length := by
  induction h with
  | nil => rfl
  | cons _ _ _ ih => simp [ih]
theorem RepK.any {kvs : List (D × D)} {ks : List (Key × V)} (h : RepK K H r kvs ks) {k : D} {q : Key} (hk : keyD k = some q) : kvs.any (fun p => deq p.1 k) = ks.any fun kv => decide (kv.1 = q) := by
  induction h with
  | nil => rfl
  | cons e1 _ _ ih => simp [ih, deq_key e1 hk]
theorem RepK.map {kvs : List (D × D)} {ks : List (Key × V)} (h : RepK K H r kvs ks) {k v : D} {q : Key} {x : V} (hk : keyD k = some q) (hv : RepV K H r v x) :
    RepK K H r (kvs.map fun p => if deq p.1 k then (p.1, v) else p) (ks.map fun kv => if kv.1 = q then (kv.1, x) else kv) := by
  induction h with
  | nil => exact .nil
  | @cons k' v' kv q' x' qs e1 e2 _ ih =>
    simp only [List.map_cons]
    by_cases c : q' = q
    · rw [if_pos (by rw [deq_key e1 hk]; simpa using c), if_pos c]; exact .cons e1 hv ih
    · rw [if_neg (by rw [deq_key e1 hk]; simpa using c), if_neg c]; exact .cons e1 e2 ih
theorem RepK.snoc {kvs : List (D × D)} {ks : List (Key × V)} (h : RepK K H r kvs ks) {k v : D} {q : Key} {x : V} (hk : keyD k = some q) (hv : RepV K H r v x) : RepK K H r (kvs ++ [(k, v)]) (ks ++ [(q, x)]) := by
  induction h with
  | nil => exact .cons hk hv .nil
  | cons e1 e2 _ ih => exact .cons e1 e2 ih
theorem RepK.put {kvs : List (D × D)} {ks : List (Key × V)} (h : RepK K H r kvs ks) {k v : D} {q : Key} {x : V} (hk : keyD k = some q) (hv : RepV K H r v x) : RepK K H r (dput kvs k v) (putK ks q x) := by
  unfold dput putK
  rw [h.any hk]
  split
  · exact h.map hk hv
  · exact h.snoc hk hv
theorem RepK.merge {more kvs : List (D × D)} {ms ks : List (Key × V)} (g : RepK K H r more ms) : RepK K H r kvs ks → RepK K H r (dmerge kvs more) (mergeK ks ms) := by
  induction g generalizing kvs ks with
  | nil => exact fun h => h
  | cons e1 e2 _ ih => exact fun h => ih (h.put e1 e2)
end
end Ev
end
section
/-! Comparisons, index, slice, store by values. -/
namespace Ev
open PySem L2 PyProof.Rows
open PySem.W (Frag)
section
variable {X : Cx} {pins : List (Addr × Obj)} {s : Shared} {K : Frag} {H : Hp} {r : List Addr} {S : Sto}

/-- the reading of a comparison -/
def rC (K : Frag) (o : COp) : R2 := fun x y H Q => ∃ r S d d2 b, RepV K H r d x ∧ RepV K H r d2 y ∧ SI K H r S ∧ cmpD o d d2 S = some b ∧ Q (.bl b) H
theorem op_eqE (hu : X.A.units + 64 < cLine) : OpR X (compareOp .Eq) (rC X.K .eq) := by
  intro pins s σ H x y v u Q I rx ry ⟨r, S, d, d2, b, hx, hy, si, h, q⟩
  obtain ⟨p, p2, h1, h2, h3, h4, h5⟩ := eqD_ok hx hy si h
  exact op_eqD hu pins s σ H x y v u Q I rx ry ⟨p, p2, h1, h2, h3, h4, by rw [h5]; exact q⟩
theorem op_neE (hu : X.A.units + 64 < cLine) : OpR X (compareOp .NotEq) (rC X.K .ne) := by
  intro pins s σ H x y v u Q I rx ry ⟨r, S, d, d2, b, hx, hy, si, h, q⟩
  simp only [cmpD, Option.map_eq_some_iff] at h
  obtain ⟨c, h, rfl⟩ := h
  obtain ⟨p, p2, h1, h2, h3, h4, h5⟩ := eqD_ok hx hy si h
  exact op_neD hu pins s σ H x y v u Q I rx ry ⟨p, p2, h1, h2, h3, h4, by rw [h5]; exact q⟩
theorem op_ordE {o : COp} {f : Value → Value → Sem Value} {g : Int → Int → Bool} (op : OpR X f (rI0 fun i j => .bl (g i j)))
    (hg : ∀ d d2 b, cmpD o d d2 S = some b → ∃ i j, d = .int i ∧ d2 = .int j ∧ b = g i j) {σ : L2.St} {x y : V} {v u : Value} {Q : VK} (I : Inv X pins σ H s) (rx : RelV x v) (ry : RelV y u) {d d2 : D} {b : Bool} (hx : RepV X.K H r d x) (hy : RepV X.K H r d2 y)
    (h : cmpD o d d2 S = some b) (q : Q (.bl b) H) : wpAny (model X.prog X.w) X.A (f v u) (EP X pins σ Q) X.xe s := by
  obtain ⟨i, j, rfl, rfl, rfl⟩ := hg _ _ _ h
  cases hx; cases hy
  exact op pins s σ H _ _ v u Q I rx ry ⟨_, _, rfl, rfl, q⟩
theorem cmp_lt {d d2 : D} {b : Bool} (h : cmpD .lt d d2 S = some b) : ∃ i j, d = .int i ∧ d2 = .int j ∧ b = decide (i < j) := by
  cases d <;> cases d2 <;> simp [cmpD] at h; exact ⟨_, _, rfl, rfl, h.symm⟩
theorem cmp_le {d d2 : D} {b : Bool} (h : cmpD .le d d2 S = some b) : ∃ i j, d = .int i ∧ d2 = .int j ∧ b = decide (i ≤ j) := by
  cases d <;> cases d2 <;> simp [cmpD] at h; exact ⟨_, _, rfl, rfl, h.symm⟩
theorem cmp_gt {d d2 : D} {b : Bool} (h : cmpD .gt d d2 S = some b) : ∃ i j, d = .int i ∧ d2 = .int j ∧ b = decide (j < i) := by
  cases d <;> cases d2 <;> simp [cmpD] at h; exact ⟨_, _, rfl, rfl, h.symm⟩
theorem cmp_ge {d d2 : D} {b : Bool} (h : cmpD .ge d d2 S = some b) : ∃ i j, d = .int i ∧ d2 = .int j ∧ b = decide (j ≤ i) := by
  cases d <;> cases d2 <;> simp [cmpD] at h; exact ⟨_, _, rfl, rfl, h.symm⟩
theorem op_ltE : OpR X (compareOp .Lt) (rC X.K .lt) := by
  intro pins s σ H x y v u Q I rx ry ⟨r, S, d, d2, b, hx, hy, si, h, q⟩
  exact op_ordE op_lt (fun _ _ _ => cmp_lt) I rx ry hx hy h q
theorem op_leE : OpR X (compareOp .LtE) (rC X.K .le) := by
  intro pins s σ H x y v u Q I rx ry ⟨r, S, d, d2, b, hx, hy, si, h, q⟩
  exact op_ordE op_le (fun _ _ _ => cmp_le) I rx ry hx hy h q
theorem op_gtE : OpR X (compareOp .Gt) (rC X.K .gt) := by
  intro pins s σ H x y v u Q I rx ry ⟨r, S, d, d2, b, hx, hy, si, h, q⟩
  exact op_ordE op_gt (fun _ _ _ => cmp_gt) I rx ry hx hy h q
theorem op_geE : OpR X (compareOp .GtE) (rC X.K .ge) := by
  intro pins s σ H x y v u Q I rx ry ⟨r, S, d, d2, b, hx, hy, si, h, q⟩
  exact op_ordE op_ge (fun _ _ _ => cmp_ge) I rx ry hx hy h q
theorem RepV.isNon {d : D} {x : V} (h : RepV K H r d x) : decide (x = .non) = (match d with | .non => true | _ => false) := by
  cases h <;> simp
theorem op_isNE : OpR X (compareOp .Is) (rC X.K .isN) := by
  intro pins s σ H x y v u Q I rx ry ⟨r, S, d, d2, b, hx, hy, si, h, q⟩
  cases d2 <;> simp [cmpD] at h
  subst h
  cases hy
  refine op_isN pins s σ H x _ v u Q I rx ry ⟨rfl, ?_⟩
  rw [hx.isNon]
  cases d <;> exact q
theorem op_notNE : OpR X (compareOp .IsNot) (rC X.K .notN) := by
  intro pins s σ H x y v u Q I rx ry ⟨r, S, d, d2, b, hx, hy, si, h, q⟩
  cases d2 <;> simp [cmpD] at h
  subst h
  cases hy
  refine op_notN pins s σ H x _ v u Q I rx ry ⟨rfl, ?_⟩
  rw [hx.isNon]
  cases d <;> exact q
/-- what memD tells -/
theorem memD_ok {d d2 : D} {x y : V} {b : Bool} (hx : RepV K H r d x) (hy : RepV K H r d2 y) (si : SI K H r S) (h : cmpD.memD d d2 S = some b) :
    (∃ p xs, y = .ref p ∧ (SqL K H p xs ∨ SqT K H p xs) ∧ flatV x = true ∧ xs.all flatV = true ∧ inV x xs = b) ∨ (∃ a o, y = .ref a ∧ DGet H a x o ∧ o.isSome = b) ∨
      ∃ (c : Nat) (z : Str), x = .str ⟨#[c]⟩ ∧ y = .str z ∧ decide (c ∈ z.cps.toList) = b := by
  cases hy with
  | tup hs hr =>
    simp only [cmpD.memD] at h
    split at h
    · rename_i hc
      rw [Bool.and_eq_true] at hc
      cases h
      exact .inl ⟨_, _, rfl, .inr hs, flat_V hc.1 hx, flat_Vs hc.2 hr, inD_V hc.1 hc.2 hx hr⟩
    · cases h
  | ref g =>
    simp only [cmpD.memD] at h
    split at h
    · rename_i ds e
      obtain ⟨xs, e1, hr⟩ := si.lst e g
      split at h
      · rename_i hc
        rw [Bool.and_eq_true] at hc
        cases h
        exact .inl ⟨_, _, rfl, .inl (.inl (.inl e1)), flat_V hc.1 hx, flat_Vs hc.2 hr, inD_V hc.1 hc.2 hx hr⟩
      · cases h
    · split at h
      · rename_i kvs e
        obtain ⟨ks, e1, hr⟩ := si.dct e g
        split at h
        · rename_i hc
          cases h
          obtain ⟨q, hq⟩ := keyD_some hc
          have hxq := keyD_V hq hx
          subst hxq
          refine .inr (.inl ⟨_, valV ks q, rfl, DGet.k e1, ?_⟩)
          obtain ⟨g1, g2⟩ := hr.get hq
          cases z : dget kvs d with
          | none => rw [g2 z]; rfl
          | some w => obtain ⟨xv, e, _⟩ := g1 w z; rw [e]; rfl
        · cases h
      · cases h
  | str t =>
    cases hx with
    | str c =>
      simp only [cmpD.memD] at h
      split at h
      · rename_i c' e
        cases h
        cases e
        exact .inr (.inr ⟨_, _, rfl, rfl, by simp⟩)
      · cases h
    | _ => simp [cmpD.memD] at h
  | non => simp [cmpD.memD] at h
  | bl => simp [cmpD.memD] at h
  | int => simp [cmpD.memD] at h
  | fl a b => simp [cmpD.memD] at h
theorem op_inE (hu : X.A.units + 1 < cLine) : OpR X (compareOp .In) (rC X.K .isin) := by
  intro pins s σ H x y v u Q I rx ry ⟨r, S, d, d2, b, hx, hy, si, h, q⟩
  rcases memD_ok hx hy si h with ⟨p, xs, e, h1, h2, h3, h4⟩ | ⟨a, o, e, h1, h2⟩ | ⟨c, z, e1, e2, h1⟩
  · exact op_in_seq pins s σ H x y v u Q I rx ry ⟨p, xs, e, h1, h2, h3, by rw [if_neg Bool.false_ne_true, h4]; exact q⟩
  · subst e
    obtain rfl : u = Value.ref a := ry
    exact d_in hu I h1 rx fun s3 I3 => ⟨.bl o.isSome, H, I3, rfl, by rw [h2]; exact q⟩
  · exact op_in_sign pins s σ H x y v u Q I rx ry ⟨c, z, e1, e2, by rw [h1]; exact q⟩
theorem op_notinE (hu : X.A.units + 1 < cLine) : OpR X (compareOp .NotIn) (rC X.K .notin) := by
  intro pins s σ H x y v u Q I rx ry ⟨r, S, d, d2, b, hx, hy, si, h, q⟩
  simp only [cmpD, Option.map_eq_some_iff] at h
  obtain ⟨c, h, rfl⟩ := h
  rcases memD_ok hx hy si h with ⟨p, xs, e, h1, h2, h3, h4⟩ | ⟨a, o, e, h1, h2⟩ | ⟨c, z, e1, e2, h1⟩
  · exact op_notIn_seq pins s σ H x y v u Q I rx ry ⟨p, xs, e, h1, h2, h3, by rw [if_pos rfl, h4]; exact q⟩
  · subst e
    obtain rfl : u = Value.ref a := ry
    exact d_notIn hu I h1 rx fun s3 I3 => ⟨.bl (!o.isSome), H, I3, rfl, by rw [h2]; exact q⟩
  · exact op_notIn_sign pins s σ H x y v u Q I rx ry ⟨c, z, e1, e2, by rw [h1]; exact q⟩
theorem copE (hu : X.A.units + 64 < cLine) {o : CmpOp} {n : Bool} {c : COp} (h : cop n o = some c) : OpR X (compareOp o) (rC X.K c) := by
  have hu1 : X.A.units + 1 < cLine := by omega
  cases o <;> simp only [cop] at h
  all_goals first
    | (cases h; first | exact op_eqE hu | exact op_neE hu | exact op_ltE | exact op_leE | exact op_gtE | exact op_geE | exact op_inE hu1 | exact op_notinE hu1)
    | (split at h <;> cases h; first | exact op_isNE | exact op_notNE)

/-! ### index -/
theorem atI_V {ds : List D} {xs : List V} (hr : RepVs K H r ds xs) {i : Int} {d : D} (e : atI ds i = some d) : ∃ x, L2.atI xs i = some x ∧ RepV K H r d x := by
  unfold atI at e
  unfold L2.atI
  rw [Option.bind_eq_some_iff] at e
  obtain ⟨j, e1, e2⟩ := e
  obtain ⟨x, e3, q⟩ := hr.get e2
  refine ⟨x, ?_, q⟩
  rw [← hr.length]
  show (ixN ds.length i).bind _ = _
  rw [e1]
  exact e3
theorem ixE (hu : X.A.units + 1 < cLine) : IxR X (rB X.K ixD) := by
  intro value slice pins s σ H x y v u Q I rx ry ⟨r, S, d, d2, hx, hy, si, g⟩ hs
  cases hx with
  | tup hq hr =>
    cases hy <;> try exact False.elim g
    rename_i ds a xs k
    simp only [ixD, getD'] at g
    split at g
    · rename_i d e
      obtain ⟨x, e1, q1⟩ := atI_V hr e
      exact ix_seq value slice pins s σ H _ _ v u Q I rx ry (.inr (.inl ⟨_, _, _, _, rfl, rfl, hq, e1, g.same q1 si⟩)) hs
    · exact False.elim g
  | str t =>
    cases hy <;> try exact False.elim g
    simp only [ixD] at g
    split at g
    · rename_i hl
      simp only [getD'] at g
      split at g
      · rename_i d e
        rw [Option.map_eq_some_iff] at e
        obtain ⟨c, e, rfl⟩ := e
        refine ix_seq value slice pins s σ H _ _ v u Q I rx ry (.inr (.inr ⟨_, _, c, rfl, rfl, by rw [sv_len, ← big_eq]; exact hl, ?_, g.same (.str [c]) si⟩)) hs
        rw [sv_list]; exact e
      · exact False.elim g
    · exact False.elim g
  | ref gp =>
    simp only [ixD] at g
    split at g
    · rename_i ds e
      obtain ⟨xs, e1, hr⟩ := si.lst e gp
      cases hy <;> try exact False.elim g
      simp only [getD'] at g
      split at g
      · rename_i d e
        obtain ⟨x, e2, q1⟩ := atI_V hr e
        exact ix_seq value slice pins s σ H _ _ v u Q I rx ry (.inl ⟨_, _, _, _, rfl, rfl, .inl (.inl e1), e2, g.same q1 si⟩) hs
      · exact False.elim g
    · split at g
      · rename_i kvs e
        obtain ⟨ks, e1, hr⟩ := si.dct e gp
        split at g
        · rename_i hc
          simp only [getD'] at g
          split at g
          · rename_i w e2
            obtain ⟨q, hq⟩ := keyD_some hc
            have hyq := keyD_V hq hy
            subst hyq
            obtain ⟨xv, e3, q1⟩ := (hr.get hq).1 w e2
            obtain rfl := (show v = Value.ref _ from rx)
            have dg := DGet.k (k := q) e1
            rw [e3] at dg
            exact tail_any (dict_typeIs I dg) PySem.F.slot_dict_getitem.lookup (d_getItem hu I dg ry fun w' s3 I3 rw' => ⟨xv, H, I3, rw', g.same q1 si⟩) hs
          · exact False.elim g
        · exact False.elim g
      · exact False.elim g
  | non => exact False.elim g
  | bl => exact False.elim g
  | int => exact False.elim g
  | fl a b => exact False.elim g

/-! ### slices -/
theorem sIx_eq (n d : Nat) (o : Option Int) : sIx n d o = HT.sIx n d o := by cases o <;> rfl
theorem cut_V {ds : List D} {xs : List V} (hr : RepVs K H r ds xs) (lo hi : Option Int) : RepVs K H r (cut ds lo hi) (cutV xs lo hi) := by
  unfold cut cutV
  rw [sIx_eq, sIx_eq, hr.length]
  exact (hr.drop _).take _
theorem cut_all {ds : List D} {xs : List V} (hr : RepVs K H r ds xs) {lo hi : Option Int} (h : HT.sIx xs.length 0 lo = 0 ∧ HT.sIx xs.length xs.length hi = xs.length) : cut ds lo hi = ds := by
  unfold cut
  rw [sIx_eq, sIx_eq, hr.length, h.1, h.2]
  rw [List.drop_zero, Nat.sub_zero, ← hr.length, List.take_length]
/-- the reading of a slice -/
def rS (K : Frag) : V → Option Int → Option Int → Hp → VK → Prop := fun x lo hi H Q => ∃ r S d, RepV K H r d x ∧ SI K H r S ∧ GoodN K r H (slD d lo hi S) Q
theorem cut_sv (t : List Nat) (lo hi : Option Int) : cutS (sv t) lo hi = sv (cut t lo hi) := by
  unfold cutS cut
  simp only [sv_len, sIx_eq]
  try rfl
theorem slE : SlR X (rS X.K) := by
  intro pins s σ H x v vl vu lo hi sl Q I rx hs pl pu ⟨r, S, d, hx, si, g⟩
  cases hx with
  | tup hq hr =>
    refine sl_tupA pins s σ H _ v vl vu lo hi sl Q I rx hs pl pu ⟨_, _, rfl, hq, fun h => ?_, fun _ => g.tup (cut_V hr lo hi) si⟩
    simp only [slD] at g
    rw [cut_all hr h] at g
    exact g.same (.tup hq hr) si
  | str t =>
    simp only [slD] at g
    split at g
    · rename_i hl
      refine sl_str pins s σ H _ v vl vu lo hi sl Q I rx hs pl pu ⟨_, rfl, by rw [sv_len, ← big_eq]; exact hl, ?_⟩
      rw [cut_sv]
      exact g.same (.str _) si
    · exact False.elim g
  | ref gp =>
    simp only [slD] at g
    split at g
    · rename_i ds e
      obtain ⟨xs, e1, hr⟩ := si.lst e gp
      exact sl_list pins s σ H _ v vl vu lo hi sl Q I rx hs pl pu ⟨_, _, rfl, .inl (.inl e1), g.lst (cut_V hr lo hi) si⟩
    · exact False.elim g
  | fl hq hr => exact sl_list pins s σ H _ v vl vu lo hi sl Q I rx hs pl pu ⟨_, _, rfl, hq.sq, g.lst (cut_V hr lo hi) si⟩
  | non => exact False.elim g
  | bl => exact False.elim g
  | int => exact False.elim g

/-! ### stores -/
def rP (K : Frag) : TSet := fun o i v H Q => ∃ r S d1 d2 d3 S', RepV K H r d1 o ∧ RepV K H r d2 i ∧ RepV K H r d3 v ∧ SI K H r S ∧ setD d1 d2 d3 S = some S' ∧ ∀ H', Xt r H r H' → SI K H' r S' → Q H'
theorem ixN_eq (n : Nat) (i : Int) : ixN n i = L2.ixN n i := rfl
theorem setE (hu : X.A.units + 1 < cLine) : PSet X (rP X.K) := by
  intro pins s σ H o i v ov iv u Q I ro ri rv ⟨r, S, d1, d2, d3, S', h1, h2, h3, si, e, q⟩
  cases h1 with
  | ref g =>
    simp only [setD] at e
    split at e
    · rename_i ds es
      obtain ⟨xs, e1, hr⟩ := si.lst' es g
      cases h2 <;> try (simp at e; done)
      simp only at e
      split at e
      · rename_i j ej
        cases e
        refine set_list pins s σ H _ _ v ov iv u Q I ro ri rv ⟨_, xs, _, j, rfl, rfl, e1, by rw [← hr.length]; exact ej, ?_⟩
        have ex := Xt.put (H := H) (u := .lst (xs.set j v)) (List.mem_of_getElem? g)
        exact q _ ex (si.put g ⟨_, upd_same, RepVs.set (RepVs.ext ex si.noTup _ _ hr) j (RepV.ext ex si.noTup _ _ h3)⟩)
      · cases e
    · rename_i kvs es
      obtain ⟨ks, e1, hr⟩ := si.dct es g
      split at e
      · rename_i hc
        rw [Bool.and_eq_true, decide_eq_true_eq] at hc
        cases e
        obtain ⟨k, hk⟩ := keyD_some hc.1
        have hik := keyD_V hk h2
        subst hik
        obtain rfl := (show ov = Value.ref _ from ro)
        have hl : ks.length < sizeLine := by rw [← hr.len, ← big_eq]; exact hc.2
        refine d_setItem hu I (DPut.k e1 hl) ri rv fun s3 I3 => ⟨_, I3, ?_⟩
        have ex := Xt.put (H := H) (u := .dK (putK ks k v)) (List.mem_of_getElem? g)
        exact q _ ex (si.put g ⟨_, upd_same, RepK.put (hr.ext ex si.noTup) hk (RepV.ext ex si.noTup _ _ h3)⟩)
      · cases e
    · cases e
  | non => simp [setD] at e
  | bl => simp [setD] at e
  | int => simp [setD] at e
  | str => simp [setD] at e
  | tup a b => simp [setD] at e
  | fl a b => simp [setD] at e
end
end Ev
end
section
/-! Built-in functions and methods. -/
namespace Ev
open PySem L2 PyProof.Rows
open PySem.W (Frag)

/-- the reading of a call of what is built in -/
def rN (K : Frag) (f : List D → Sto → Res D) : List V → Hp → VK → Prop := fun xs H Q => ∃ r S ds, RepVs K H r ds xs ∧ SI K H r S ∧ GoodN K r H (f ds S) Q
def rM (K : Frag) (f : D → List D → Sto → Res D) : V → List V → Hp → VK → Prop := fun x xs H Q => ∃ r S d ds, RepV K H r d x ∧ RepVs K H r ds xs ∧ SI K H r S ∧ GoodN K r H (f d ds S) Q

section
variable {K : Frag} {H : Hp} {r : List Addr}
theorem RepVs.one {d : D} {xs : List V} (h : RepVs K H r [d] xs) : ∃ x, xs = [x] ∧ RepV K H r d x := by
  cases h with | cons a b => cases b; exact ⟨_, rfl, a⟩
theorem RepVs.two {d e : D} {xs : List V} (h : RepVs K H r [d, e] xs) : ∃ x y, xs = [x, y] ∧ RepV K H r d x ∧ RepV K H r e y := by
  cases h with | cons a b => cases b with | cons b c => cases c; exact ⟨_, _, rfl, a, b⟩
theorem ints_V : ∀ {ds : List D} {is : List Int} {xs : List V}, intsD ds = some is → RepVs K H r ds xs → xs = is.map V.int
  | [], is, _, h, .nil => by simp [intsD] at h; subst h; rfl
  | d :: ds, is, _, h, .cons a b => by
    cases a <;> try (simp [intsD] at h)
    obtain ⟨js, h1, rfl⟩ := h
    rw [ints_V h1 b]; rfl
theorem strs_V : ∀ {ds : List D} {ss : List (List Nat)} {xs : List V}, strsD ds = some ss → RepVs K H r ds xs → xs = (ss.map sv).map V.str
  | [], is, _, h, .nil => by simp [strsD] at h; subst h; rfl
  | d :: ds, is, _, h, .cons a b => by
    cases a <;> try (simp [strsD] at h)
    obtain ⟨js, h1, rfl⟩ := h
    rw [strs_V h1 b]; rfl
theorem V_ints : ∀ (is : List Int), RepVs K H r (is.map .int) (is.map V.int)
  | [] => .nil
  | i :: is => .cons (.int i) (V_ints is)
theorem V_strs : ∀ (ss : List (List Nat)), RepVs K H r (ss.map .str) ((ss.map sv).map V.str)
  | [] => .nil
  | i :: is => .cons (.str i) (V_strs is)
theorem ints_len : ∀ {ds : List D} {is : List Int}, intsD ds = some is → is.length = ds.length
  | [], is, h => by simp [intsD] at h; subst h; rfl
  | d :: ds, is, h => by
    cases d <;> try (simp [intsD] at h)
    obtain ⟨js, h1, rfl⟩ := h
    simp [ints_len h1]
theorem strs_len : ∀ {ds : List D} {ss : List (List Nat)}, strsD ds = some ss → ss.length = ds.length
  | [], is, h => by simp [strsD] at h; subst h; rfl
  | d :: ds, is, h => by
    cases d <;> try (simp [strsD] at h)
    obtain ⟨js, h1, rfl⟩ := h
    simp [strs_len h1]
end

/-! ### sorting -/
theorem insI_perm (x : Int) : ∀ l, (insI x l).Perm (x :: l)
  | [] => .refl _
  | y :: r => by
    unfold insI; split
    · exact ((insI_perm x r).cons y).trans (.swap _ _ _)
    · exact .refl _
theorem sortI_perm : ∀ l, (sortI l).Perm l
  | [] => .refl _
  | x :: r => (insI_perm x _).trans ((sortI_perm r).cons x)
theorem insI_sorted (x : Int) : ∀ l, l.Pairwise (· ≤ ·) → (insI x l).Pairwise (· ≤ ·)
  | [], _ => by simp [insI]
  | y :: r, h => by
    have h' := List.pairwise_cons.mp h
    unfold insI; split
    · rename_i hy
      refine List.pairwise_cons.mpr ⟨fun a ha => ?_, insI_sorted x r h'.2⟩
      rcases List.mem_cons.mp ((insI_perm x r).mem_iff.mp ha) with rfl | ha
      · omega
      · exact h'.1 a ha
    · rename_i hy
      refine List.pairwise_cons.mpr ⟨fun a ha => ?_, h⟩
      rcases List.mem_cons.mp ha with rfl | ha
      · omega
      · have := h'.1 a ha; omega
theorem sortI_sorted : ∀ l, (sortI l).Pairwise (· ≤ ·)
  | [] => .nil
  | x :: r => insI_sorted x _ (sortI_sorted r)
theorem sortI_eq {l ns : List Int} (hp : ns.Perm l) (hs : ns.Pairwise (· ≤ ·)) : ns = sortI l :=
  List.Perm.eq_of_pairwise (le := (· ≤ ·)) (fun a b _ _ h1 h2 => by omega) hs (sortI_sorted l) (hp.trans (sortI_perm l).symm)

theorem ltS_eq : ∀ a b, PySem.Spec.ltCps a b = ltS a b
  | [], [] => rfl
  | [], _ :: _ => rfl
  | _ :: _, [] => rfl
  | a :: r, b :: s => by
    simp only [PySem.Spec.ltCps, ltS, ltS_eq r s]
    rw [show (a == b) = decide (a = b) from Bool.beq_eq_decide_eq a b]
theorem ltS_irrefl : ∀ a, ltS a a = false
  | [] => rfl
  | a :: r => by simp [ltS, ltS_irrefl r]
theorem ltS_trans : ∀ a b c, ltS a b = true → ltS b c = true → ltS a c = true
  | [], [], _, h, _ => by simp [ltS] at h
  | [], _ :: _, [], _, h => by simp [ltS] at h
  | [], _ :: _, _ :: _, _, _ => rfl
  | _ :: _, [], _, h, _ => by simp [ltS] at h
  | _ :: _, _ :: _, [], _, h => by simp [ltS] at h
  | a :: r, b :: s, c :: t, h, g => by
    simp only [ltS, Bool.or_eq_true, Bool.and_eq_true, decide_eq_true_eq] at h g ⊢
    rcases h with h | ⟨h, h'⟩ <;> rcases g with g | ⟨g, g'⟩
    · exact .inl (by omega)
    · exact .inl (by omega)
    · exact .inl (by omega)
    · exact .inr ⟨by omega, ltS_trans r s t h' g'⟩
theorem ltS_tri : ∀ a b, ltS a b = false → ltS b a = false → a = b
  | [], [], _, _ => rfl
  | [], _ :: _, h, _ => by simp [ltS] at h
  | _ :: _, [], _, h => by simp [ltS] at h
  | a :: r, b :: s, h, g => by
    simp only [ltS, Bool.or_eq_false_iff, Bool.and_eq_false_iff, decide_eq_false_iff_not] at h g
    have e : a = b := by omega
    subst e
    have h' := h.2.resolve_left (by simp)
    have g' := g.2.resolve_left (by simp)
    rw [ltS_tri r s h' g']
/-- not after -/
def leS (a b : List Nat) : Prop := ltS b a = false
theorem leS_trans {a b c : List Nat} (h : leS a b) (g : leS b c) : leS a c := by
  unfold leS at *
  cases e : ltS c a with
  | false => rfl
  | true =>
    cases e2 : ltS a b with
    | true => rw [ltS_trans c a b e e2] at g; cases g
    | false => rw [ltS_tri b a h e2] at g; rw [e] at g; cases g
theorem leS_total (a b : List Nat) (h : ltS a b = true) : leS a b := by
  unfold leS
  cases e : ltS b a with
  | false => rfl
  | true => rw [← ltS_irrefl a]; exact (ltS_trans a b a h e).symm
theorem insS_perm (x : List Nat) : ∀ l, (insS x l).Perm (x :: l)
  | [] => .refl _
  | y :: r => by
    unfold insS; split
    · exact ((insS_perm x r).cons y).trans (.swap _ _ _)
    · exact .refl _
theorem sortS_perm : ∀ l, (sortS l).Perm l
  | [] => .refl _
  | x :: r => (insS_perm x _).trans ((sortS_perm r).cons x)
theorem insS_sorted (x : List Nat) : ∀ l, l.Pairwise leS → (insS x l).Pairwise leS
  | [], _ => by simp [insS]
  | y :: r, h => by
    have h' := List.pairwise_cons.mp h
    unfold insS; split
    · rename_i hy
      refine List.pairwise_cons.mpr ⟨fun a ha => ?_, insS_sorted x r h'.2⟩
      rcases List.mem_cons.mp ((insS_perm x r).mem_iff.mp ha) with rfl | ha
      · exact leS_total _ _ hy
      · exact h'.1 a ha
    · rename_i hy
      have hy' : leS x y := by unfold leS; simpa using hy
      refine List.pairwise_cons.mpr ⟨fun a ha => ?_, h⟩
      rcases List.mem_cons.mp ha with rfl | ha
      · exact hy'
      · exact leS_trans hy' (h'.1 a ha)
theorem sortS_sorted : ∀ l, (sortS l).Pairwise leS
  | [] => .nil
  | x :: r => insS_sorted x _ (sortS_sorted r)
theorem rising_pair : ∀ (p : Str) (l : List Str), risingS p l = true → (p :: l).Pairwise (fun a b => leS a.cps.toList b.cps.toList)
  | p, [], _ => by simp
  | p, x :: r, h => by
    simp only [risingS, Bool.and_eq_true, Bool.not_eq_true'] at h
    have ih := rising_pair x r h.2
    have h1 : leS p.cps.toList x.cps.toList := by unfold leS; rw [← ltS_eq]; exact h.1
    refine List.pairwise_cons.mpr ⟨fun a ha => ?_, ih⟩
    rcases List.mem_cons.mp ha with rfl | ha
    · exact h1
    · exact leS_trans h1 ((List.pairwise_cons.mp ih).1 a ha)
theorem sortedS_pair : ∀ (l : List Str), sortedS l = true → l.Pairwise (fun a b => leS a.cps.toList b.cps.toList)
  | [], _ => .nil
  | x :: r, h => rising_pair x r h
theorem sortS_eq {l : List (List Nat)} {ys : List Str} (hp : ys.Perm (l.map sv)) (hs : sortedS ys = true) : ys = (sortS l).map sv := by
  have h1 : (ys.map (fun a => a.cps.toList)).Pairwise leS := List.pairwise_map.mpr (sortedS_pair ys hs)
  have h2 : (ys.map (fun a => a.cps.toList)).Perm l := by
    have := hp.map (fun a => a.cps.toList)
    rw [List.map_map] at this
    rwa [show ((fun a : Str => a.cps.toList) ∘ sv) = id from funext fun a => sv_list a, List.map_id] at this
  have h3 : ys.map (fun a => a.cps.toList) = sortS l := List.Perm.eq_of_pairwise (le := leS) (fun a b _ _ h1 h2 => ltS_tri a b h2 h1) h1 (sortS_sorted l) (h2.trans (sortS_perm l).symm)
  rw [← h3, List.map_map, show (sv ∘ (fun a : Str => a.cps.toList)) = id from funext fun a => sv_cps a, List.map_id]

theorem maxI_spec : ∀ (l : List Int) (m : Int), maxI m l ∈ m :: l ∧ ∀ y ∈ m :: l, y ≤ maxI m l
  | [], m => by simp [maxI]
  | x :: r, m => by
    have h := maxI_spec r (if x > m then x else m)
    unfold maxI
    constructor
    · rcases List.mem_cons.mp h.1 with e | e
      · rw [e]; split <;> simp
      · exact List.mem_cons_of_mem _ (List.mem_cons_of_mem _ e)
    · intro y hy
      have h0 := h.2 _ (List.mem_cons_self ..)
      rcases List.mem_cons.mp hy with rfl | hy
      · by_cases c : x > y
        · rw [if_pos c] at h0 ⊢; omega
        · rw [if_neg c] at h0 ⊢; exact h0
      · rcases List.mem_cons.mp hy with rfl | hy
        · by_cases c : y > m
          · rw [if_pos c] at h0 ⊢; exact h0
          · rw [if_neg c] at h0 ⊢; omega
        · exact h.2 y (List.mem_cons_of_mem _ hy)
theorem minI_spec : ∀ (l : List Int) (m : Int), minI m l ∈ m :: l ∧ ∀ y ∈ m :: l, minI m l ≤ y
  | [], m => by simp [minI]
  | x :: r, m => by
    have h := minI_spec r (if x < m then x else m)
    unfold minI
    constructor
    · rcases List.mem_cons.mp h.1 with e | e
      · rw [e]; split <;> simp
      · exact List.mem_cons_of_mem _ (List.mem_cons_of_mem _ e)
    · intro y hy
      have h0 := h.2 _ (List.mem_cons_self ..)
      rcases List.mem_cons.mp hy with rfl | hy
      · by_cases c : x < y
        · rw [if_pos c] at h0 ⊢; omega
        · rw [if_neg c] at h0 ⊢; exact h0
      · rcases List.mem_cons.mp hy with rfl | hy
        · by_cases c : y < m
          · rw [if_pos c] at h0 ⊢; exact h0
          · rw [if_neg c] at h0 ⊢; omega
        · exact h.2 y (List.mem_cons_of_mem _ hy)

/-! ### functions -/
def biV : BI → Value
  | .len => .builtin "len" | .abs => .builtin "abs" | .int => .type "int" | .max2 => .builtin "max" | .min2 => .builtin "min" | .tuple => .type "tuple"
  | .list => .type "list" | .sorted => .builtin "sorted" | .sum => .builtin "sum" | .maxl => .builtin "max" | .minl => .builtin "min"
section
variable {X : Cx}
theorem biE (hc : X.calm = true) (f : BI) : CallR X (biV f) (rN X.K (biD f)) := by
  intro pins s σ H xs us Q I rv ⟨r, S, ds, hr, si, g⟩
  cases f with
  | len =>
    cases hr with
    | nil => exact False.elim g
    | cons a b =>
      cases b with
      | cons _ _ => exact False.elim g
      | nil =>
        refine call_len pins s σ H _ us Q I rv ?_
        simp only [biD] at g
        cases a with
        | str t =>
          simp only at g
          split at g
          · rename_i h
            exact ⟨_, _, rfl, ⟨by rw [sv_len, ← big_eq]; exact h, rfl⟩, by rw [sv_len]; exact g.same (.int _) si⟩
          · exact False.elim g
        | tup q q2 => exact ⟨_, _, rfl, .inr ⟨_, q, rfl⟩, by rw [← q2.length]; exact g.same (.int _) si⟩
        | ref q =>
          simp only at g
          split at g
          · rename_i ys e
            obtain ⟨zs, e1, hz⟩ := si.lst e q
            exact ⟨_, _, rfl, .inl ⟨_, SqL.of e1, rfl⟩, by rw [← hz.length]; exact g.same (.int _) si⟩
          · exact False.elim g
        | non => exact False.elim g
        | bl => exact False.elim g
        | int => exact False.elim g
        | fl => exact False.elim g
  | abs =>
    cases hr with
    | nil => exact False.elim g
    | cons a b =>
      cases b with
      | cons _ _ => cases a <;> exact False.elim g
      | nil =>
        cases a <;> try exact False.elim g
        exact call_abs pins s σ H _ us Q I rv ⟨_, rfl, g.same (.int _) si⟩
  | int =>
    cases hr with
    | nil => exact False.elim g
    | cons a b =>
      cases b with
      | cons _ _ => cases a <;> exact False.elim g
      | nil =>
        cases a <;> try exact False.elim g
        · exact call_int1 pins s σ H _ us Q I rv (.inr ⟨_, rfl, g.same (.int _) si⟩)
        · exact call_int1 pins s σ H _ us Q I rv (.inl ⟨_, rfl, g.same (.int _) si⟩)
  | max2 =>
    cases hr with
    | nil => exact False.elim g
    | cons a b =>
      cases b with
      | nil => cases a <;> exact False.elim g
      | cons b c =>
        cases c with
        | cons _ _ => cases a <;> cases b <;> exact False.elim g
        | nil =>
          cases a <;> cases b <;> try exact False.elim g
          exact call_max2 hc pins s σ H _ us Q I rv ⟨_, _, rfl, g.same (.int _) si⟩
  | min2 =>
    cases hr with
    | nil => exact False.elim g
    | cons a b =>
      cases b with
      | nil => cases a <;> exact False.elim g
      | cons b c =>
        cases c with
        | cons _ _ => cases a <;> cases b <;> exact False.elim g
        | nil =>
          cases a <;> cases b <;> try exact False.elim g
          exact call_min2 hc pins s σ H _ us Q I rv ⟨_, _, rfl, g.same (.int _) si⟩
  | tuple =>
    cases hr with
    | nil => exact False.elim g
    | cons a b =>
      cases b with
      | cons _ _ => exact False.elim g
      | nil =>
        simp only [biD] at g
        cases a with
        | tup q q2 => exact call_tuple_of pins s σ H _ us Q I rv ⟨_, _, rfl, .inr ⟨q, g.same (.tup q q2) si⟩⟩
        | ref q =>
          simp only at g
          split at g
          · rename_i ys e
            obtain ⟨zs, e1, hz⟩ := si.lst e q
            exact call_tuple_of pins s σ H _ us Q I rv ⟨_, _, rfl, .inl ⟨SqL.of e1, g.tup hz si⟩⟩
          · exact False.elim g
        | non => exact False.elim g
        | bl => exact False.elim g
        | int => exact False.elim g
        | str => exact False.elim g
        | fl => exact False.elim g
  | list =>
    cases hr with
    | nil => exact False.elim g
    | cons a b =>
      cases b with
      | cons _ _ => exact False.elim g
      | nil =>
        simp only [biD] at g
        cases a with
        | tup q q2 => exact call_list_of pins s σ H _ us Q I rv ⟨_, _, rfl, .inr q, g.lst q2 si⟩
        | ref q =>
          simp only at g
          split at g
          · rename_i ys e
            obtain ⟨zs, e1, hz⟩ := si.lst e q
            exact call_list_of pins s σ H _ us Q I rv ⟨_, _, rfl, .inl (SqL.of e1), g.lst hz si⟩
          · exact False.elim g
        | non => exact False.elim g
        | bl => exact False.elim g
        | int => exact False.elim g
        | str => exact False.elim g
        | fl => exact False.elim g
  | sorted =>
    cases hr with
    | nil => exact False.elim g
    | cons a b =>
      cases b with
      | cons _ _ => cases a <;> exact False.elim g
      | nil =>
        cases a <;> try exact False.elim g
        rename_i n p q
        simp only [biD] at g
        split at g
        · rename_i ys e
          obtain ⟨zs, e1, hz⟩ := si.lst e q
          unfold sortedD at g
          split at g
          · rename_i h64
            split at g
            · rename_i ss e2
              have ez := strs_V e2 hz
              subst ez
              refine cr_sortedS pins s σ H _ us Q I rv ⟨_, _, rfl, SqL.of e1, by rw [List.length_map, strs_len e2]; exact h64, fun ys p h1 h2 h3 => ?_⟩
              rw [sortS_eq h1 h2]
              exact g.lst (V_strs _) si p h3
            · split at g
              · rename_i is e2
                have ez := ints_V e2 hz
                subst ez
                refine cr_sorted pins s σ H _ us Q I rv ⟨_, _, rfl, SqL.of e1, by rw [ints_len e2]; exact h64, fun ys p h1 h2 h3 => ?_⟩
                rw [sortI_eq h1 h2]
                exact g.lst (V_ints _) si p h3
              · exact False.elim g
          · exact False.elim g
        · split at g
          · rename_i kvs e
            obtain ⟨ks, e1, hk⟩ := si.dct e q
            split at g
            · rename_i ss e2
              split at g
              · rename_i h64
                have hks : ∀ {kvs : List (D × D)} {ks : List (Key × V)} {ss : List (List Nat)}, strsD (kvs.map (·.1)) = some ss → RepK X.K H r kvs ks → ks.map (·.1) = (ss.map sv).map Sum.inr := by
                  intro kvs
                  induction kvs with
                  | nil => intro ks ss e h; cases h; simp [strsD] at e; subst e; rfl
                  | cons a kvs ih =>
                    intro ks ss e h
                    cases h with
                    | cons hk hv hr =>
                      rename_i k v q x qs
                      cases k <;> simp [strsD] at e
                      obtain ⟨js, h1, rfl⟩ := e
                      simp only [keyD, Option.some.injEq] at hk
                      subst hk
                      simp only [List.map_cons, ih h1 hr]
                refine call_sortedD hc pins s σ H _ us Q I rv ⟨_, _, _, rfl, .inl e1, hks e2 hk, by rw [List.length_map]; exact h64, fun ys p h1 h2 h3 => ?_⟩
                rw [sortS_eq h1 h2]
                exact g.lst (V_strs _) si p h3
              · exact False.elim g
            · exact False.elim g
          · exact False.elim g
  | sum =>
    cases hr with
    | nil => exact False.elim g
    | cons a b =>
      cases b with
      | cons _ _ => cases a <;> exact False.elim g
      | nil =>
        cases a <;> try exact False.elim g
        rename_i n p q
        simp only [biD] at g
        split at g
        · rename_i ys e
          obtain ⟨zs, e1, hz⟩ := si.lst e q
          split at g
          · rename_i is e2
            have ez := ints_V e2 hz
            subst ez
            exact cr_sum hc pins s σ H _ us Q I rv ⟨_, _, rfl, SqL.of e1, g.same (.int _) si⟩
          · exact False.elim g
        · exact False.elim g
  | maxl =>
    cases hr with
    | nil => exact False.elim g
    | cons a b =>
      cases b with
      | cons _ _ => cases a <;> exact False.elim g
      | nil =>
        cases a <;> try exact False.elim g
        rename_i n p q
        simp only [biD] at g
        split at g
        · rename_i ys e
          obtain ⟨zs, e1, hz⟩ := si.lst e q
          split at g
          · rename_i i is e2
            have ez := ints_V e2 hz
            subst ez
            refine cr_max hc pins s σ H _ us Q I rv ⟨_, _, rfl, SqL.of e1, by simp, fun m h1 h2 => ?_⟩
            obtain ⟨h3, h4⟩ := maxI_spec is i
            rw [show m = maxI i is from Int.le_antisymm (h4 m h1) (h2 _ h3)]
            exact g.same (.int _) si
          · exact False.elim g
        · exact False.elim g
  | minl =>
    cases hr with
    | nil => exact False.elim g
    | cons a b =>
      cases b with
      | cons _ _ => cases a <;> exact False.elim g
      | nil =>
        cases a <;> try exact False.elim g
        rename_i n p q
        simp only [biD] at g
        split at g
        · rename_i ys e
          obtain ⟨zs, e1, hz⟩ := si.lst e q
          split at g
          · rename_i i is e2
            have ez := ints_V e2 hz
            subst ez
            refine cr_min hc pins s σ H _ us Q I rv ⟨_, _, rfl, SqL.of e1, by simp, fun m h1 h2 => ?_⟩
            obtain ⟨h3, h4⟩ := minI_spec is i
            rw [show m = minI i is from Int.le_antisymm (h2 _ h3) (h4 m h1)]
            exact g.same (.int _) si
          · exact False.elim g
        · exact False.elim g

/-! ### methods -/
theorem idx_spec (c : Nat) : ∀ (s : List Nat) (j : Nat), idx c s = some j → s[j]? = some c ∧ ∀ k, k < j → s[k]? ≠ some c
  | [], j, h => by simp [idx] at h
  | a :: r, j, h => by
    unfold idx at h
    split at h
    · rename_i e; cases h; exact ⟨by simp [e], fun k hk => by omega⟩
    · rename_i e
      cases hj : idx c r with
      | none => rw [hj] at h; simp at h
      | some i =>
        rw [hj] at h; simp at h; subst h
        obtain ⟨h1, h2⟩ := idx_spec c r i hj
        refine ⟨by simpa using h1, fun k hk => ?_⟩
        cases k with
        | zero => simpa using e
        | succ k => simpa using h2 k (by omega)
theorem occ_idx {c j : Nat} {s : List Nat} (h : idx c s = some j) : ∃ rest, Builtin.Str.occurrences (sv s) (sv [c]) 0 (sv s).length 1 = j :: rest := by
  obtain ⟨h1, h2⟩ := idx_spec c s j h
  have at_iff : ∀ i, StrLaws.At (sv s) (sv [c]) (sv s).length i ↔ s[i]? = some c := fun i => by
    have := StrLaws.subAt_one (sv s) c i
    rw [sv_list] at this
    exact this
  rcases StrLaws.occ_head (sv s) (sv [c]) 1 (Nat.le_refl _) with ⟨h0, hn⟩ | ⟨i, rest, e, ha, hl⟩
  · exact absurd ((at_iff j).mpr h1) (hn j)
  · have hi := (at_iff i).mp ha
    have : i = j := by
      rcases Nat.lt_trichotomy i j with q | q | q
      · exact absurd hi (h2 i q)
      · exact q
      · exact absurd ((at_iff j).mpr h1) (hl j q)
    subst this
    exact ⟨rest, e⟩
theorem idxD_V {K : Frag} {H : Hp} {r : List Addr} {d : D} {x : V} (hd : flat d = true) (hx : RepV K H r d x) : ∀ {ds : List D} {xs : List V} {j : Nat}, ds.all flat = true → RepVs K H r ds xs → idxD d ds = some j →
    ∃ z, xs[j]? = some z ∧ eqV z x = true ∧ ∀ (m : Nat) (z' : V), m < j → xs[m]? = some z' → eqV z' x = false
  | [], _, j, _, _, h => by simp [idxD] at h
  | a :: ds, _, j, hf, .cons ha hr, h => by
    have hf' := hf
    simp only [List.all_cons, Bool.and_eq_true] at hf'
    unfold idxD at h
    have e0 := eqv_V hf'.1 hd ha hx
    split at h
    · rename_i e; cases h; exact ⟨_, rfl, by rw [e0]; exact e, fun m z' hm => by omega⟩
    · rename_i e
      cases hj : idxD d ds with
      | none => rw [hj] at h; simp at h
      | some i =>
        rw [hj] at h; simp at h; subst h
        obtain ⟨z, h1, h2, h3⟩ := idxD_V hd hx hf'.2 hr hj
        refine ⟨z, by simpa using h1, h2, fun m z' hm q => ?_⟩
        cases m with
        | zero => simp at q; subst q; rw [e0]; simpa using e
        | succ m => exact h3 m z' (by omega) (by simpa using q)

theorem me_append : MtR X "list.append" (rM X.K (meD .append)) := by
  intro pins s σ H x xs v us Q I rx rv ⟨r, S, d, ds, hd, hr, si, g⟩
  cases hd with
  | ref q =>
    cases hr with
    | nil => exact False.elim g
    | cons a b =>
      cases b with
      | cons _ _ => exact False.elim g
      | nil =>
        simp only [meD] at g
        split at g
        · rename_i ys e
          split at g
          · rename_i hl
            obtain ⟨zs, e1, hz⟩ := si.lst' e q
            have hm := List.mem_of_getElem? q
            refine mt_append pins s σ H _ _ v us Q I rx rv ⟨_, zs, _, rfl, rfl, e1, by rw [← hz.length, ← big_eq]; exact hl, g r _ _ (Xt.put hm) .non (si.put q ⟨_, upd_same, ?_⟩)⟩
            exact (RepVs.ext (Xt.put hm) si.noTup _ _ hz).append (.cons (RepV.ext (Xt.put hm) si.noTup _ _ a) .nil)
          · exact False.elim g
        · exact False.elim g
  | non => exact False.elim g
  | bl => exact False.elim g
  | int => exact False.elim g
  | str => exact False.elim g
  | tup => exact False.elim g
  | fl => exact False.elim g
theorem me_sindex : MtR X "str.index" (fun x xs H Q => (∃ s, x = .str s) ∧ rM X.K (meD .index) x xs H Q) := by
  intro pins s σ H x xs v us Q I rx rv ⟨⟨t, et⟩, r, S, d, ds, hd, hr, si, g⟩
  subst et
  cases hd with
  | str s' =>
    cases hr with
    | nil => exact False.elim g
    | cons a b =>
      cases b with
      | cons _ _ => cases a <;> first | exact False.elim g | (rename_i t; match t with | [] => exact False.elim g | [_] => exact False.elim g | _ :: _ :: _ => exact False.elim g)
      | nil =>
        cases a with
        | str t =>
          match t, g, rv with
          | [], g, _ => exact False.elim g
          | _ :: _ :: _, g, _ => exact False.elim g
          | [c], g, rv =>
            simp only [meD] at g
            split at g
            · rename_i j e
              obtain ⟨rest, e'⟩ := occ_idx e
              exact mt_sindex pins s σ H _ _ v us Q I rx rv ⟨_, _, j, rest, rfl, rfl, e', g.same (.int _) si⟩
            · exact False.elim g
        | non => exact False.elim g
        | bl => exact False.elim g
        | int => exact False.elim g
        | ref => exact False.elim g
        | tup => exact False.elim g
        | fl => exact False.elim g
theorem me_lindex : MtR X "list.index" (fun x xs H Q => (∃ a, x = .ref a) ∧ rM X.K (meD .index) x xs H Q) := by
  intro pins s σ H x xs v us Q I rx rv ⟨⟨t, et⟩, r, S, d, ds, hd, hr, si, g⟩
  subst et
  cases hd with
  | ref q =>
    cases hr with
    | nil => exact False.elim g
    | cons a b =>
      cases b with
      | cons _ _ => exact False.elim g
      | nil =>
        simp only [meD] at g
        split at g
        · rename_i ys e
          obtain ⟨zs, e1, hz⟩ := si.lst e q
          split at g
          · rename_i hf
            simp only [Bool.and_eq_true] at hf
            split at g
            · rename_i j ej
              obtain ⟨z, h1, h2, h3⟩ := idxD_V hf.1 a hf.2 hz ej
              exact mt_index pins s σ H _ _ v us Q I rx rv ⟨_, _, _, j, z, rfl, rfl, SqL.of e1, flat_V hf.1 a, flat_Vs hf.2 hz, h1, h2, h3, g.same (.int _) si⟩
            · exact False.elim g
          · exact False.elim g
        · exact False.elim g
  | tup => simp only [meD] at g; exact False.elim g
  | fl => simp only [meD] at g; exact False.elim g
end
end Ev
end
section
/-! enumerate of a tuple. -/
namespace Ev
open PySem L2 PyProof.Rows
open PySem.W (Frag)

set_option maxHeartbeats 1000000 in
theorem meets_enum1 {v : Value} {o : Obj} {H : Heap → Prop} (B : Begins v o H) :
    Meets (Builtin.«enumerate.__new__» ⟨[.type "enumerate", v], []⟩) (fun _ R s => H s.heap ∧
      R (.ok (.ret (.ref (s.heap.push o).objs.size))) { s with heap := (s.heap.push o).push { cls := .type "enumerate", data := .fields #[.none, .bool false, .ref s.heap.objs.size, rawInt 0, .none, .none] } }) :=
  .of_wp fun prog w A R s h => by
    obtain ⟨hp, g, d, tk, os⟩ := s; obtain ⟨h1, h⟩ := h
    have hsub := sub_enumerate
    have q1 : ∀ {A' : Around} {E : Value → Shared → Prop} {Q : Value → Shared → Prop}, Q (.ref hp.objs.size) ⟨hp.push o, g, d, tk, os⟩ → wpAny (model prog w) A' (pyIter v) Q E ⟨hp, g, d, tk, os⟩ :=
      fun q => B.iter prog w _ _ ⟨hp, g, d, tk, os⟩ _ h1 q
    wp_walk using q1
    refine wpAny_stack_any fun st => wpAny_pure ?_
    split
    · rename_i c _ _ _ _ _
      cases (c == Value.type "enumerate")
      · wp_walk using q1
        exact ⟨_, rfl, h⟩
      · wp_walk using q1
        exact ⟨_, rfl, h⟩
    · wp_walk using q1
      exact ⟨_, rfl, h⟩
section
variable {prog : Program} {w : World} {A : Around} {E : Value → Shared → Prop} {s : Shared}
theorem enum1_begins {v : Value} {o : Obj} {H : Heap → Prop} {Q : Value → Shared → Prop} (B : Begins v o H) (h1 : H s.heap)
    (h : ∀ h', IsEnum h' (s.heap.objs.size + 1) s.heap.objs.size 0 .none → h'.get? s.heap.objs.size = some o → h'.objs.size = s.heap.objs.size + 2 →
      (∀ b o, s.heap.get? b = some o → h'.get? b = some o) → Q (.ref (s.heap.objs.size + 1)) { s with heap := h' }) :
    wpAny (model prog w) A (call (.type "enumerate") [v]) Q E s := by
  refine callType_new F.called_enumerate (by decide) (F.typeCall_enumerate_1 _) (F.newCall_enumerate_1 _) (fun obj => F.args_object_init_2 obj _) F.entry_enumerate_new
    (meets_enum1 B) ⟨h1, ?_⟩
  have hz : (s.heap.push o).objs.size = s.heap.objs.size + 1 := Heap.size_push ..
  show _ ∧ _
  rw [hz]
  have he : IsEnum ((s.heap.push o).push { cls := .type "enumerate", data := .fields #[.none, .bool false, .ref s.heap.objs.size, rawInt 0, .none, .none] }) (s.heap.objs.size + 1) s.heap.objs.size 0 .none := by
    have := Heap.get?_push_size (s.heap.push o) (o := { cls := .type "enumerate", data := .fields #[.none, .bool false, .ref s.heap.objs.size, rawInt 0, .none, .none] }) rfl
    rw [hz] at this; exact this
  refine ⟨⟨_, he, rfl⟩, h _ he (Heap.get?_push_of_some _ (Heap.get?_push_size _ B.free)) (by rw [Heap.size_push, hz]) fun b o x => Heap.get?_push_of_some _ (Heap.get?_push_of_some _ x)⟩
end
/-- the tuple at a as it stands at each turn, each item in a new pair -/
def Itet (K : Frag) (a : Addr) : It :=
  ⟨fun i H => ∃ (xs : List V) (x : V), SqT K H a xs ∧ xs[i]? = some x, fun i H v H' => ∃ T x, v = .ref T ∧ H T = none ∧ H' = upd H T (.tup [.int (i : Nat), x]) ∧ ∀ xs, SqT K H a xs → xs[i]? = some x, fun i H => ∃ xs : List V, SqT K H a xs ∧ xs.length ≤ i⟩
theorem turn_enumT {P : Program} {w : World} {K : Frag} {elts : List Expr} {kk : Nat} {tpos : Pos} (a e it : Addr) (ne : e ≠ it ∧ e ≠ a ∧ a ≠ it) :
    Turn P w K (.Tuple elts kk tpos) (Itet K a) [e, it] e (fun i h => (∃ old, IsEnum h e it (i : Int) old) ∧ h.IsTupleIter it a i) where
  mem := List.mem_cons_self ..
  obj := by
    rintro i h ⟨⟨_, h1⟩, o, h2, _, h3⟩ b hb
    simp only [List.mem_cons, List.not_mem_nil, or_false] at hb
    rcases hb with rfl | rfl
    · exact ⟨_, h1, fun _ z => by cases z⟩
    · exact ⟨o, h2, fun _ z => by rw [h3] at z; cases z⟩
  keep := by
    rintro i h h' ⟨⟨old, h1⟩, h2⟩ k
    exact ⟨⟨old, k e (List.mem_cons_self ..) _ h1⟩, h2.at fun o q => k it (by simp) o q⟩
  item := by
    rintro X rfl rfl rfl hc i pins s σ H E I hf ⟨h1, h2⟩ ⟨xs, x, hq, hx⟩
    obtain ⟨its, rv, tp, _⟩ := I.tuple hq
    have tp' : s.heap.IsTuple a its.toArray := tp
    obtain ⟨u, hu, ru⟩ := rv.get hx
    have le : ∀ b ∈ [e, it], b < s.heap.objs.size := fun b hb => by
      simp only [List.mem_cons, List.not_mem_nil, or_false] at hb
      rcases hb with rfl | rfl
      · obtain ⟨_, z⟩ := h1; exact Heap.lt_size z
      · obtain ⟨_, z, _⟩ := h2; exact Heap.lt_size z
    have W := WalksT.enumerateD (Draws.tuple (prog := X.prog) (w := X.w) (A := X.A.in1) (I.ok.hd hc) it a ne.2.2 its.toArray) e ne.1 (by simp [ne.1, ne.2.1]) (by simp)
    have lt : i < its.toArray.size := by simpa using (List.getElem?_eq_some_iff.mp hu).1
    refine W.item i s _ _ lt ⟨h1, h2, tp'⟩ fun T vals h' tk pv hT isT mid k1 => ⟨_, rfl, W.go elts kk tpos i T { s with heap := h', toks := tk } _ _ mid fun h'' st k2 => ?_⟩
    obtain ⟨t, z, hz, rfl⟩ := pv
    obtain rfl : z = u := by
      have z1 : its[i]? = some z := by simpa using hz
      rw [hu] at z1; exact (Option.some.inj z1).symm
    obtain ⟨ob, ho, hcl, nn, hd⟩ := isT
    have hne : T ∉ [e, it] := fun m => Nat.lt_irrefl _ (Nat.lt_of_lt_of_le (le T m) hT)
    have new : ObjOk X.prog X.w (upd H T (.tup [.int (i : Nat), x])) h'' T (.tup [.int (i : Nat), x]) :=
      ⟨by show 2 ≤ sizeLine; decide, [.int i t, z], .cons ⟨t, rfl⟩ (.cons ru .nil), ⟨ob, k2 T ob hne ho, hcl, nn, hd⟩⟩
    refine ⟨.ref T, upd H T (.tup [.int (i : Nat), x]), I.turnedNew (ch := [e, it]) (fun b o hb q => k2 b o hb (k1 b o hb q)) hf hT new, rfl, ?_, ⟨?_, st.2.1⟩, fun b hb => ?_⟩
    · exact ⟨T, x, rfl, I.hok.fresh hT, rfl, fun ys hy => by rw [I.tuple_inj hy hq]; exact hx⟩
    · obtain ⟨old, z⟩ := st.1; exact ⟨old, z⟩
    · rw [upd_ne (Nat.ne_of_lt (Nat.lt_of_lt_of_le (le b hb) hT))]; exact (hf b hb).1
  done := by
    rintro X rfl rfl rfl hc i pins s σ H E I hf ⟨⟨old, h1⟩, h2⟩ ⟨xs, hq, hx⟩
    obtain ⟨its, rv, tp, _⟩ := I.tuple hq
    have tp' : s.heap.IsTuple a its.toArray := tp
    have fi := hf it (by simp)
    have ty : s.TypeIs (.ref e) "enumerate" := ⟨_, h1, rfl⟩
    have no : its.toArray[i]? = none := by have := rv.length; simp; omega
    unfold pyNext
    refine wpAny_bind (wpAny_attempt (wpAny_callSpecial?_slot (name := Str.ofString "__next__") ty PySem.F.slot_enumerate_next (wpAny_call_entry PySem.F.slot_enumerate_next ty PySem.F.entry_enumerate_next ?_ (PySem.F.args_enumerate_next_1 _))))
    show wpAny _ _ (field (.ref e) 2 >>= _) _ _ _
    refine wpAny_bind (wpAny_field h1 rfl (x := .ref it) rfl (wpAny_bind (wpAny_nextOf_tuple_end (I.ok.hd hc) h2 tp' no fun h' x eb isx => ?_)))
    obtain ⟨o, ho, hcl⟩ := isx
    refine wpAny_bind (wpAny_isInstance (T := "StopIteration") (b := true) ⟨o, ho, hcl⟩ isSubtype_stop (wpAny_pure ⟨rfl, ?_⟩))
    exact I.turned (t' := s.toks) (fun b o hb q => eb b o hb q) fi.1 fi.2.1 fi.2.2.2.1 fi.2.2.2.2.1 fi.2.2.2.2.2
  self := fun A i s Q E st h => by obtain ⟨⟨_, z⟩, _⟩ := st; exact wpAny_pyIter_enum z h
def iEnumT (K : Frag) (ta : TA) : TI := fun σ H R => ta σ H fun vs H1 => ∃ a xs, vs = [.ref a] ∧ SqT K H1 a xs ∧ R (Itet K a) H1
theorem pi_enumT {X : Cx} {e : Expr} {ta : TA} {p pos tpos : Pos} {elts : List Expr} {kk : Nat} (hg : Gl X "enumerate") (hm : X.mg "enumerate" = none) (ha : PA X [e] ta) (hs : starEach [e] X.env = [(false, eval e X.env)] := by rfl) :
    PI X (.Tuple elts kk tpos) (.Call (.Name "enumerate" p) [e] [] pos) (iEnumT X.K ta) := by
  refine ⟨fun pins s σ H R I h => ?_⟩
  refine Call_ (ld_blt I hg hm boot_enumerate (PyProof.Rows.callWith_type1 (thn (ha.run pos pins s σ H _ I h) fun us s1 ⟨vs, H1, I1, r1, q1⟩ => ?_) hs rfl))
  obtain ⟨a, xs, ex, hq, q⟩ := q1
  subst ex
  cases r1 with
  | cons r rr =>
    cases rr
    cases r
    obtain ⟨its, rv, p', hz⟩ := I1.tuple hq
    have hal : a < s1.heap.objs.size := by obtain ⟨_, q, _⟩ := p'; exact Heap.lt_size q
    refine enum1_begins (begins_tuple a its.toArray) p' fun h' he hit hsz hk => wpAny_pyIter_enum he ?_
    have I2 : Inv X pins σ H1 { s1 with heap := h' } := I1.kept (t' := s1.toks) hk
    refine ⟨s1.heap.objs.size + 1, [s1.heap.objs.size + 1, s1.heap.objs.size], _, _, H1, rfl, I2, turn_enumT a (s1.heap.objs.size + 1) s1.heap.objs.size ⟨Nat.succ_ne_self _, Nat.ne_of_gt (Nat.lt_succ_of_lt hal), Nat.ne_of_lt hal⟩, ⟨⟨.none, he⟩, ⟨_, hit, rfl, rfl⟩⟩, fun b hb => ?_, q⟩
    have e' : b = s1.heap.objs.size + 1 ∨ b = s1.heap.objs.size := by simpa using hb
    have hle : s1.heap.objs.size ≤ b := by
      rcases e' with z | z
      · rw [z]; exact Nat.le_add_right _ _
      · rw [z]; exact Nat.le_refl _
    exact I1.fpOk hle (I1.hok.fresh hle)
end Ev
end
section
/-! From the evaluator's readings to the rules' readings. -/
namespace Ev
open PySem L2 PyProof.Rows
open PySem.W (Frag)

/-! ### no exception -/
def NoX {α : Type} (x : Res α) : Prop := ∀ e S, x ≠ .exc e S
theorem alloc_nx (o : MO) (S : Sto) : NoX (alloc o S) := fun _ _ h => by cases h
theorem getD_nx (o : Option D) (S : Sto) : NoX (getD' o S) := fun _ _ h => by unfold getD' at h; split at h <;> cases h
theorem binD_nx (o : BOp) (x y : D) (S : Sto) : NoX (binD o x y S) := fun _ _ h => by
  cases o <;> simp only [binD] at h <;> (split at h <;> first | cases h | (split at h <;> first | cases h | (split at h <;> cases h)))
theorem augD_nx (o : BOp) (x y : D) (S : Sto) : NoX (augD o x y S) := by
  unfold augD; split
  · exact fun _ _ h => by cases h
  · exact fun _ _ h => by cases h
  · exact fun _ _ h => by cases h
  · exact binD_nx _ _ _ _
theorem ixD_nx (x i : D) (S : Sto) : NoX (ixD x i S) := fun _ _ h => by
  unfold ixD at h
  split at h
  · split at h
    · exact getD_nx _ _ _ _ h
    · cases h
  · split at h
    · split at h
      · exact getD_nx _ _ _ _ h
      · cases h
    · cases h
  · split at h
    · split at h
      · exact getD_nx _ _ _ _ h
      · cases h
    · split at h
      · split at h
        · exact getD_nx _ _ _ _ h
        · cases h
      · cases h
  · cases h
theorem slD_nx (x : D) (lo hi : Option Int) (S : Sto) : NoX (slD x lo hi S) := fun _ _ h => by
  unfold slD at h
  split at h
  · cases h
  · split at h <;> cases h
  · cases h
  · split at h <;> cases h
  · cases h
theorem sortedD_nx (xs : List D) (S : Sto) : NoX (sortedD xs S) := fun _ _ h => by
  unfold sortedD at h
  split at h
  · split at h
    · cases h
    · split at h <;> cases h
  · cases h
theorem biD_nx (f : BI) (xs : List D) (S : Sto) : NoX (biD f xs S) := fun _ _ h => by
  unfold biD at h
  split at h <;> first | cases h | (split at h <;> first | cases h | exact sortedD_nx _ _ _ _ h | (split at h <;> first | cases h | (split at h <;> first | cases h | (split at h <;> cases h))))
theorem meD_nx (m : ME) (o : D) (xs : List D) (S : Sto) : NoX (meD m o xs S) := fun _ _ h => by
  unfold meD at h
  split at h <;> first | cases h | (split at h <;> first | cases h | (split at h <;> first | cases h | (split at h <;> cases h)))

/-! ### relations -/
abbrev RV (K : Frag) : Hp → List Addr → D → V → Prop := fun H r => RepV K H r
abbrev RVs (K : Frag) : Hp → List Addr → List D → List V → Prop := fun H r => RepVs K H r
abbrev REq (α : Type) : Hp → List Addr → α → α → Prop := fun _ _ a b => a = b
/-- an iterator -/
def RepI (K : Frag) (H : Hp) (r : List Addr) (v : ItV) (J : It) : Prop := ∀ (r' : List Addr) (H' : Hp) (S' : Sto) (i : Nat) (o : Option D), Xt r H r' H' → SI K H' r' S' → turn v i S' = some o → match o with
  | none => J.stop i H'
  | some d => J.go i H' ∧ ∀ x H'', J.yld i H' x H'' → Xt r' H' r' H'' ∧ RepV K H'' r' d x ∧ SI K H'' r' S'
abbrev RA (K : Frag) (T : List Addr) (W : WX) (f : Ev.Env → Sto → Res (List D)) : TA := REG (RVs K) K T W f
abbrev RT (K : Frag) (T : List Addr) (W : WX) (f : Ev.Env → Sto → Res Bool) : TT := REG (REq Bool) K T W f
abbrev RO (K : Frag) (T : List Addr) (W : WX) (f : Ev.Env → Sto → Res (Option Int)) : TO := REG (REq (Option Int)) K T W f
abbrev RI (K : Frag) (T : List Addr) (W : WX) (f : Ev.Env → Sto → Res ItV) : TI := REG (RepI K) K T W f
/-- the truth of a value -/
def tru (f : Ev.Env → Sto → Res D) (env : Ev.Env) (S : Sto) : Res Bool := (f env S).bind fun d S' => match truth S' d with
  | some b => .ok b S'
  | none => .bad

section
variable {K : Frag} {T : List Addr} {W : WX} {σ : L2.St} {H : Hp} {Q : VK} {fa fb fc : Ev.Env → Sto → Res D}
theorem RepE.at {r : List Addr} {H' : Hp} {r' : List Addr} {S : Sto} {env : Ev.Env} (h : RepE K H r env σ) (si : SI K H r S) (e : Xt r H r' H') : RepE K H' r' env σ := h.ext e si.noTup
theorem RepV.at {r : List Addr} {H' : Hp} {r' : List Addr} {S : Sto} {d : D} {x : V} (h : RepV K H r d x) (si : SI K H r S) (e : Xt r H r' H') : RepV K H' r' d x := RepV.ext e si.noTup _ _ h
theorem RepVs.at {r : List Addr} {H' : Hp} {r' : List Addr} {S : Sto} {d : List D} {x : List V} (h : RepVs K H r d x) (si : SI K H r S) (e : Xt r H r' H') : RepVs K H' r' d x := RepVs.ext e si.noTup _ _ h
theorem re_var {i : Nat} {C : CallS} (h : RE K T W (evE C (.var i)) σ H Q) : tVar i σ H Q := by
  obtain ⟨r, env, S, he, si, g⟩ := h
  rw [evE] at g
  split at g
  · rename_i d e
    obtain ⟨x, h1, h2⟩ := he.get i d e
    exact ⟨x, h1, g r x H (Xt.refl _ _) h2 si⟩
  · exact False.elim g
theorem re_c {d : D} {v : V} (h : RE K T W (fun _ S => .ok d S) σ H Q) (hv : ∀ r, RepV K H r d v) : tC v σ H Q := by
  obtain ⟨r, env, S, he, si, g⟩ := h
  exact g r v H (Xt.refl _ _) (hv r) si
theorem re_op {g : D → D → Sto → Res D} (hg : ∀ x y S, NoX (g x y S)) (h : RE K T W (fun env S => (fa env S).bind fun x S1 => (fb env S1).bind fun y S2 => g x y S2) σ H Q) : tOp (rB K g) (RE K T W fa) (RE K T W fb) σ H Q := by
  obtain ⟨r, env, S, he, si, h⟩ := h
  exact ⟨r, env, S, he, si, h.bind fun x S1 r1 v H1 _ e1 rv si1 h1 => ⟨r1, env, S1, he.at si e1, si1, h1.bind fun y S2 r2 w H2 _ e2 rw si2 h2 =>
    ⟨r2, S2, x, y, rv.at si1 e2, rw, si2, h2.noexc (hg _ _ _)⟩⟩⟩
theorem re_neg (h : RE K T W (fun env S => (fa env S).bind fun x S1 => match x with | .int i => .ok (.int (-i)) S1 | _ => .bad) σ H Q) : tUn (rU fun i => .int (-i)) (RE K T W fa) σ H Q := by
  obtain ⟨r, env, S, he, si, h⟩ := h
  refine ⟨r, env, S, he, si, h.bind fun x S1 r1 v H1 _ e1 rv si1 h1 => ?_⟩
  cases rv <;> try exact False.elim h1
  exact ⟨_, rfl, h1 r1 _ H1 (Xt.refl _ _) (.int _) si1⟩
theorem re_not (h : RE K T W (fun env S => (fa env S).bind fun x S1 => boolR ((truth S1 x).map (!·)) S1) σ H Q) : tNotT K (RE K T W fa) σ H Q := by
  obtain ⟨r, env, S, he, si, h⟩ := h
  refine ⟨r, env, S, he, si, h.bind fun x S1 r1 v H1 _ e1 rv si1 h1 => ?_⟩
  cases ht : truth S1 x with
  | none => rw [ht] at h1; exact False.elim h1
  | some b => rw [ht] at h1; exact ⟨b, truth_ok rv si1 ht, h1 r1 _ H1 (Xt.refl _ _) (.bl _) si1⟩
theorem re_and (h : RE K T W (fun env S => (fa env S).bind fun x S1 => match truth S1 x with | some true => fb env S1 | some false => .ok x S1 | none => .bad) σ H Q) : tAndT K (RE K T W fa) (RE K T W fb) σ H Q := by
  obtain ⟨r, env, S, he, si, h⟩ := h
  refine ⟨r, env, S, he, si, h.bind fun x S1 r1 v H1 _ e1 rv si1 h1 => ?_⟩
  cases ht : truth S1 x with
  | none => rw [ht] at h1; exact False.elim h1
  | some b =>
    refine ⟨b, truth_ok rv si1 ht, ?_⟩
    rw [ht] at h1
    cases b
    · exact h1 r1 _ H1 (Xt.refl _ _) rv si1
    · exact ⟨r1, env, S1, he.at si e1, si1, h1⟩
theorem re_or (h : RE K T W (fun env S => (fa env S).bind fun x S1 => match truth S1 x with | some false => fb env S1 | some true => .ok x S1 | none => .bad) σ H Q) : tOrT K (RE K T W fa) (RE K T W fb) σ H Q := by
  obtain ⟨r, env, S, he, si, h⟩ := h
  refine ⟨r, env, S, he, si, h.bind fun x S1 r1 v H1 _ e1 rv si1 h1 => ?_⟩
  cases ht : truth S1 x with
  | none => rw [ht] at h1; exact False.elim h1
  | some b =>
    refine ⟨b, truth_ok rv si1 ht, ?_⟩
    rw [ht] at h1
    cases b
    · exact ⟨r1, env, S1, he.at si e1, si1, h1⟩
    · exact h1 r1 _ H1 (Xt.refl _ _) rv si1
theorem re_cmp {o : COp} (h : RE K T W (fun env S => (fa env S).bind fun x S1 => (fb env S1).bind fun y S2 => boolR (cmpD o x y S2) S2) σ H Q) : tOp (rC K o) (RE K T W fa) (RE K T W fb) σ H Q := by
  obtain ⟨r, env, S, he, si, h⟩ := h
  refine ⟨r, env, S, he, si, h.bind fun x S1 r1 v H1 _ e1 rv si1 h1 => ⟨r1, env, S1, he.at si e1, si1, h1.bind fun y S2 r2 w H2 _ e2 rw si2 h2 => ?_⟩⟩
  cases ht : cmpD o x y S2 with
  | none => rw [ht] at h2; exact False.elim h2
  | some b => rw [ht] at h2; exact ⟨r2, S2, x, y, b, rv.at si1 e2, rw, si2, ht, h2 r2 _ H2 (Xt.refl _ _) (.bl _) si2⟩
theorem re_cmp2 {o o' : COp} (h : RE K T W (fun env S => (fa env S).bind fun x S1 => (fb env S1).bind fun y S2 => match cmpD o x y S2 with
    | some true => (fc env S2).bind fun z S3 => boolR (cmpD o' y z S3) S3
    | some false => .ok (.bl false) S2
    | none => .bad) σ H Q) : tChain (rC K o) (rC K o') (RE K T W fa) (RE K T W fb) (RE K T W fc) σ H Q := by
  obtain ⟨r, env, S, he, si, h⟩ := h
  refine ⟨r, env, S, he, si, h.bind fun x S1 r1 v H1 _ e1 rv si1 h1 => ⟨r1, env, S1, he.at si e1, si1, h1.bind fun y S2 r2 w H2 _ e2 rw si2 h2 => ?_⟩⟩
  cases ht : cmpD o x y S2 with
  | none => rw [ht] at h2; exact False.elim h2
  | some b =>
    rw [ht] at h2
    refine ⟨r2, S2, x, y, b, rv.at si1 e2, rw, si2, ht, b, rfl, ?_⟩
    cases b
    · exact h2 r2 _ H2 (Xt.refl _ _) (.bl _) si2
    · refine ⟨r2, env, S2, (he.at si e1).at si1 e2, si2, h2.bind fun z S3 r3 u H3 _ e3 ru si3 h3 => ?_⟩
      cases ht' : cmpD o' y z S3 with
      | none => rw [ht'] at h3; exact False.elim h3
      | some b => rw [ht'] at h3; exact ⟨r3, S3, y, z, b, rw.at si2 e3, ru, si3, ht', h3 r3 _ H3 (Xt.refl _ _) (.bl _) si3⟩

/-! ### tests -/
variable {QB : Bool → Hp → Prop}
theorem rt_truth (h : RT K T W (tru fa) σ H QB) : RE K T W fa σ H fun x H' => ∃ k, TruV K x H' k ∧ QB k H' := by
  obtain ⟨r, env, S, he, si, h⟩ := h
  refine ⟨r, env, S, he, si, GoodG.bind h fun x S1 r1 v H1 _ e1 rv si1 h1 => ?_⟩
  cases ht : truth S1 x with
  | none => rw [ht] at h1; exact False.elim h1
  | some b => rw [ht] at h1; exact ⟨b, truth_ok rv si1 ht, h1 r1 b H1 (Xt.refl _ _) rfl si1⟩
/-- where the value is a bool -/
theorem rt_bool (hb : ∀ env S d S', fa env S = .ok d S' → ∃ b, d = .bl b) (h : RT K T W (tru fa) σ H QB) : RE K T W fa σ H fun x H' => ∃ k, x = .bl k ∧ QB k H' := by
  obtain ⟨r, env, S, he, si, h⟩ := h
  refine ⟨r, env, S, he, si, GoodG.bind h fun x S1 r1 v H1 e0 e1 rv si1 h1 => ?_⟩
  obtain ⟨b, rfl⟩ := hb _ _ _ _ e0
  cases rv
  exact ⟨b, rfl, h1 r1 b H1 (Xt.refl _ _) rfl si1⟩
theorem rt_not (h : RT K T W (tru fun env S => (fa env S).bind fun x S1 => boolR ((truth S1 x).map (!·)) S1) σ H QB) : tNot (RT K T W (tru fa)) σ H QB := by
  obtain ⟨r, env, S, he, si, h⟩ := h
  refine ⟨r, env, S, he, si, ?_⟩
  simp only [tru] at h ⊢
  cases hx : fa env S with
  | bad => rw [hx] at h; exact False.elim h
  | exc e S1 => rw [hx] at h; exact h
  | ok x S1 =>
    rw [hx] at h
    simp only [Res.bind] at h ⊢
    cases ht : truth S1 x with
    | none => rw [ht] at h; exact False.elim h
    | some b => rw [ht] at h; exact fun r' b' H' e eb si' => by cases eb; exact h r' _ H' e rfl si'
theorem rt_and (h : RT K T W (tru fun env S => (fa env S).bind fun x S1 => match truth S1 x with | some true => fb env S1 | some false => .ok x S1 | none => .bad) σ H QB) : tAnd (RT K T W (tru fa)) (RT K T W (tru fb)) σ H QB := by
  obtain ⟨r, env, S, he, si, h⟩ := h
  refine ⟨r, env, S, he, si, ?_⟩
  simp only [tru] at h ⊢
  cases hx : fa env S with
  | bad => rw [hx] at h; exact False.elim h
  | exc e S1 => rw [hx] at h; exact h
  | ok x S1 =>
    rw [hx] at h
    simp only [Res.bind] at h ⊢
    cases ht : truth S1 x with
    | none => rw [ht] at h; exact False.elim h
    | some b =>
      rw [ht] at h
      cases b
      · simp only [ht] at h
        exact fun r' b' H' e eb si' => by cases eb; exact h r' _ H' e rfl si'
      · exact fun r' b' H' e eb si' => by cases eb; exact ⟨r', env, S1, he.at si e, si', GoodG.shift e h⟩
theorem rt_or (h : RT K T W (tru fun env S => (fa env S).bind fun x S1 => match truth S1 x with | some false => fb env S1 | some true => .ok x S1 | none => .bad) σ H QB) : tOr (RT K T W (tru fa)) (RT K T W (tru fb)) σ H QB := by
  obtain ⟨r, env, S, he, si, h⟩ := h
  refine ⟨r, env, S, he, si, ?_⟩
  simp only [tru] at h ⊢
  cases hx : fa env S with
  | bad => rw [hx] at h; exact False.elim h
  | exc e S1 => rw [hx] at h; exact h
  | ok x S1 =>
    rw [hx] at h
    simp only [Res.bind] at h ⊢
    cases ht : truth S1 x with
    | none => rw [ht] at h; exact False.elim h
    | some b =>
      rw [ht] at h
      cases b
      · exact fun r' b' H' e eb si' => by cases eb; exact ⟨r', env, S1, he.at si e, si', GoodG.shift e h⟩
      · simp only [ht] at h
        exact fun r' b' H' e eb si' => by cases eb; exact h r' _ H' e rfl si'
theorem re_ife (h : RE K T W (fun env S => (fc env S).bind fun x S1 => match truth S1 x with | some true => fa env S1 | some false => fb env S1 | none => .bad) σ H Q) : tIf (RT K T W (tru fc)) (RE K T W fa) (RE K T W fb) σ H Q := by
  obtain ⟨r, env, S, he, si, h⟩ := h
  refine ⟨r, env, S, he, si, ?_⟩
  simp only [tru]
  dsimp only at h
  cases hx : fc env S with
  | bad => rw [hx] at h; exact False.elim h
  | exc e S1 => rw [hx] at h; exact h
  | ok x S1 =>
    rw [hx] at h
    simp only [Res.bind] at h ⊢
    cases ht : truth S1 x with
    | none => rw [ht] at h; exact False.elim h
    | some b =>
      rw [ht] at h
      cases b
      · exact fun r' b' H' e eb si' => by cases eb; exact ⟨r', env, S1, he.at si e, si', GoodG.shift e h⟩
      · exact fun r' b' H' e eb si' => by cases eb; exact ⟨r', env, S1, he.at si e, si', GoodG.shift e h⟩

/-! ### lists of expressions -/
variable {QA : List V → Hp → Prop} {fs : Ev.Env → Sto → Res (List D)}
theorem ra_nil (h : RA K T W (fun _ S => .ok [] S) σ H QA) : tNil σ H QA := by
  obtain ⟨r, env, S, he, si, g⟩ := h
  exact g r [] H (Xt.refl _ _) .nil si
theorem ra_cons (h : RA K T W (fun env S => (fa env S).bind fun x S1 => (fs env S1).bind fun xs S2 => .ok (x :: xs) S2) σ H QA) : tCons (RE K T W fa) (RA K T W fs) σ H QA := by
  obtain ⟨r, env, S, he, si, h⟩ := h
  exact ⟨r, env, S, he, si, h.bind fun x S1 r1 v H1 _ e1 rv si1 h1 => ⟨r1, env, S1, he.at si e1, si1, h1.bind fun xs S2 r2 w H2 _ e2 rw si2 h2 =>
    h2 r2 _ H2 (Xt.refl _ _) (.cons (rv.at si1 e2) rw) si2⟩⟩
theorem re_tup (h : RE K T W (fun env S => (fs env S).bind fun ds S1 => if ds.length ≤ big then .ok (.tup ds) S1 else .bad) σ H Q) : tTup (RA K T W fs) σ H Q := by
  obtain ⟨r, env, S, he, si, h⟩ := h
  refine ⟨r, env, S, he, si, h.bind fun ds S1 r1 xs H1 _ e1 rv si1 h1 => ?_⟩
  split at h1
  · rename_i hl
    exact ⟨by rw [← rv.length, ← big_eq]; exact hl, GoodN.tup (S := S1) h1 rv si1⟩
  · exact False.elim h1
theorem re_lst (h : RE K T W (fun env S => (fs env S).bind fun ds S1 => if ds.length ≤ big then alloc (.lst ds) S1 else .bad) σ H Q) : tLst (RA K T W fs) σ H Q := by
  obtain ⟨r, env, S, he, si, h⟩ := h
  refine ⟨r, env, S, he, si, h.bind fun ds S1 r1 xs H1 _ e1 rv si1 h1 => ?_⟩
  split at h1
  · rename_i hl
    exact ⟨by rw [← rv.length, ← big_eq]; exact hl, GoodN.lst (S := S1) h1 rv si1⟩
  · exact False.elim h1
theorem re_bi {f : List D → Sto → Res D} (hf : ∀ ds S, NoX (f ds S)) (h : RE K T W (fun env S => (fs env S).bind fun ds S1 => f ds S1) σ H Q) : tCB (rN K f) (RA K T W fs) σ H Q := by
  obtain ⟨r, env, S, he, si, h⟩ := h
  exact ⟨r, env, S, he, si, h.bind fun ds S1 r1 xs H1 _ e1 rv si1 h1 => ⟨r1, S1, ds, rv, si1, h1.noexc (hf _ _)⟩⟩
/-- what a call of the text's own functions comes to -/
def spD (K : Frag) (T : List Addr) (n : Nat) (f : List D → Sto → Res D) : Sp := fun vs H Q E => ∃ r S ds, RepVs K H r ds vs ∧ SI K H r S ∧ ds.length = n ∧ GoodG (RV K) K T (fun cls dd _ H' => E cls dd H') r [] H (f ds S) Q
theorem re_call {n : Nat} {f : List D → Sto → Res D} (hn : ∀ ds S, f ds S ≠ .bad → ds.length = n) (h : RE K T W (fun env S => (fs env S).bind fun ds S1 => f ds S1) σ H Q) : tCallS (spD K T n f) (WE W) (RA K T W fs) σ H Q := by
  obtain ⟨r, env, S, he, si, h⟩ := h
  refine ⟨r, env, S, he, si, h.bind fun ds S1 r1 xs H1 _ e1 rv si1 h1 => ⟨r1, S1, ds, rv, si1, hn ds S1 ?_, ?_⟩⟩
  · intro z; rw [z] at h1; exact h1
  · cases hx : f ds S1 with
    | bad => rw [hx] at h1; exact h1
    | ok d S2 => rw [hx] at h1; exact h1
    | exc e S2 => rw [hx] at h1; exact h1

/-! ### methods -/
theorem re_append (h : RE K T W (fun env S => (fa env S).bind fun x S1 => if meOk .append x S1 then (fs env S1).bind fun ds S2 => meD .append x ds S2 else .bad) σ H Q) : tBM K "list" (rM K (meD .append)) (RE K T W fa) (RA K T W fs) σ H Q := by
  obtain ⟨r, env, S, he, si, h⟩ := h
  refine ⟨r, env, S, he, si, h.bind fun x S1 r1 v H1 _ e1 rv si1 h1 => ?_⟩
  split at h1
  · rename_i ok
    refine ⟨?_, r1, env, S1, he.at si e1, si1, h1.bind fun ds S2 r2 ws H2 _ e2 rw si2 h2 => ⟨r2, S2, x, ds, rv.at si1 e2, rw, si2, h2.noexc (meD_nx _ _ _ _)⟩⟩
    cases rv with
    | ref q =>
      simp only [meOk, Option.isSome_iff_exists] at ok
      obtain ⟨ds, e⟩ := ok
      obtain ⟨xs, e2, _⟩ := si1.lst e q
      exact .inl ⟨rfl, xs, SqL.of e2⟩
    | str => cases ok
    | non => cases ok
    | bl => cases ok
    | int => cases ok
    | tup => cases ok
    | fl => cases ok
  · exact False.elim h1
abbrev rSIx (K : Frag) : V → List V → Hp → VK → Prop := fun x xs H Q => (∃ s, x = .str s) ∧ rM K (meD .index) x xs H Q
abbrev rLIx (K : Frag) : V → List V → Hp → VK → Prop := fun x xs H Q => (∃ a, x = .ref a) ∧ rM K (meD .index) x xs H Q
theorem re_index (h : RE K T W (fun env S => (fa env S).bind fun x S1 => if meOk .index x S1 then (fs env S1).bind fun ds S2 => meD .index x ds S2 else .bad) σ H Q) :
    tBM K "str" (rSIx K) (RE K T W fa) (RA K T W fs) σ H Q ∨ tBM K "list" (rLIx K) (RE K T W fa) (RA K T W fs) σ H Q := by
  obtain ⟨r, env, S, he, si, h⟩ := h
  dsimp only at h
  cases hx : fa env S with
  | bad => rw [hx] at h; exact False.elim h
  | exc e S1 =>
    refine .inl ⟨r, env, S, he, si, ?_⟩
    rw [hx] at h ⊢; exact h
  | ok x S1 =>
    cases hk : meOk .index x S1 with
    | false => rw [hx] at h; simp only [Res.bind, hk] at h; exact False.elim h
    | true =>
      have key : ∀ {r1 : List Addr} {v : V} {H1 : Hp}, Xt r H r1 H1 → RepV K H1 r1 x v → SI K H1 r1 S1 → RA K T W fs σ H1 fun xs H2 => rM K (meD .index) v xs H2 Q := fun e1 rv si1 => by
        rw [hx] at h
        simp only [Res.bind, hk, if_true] at h
        exact ⟨_, env, S1, he.at si e1, si1, GoodG.bind (GoodG.shift e1 h) fun ds S2 r2 ws H2 _ e2 rw si2 h2 => ⟨r2, S2, x, ds, rv.at si1 e2, rw, si2, h2.noexc (meD_nx _ _ _ _)⟩⟩
      have imp : ∀ {P P' : List V → Hp → Prop} {H1 : Hp}, (∀ xs H2, P xs H2 → P' xs H2) → RA K T W fs σ H1 P → RA K T W fs σ H1 P' := fun hp ⟨r, env, S, he, si, g⟩ => ⟨r, env, S, he, si, by
        cases q : fs env S with
        | bad => rw [q] at g; exact g
        | exc e S1 => rw [q] at g; exact g
        | ok d S1 => rw [q] at g; exact fun r' b H' a b' c => hp _ _ (g r' b H' a b' c)⟩
      cases x with
      | str s =>
        refine .inl ⟨r, env, S, he, si, ?_⟩
        rw [hx]
        intro r1 v H1 e1 rv si1
        have k := key e1 rv si1
        cases rv
        exact ⟨rfl, imp (fun xs H2 q => ⟨⟨_, rfl⟩, q⟩) k⟩
      | ref n =>
        refine .inr ⟨r, env, S, he, si, ?_⟩
        rw [hx]
        intro r1 v H1 e1 rv si1
        have k := key e1 rv si1
        cases rv with
        | ref q =>
          simp only [meOk, Option.isSome_iff_exists] at hk
          obtain ⟨ds, e⟩ := hk
          obtain ⟨xs, e2, _⟩ := si1.lst e q
          exact ⟨.inl ⟨rfl, xs, SqL.of e2⟩, imp (fun xs H2 q => ⟨⟨_, rfl⟩, q⟩) k⟩
      | non => cases hk
      | bl => cases hk
      | int => cases hk
      | tup => cases hk
      | fl => cases hk

/-! ### slices -/
theorem ro_none {QO : Option Int → Hp → Prop} (h : RO K T W (fun _ S => .ok none S) σ H QO) : tNoPart σ H QO := by
  obtain ⟨r, env, S, he, si, g⟩ := h
  exact g r none H (Xt.refl _ _) rfl si
theorem ro_some {QO : Option Int → Hp → Prop} (h : RO K T W (fun env S => (fa env S).bind fun x S1 => match x with
    | .int i => .ok (some i) S1
    | _ => .bad) σ H QO) : tPart (RE K T W fa) σ H QO := by
  obtain ⟨r, env, S, he, si, h⟩ := h
  refine ⟨r, env, S, he, si, h.bind fun x S1 r1 v H1 _ e1 rv si1 h1 => ?_⟩
  cases rv <;> try exact False.elim h1
  exact ⟨_, rfl, h1 r1 _ H1 (Xt.refl _ _) rfl si1⟩
theorem re_sl {fl fh : Ev.Env → Sto → Res (Option Int)} (h : RE K T W (fun env S => (fa env S).bind fun x S1 => (fl env S1).bind fun l S2 => (fh env S2).bind fun h S3 => slD x l h S3) σ H Q) :
    tSl (rS K) (RE K T W fa) (RO K T W fl) (RO K T W fh) σ H Q := by
  obtain ⟨r, env, S, he, si, h⟩ := h
  exact ⟨r, env, S, he, si, h.bind fun x S1 r1 v H1 _ e1 rv si1 h1 => ⟨r1, env, S1, he.at si e1, si1, h1.bind fun l S2 r2 l' H2 _ e2 el si2 h2 =>
    ⟨r2, env, S2, (he.at si e1).at si1 e2, si2, h2.bind fun u S3 r3 u' H3 _ e3 eu si3 h3 => by
      cases el; cases eu
      exact ⟨r3, S3, x, (rv.at si1 e2).at si2 e3, si3, h3.noexc (slD_nx _ _ _ _)⟩⟩⟩⟩
end
end Ev
end
section
/-! Readings of dict displays, targets, iterators, comprehensions. -/
namespace Ev
open PySem L2 PyProof.Rows
open PySem.W (Frag)

section
variable {K : Frag} {T : List Addr} {W : WX} {σ : L2.St} {H : Hp} {Q : VK} {fa fb fc : Ev.Env → Sto → Res D} {C : CallS}

/-! ### dict displays -/
abbrev RPs (K : Frag) : Hp → List Addr → List (D × D) → List (V × V) → Prop := fun H r kv ps => RepVs K H r (kv.map (·.1)) (ps.map (·.1)) ∧ RepVs K H r (kv.map (·.2)) (ps.map (·.2))
def trsOf (K : Frag) (T : List Addr) (W : WX) (C : CallS) : IPs → List (TE × TE)
  | .nil => []
  | .cons k v ps => (RE K T W (evE C k), RE K T W (evE C v)) :: trsOf K T W C ps
theorem rp_pairs : ∀ (ps : IPs) {H : Hp} {QP : List (V × V) → Hp → Prop}, REG (RPs K) K T W (evPs C ps) σ H QP → tPairs (trsOf K T W C ps) σ H QP
  | .nil, H, QP, h => by
    obtain ⟨r, env, S, he, si, g⟩ := h
    rw [evPs] at g
    exact g r [] H (Xt.refl _ _) ⟨.nil, .nil⟩ si
  | .cons k v ps, H, QP, h => by
    obtain ⟨r, env, S, he, si, h⟩ := h
    rw [evPs] at h
    exact ⟨r, env, S, he, si, h.bind fun x S1 r1 u H1 _ e1 rv si1 h1 => ⟨r1, env, S1, he.at si e1, si1, h1.bind fun y S2 r2 w H2 _ e2 rw si2 h2 =>
      rp_pairs ps ⟨r2, env, S2, (he.at si e1).at si1 e2, si2, h2.bind fun kv S3 r3 qs H3 _ e3 rq si3 h3 =>
        h3 r3 _ H3 (Xt.refl _ _) ⟨.cons ((rv.at si1 e2).at si2 e3) rq.1, .cons (rw.at si2 e3) rq.2⟩ si3⟩⟩⟩
theorem repK_of {r : List Addr} : ∀ {kvs : List (D × D)} {ps : List (V × V)}, kvs.all (fun p => keyOk p.1) = true → RPs K H r kvs ps → ∃ qs : List (Key × V), ps = qs.map (fun kv => (kV kv.1, kv.2)) ∧ RepK K H r kvs qs
  | [], [], _, _ => ⟨[], rfl, .nil⟩
  | [], _ :: _, _, h => nomatch h.1
  | _ :: _, [], _, h => nomatch h.1
  | (k, v) :: kvs, (x, y) :: ps, ha, h => by
    simp only [List.all_cons, Bool.and_eq_true] at ha
    obtain ⟨h1, h2⟩ := h
    cases h1 with
    | cons a b =>
      cases h2 with
      | cons c d =>
        obtain ⟨qs, e, hk⟩ := repK_of ha.2 ⟨b, d⟩
        obtain ⟨q, hq⟩ := keyD_some ha.1
        obtain rfl : x = kV q := keyD_V hq a
        exact ⟨(q, y) :: qs, by rw [List.map_cons, ← e], .cons hq c hk⟩
theorem last_ix {r : List Addr} {S : Sto} (si : SI K H r S) (p : Addr) : (r ++ [p])[S.length]? = some p := by rw [← si.len, List.getElem?_concat_length]
theorem re_dct {ps : IPs} (h : RE K T W (evE C (.dct ps)) σ H Q) : tDisp (trsOf K T W C ps) σ H Q := by
  obtain ⟨r, env, S, he, si, h⟩ := h
  rw [evE] at h
  intro p hp
  have sn : SI K (upd H p (.dK [])) (r ++ [p]) (S ++ [.dct []]) := si.new hp ⟨[], upd_same, .nil⟩
  refine rp_pairs ps ⟨r ++ [p], env, S ++ [.dct []], he.at si (Xt.neu hp), sn, GoodG.bind (GoodG.shift (Xt.neu hp) h) fun kvs S1 r1 qs H1 _ e1 rq si1 h1 => ?_⟩
  split at h1
  · rename_i eS
    have hr : r1[S.length]? = some p := e1.get (last_ix si p)
    obtain ⟨ks, hk, hn⟩ := si1.dct eS hr
    cases hn
    split at h1
    · rename_i ok
      simp only [Bool.and_eq_true, decide_eq_true_eq] at ok
      obtain ⟨zs, ez, rz⟩ := repK_of ok.1 rq
      refine ⟨hk, zs, ez, by rw [← rz.len]; exact ok.2, ?_⟩
      have hm := List.mem_of_getElem? hr
      exact h1 r1 _ _ (Xt.put hm) (.ref hr) (si1.put hr ⟨_, upd_same, RepK.merge (rz.ext (Xt.put hm) si1.noTup) .nil⟩)
    · exact False.elim h1
  · exact False.elim h1
theorem re_dct0 (h : RE K T W (evE C (.dct .nil)) σ H Q) : tDNewK σ H Q := fun p hp => by
  obtain ⟨_, kvs, e, _, q⟩ := re_dct h p hp
  have e' : kvs = [] := by cases kvs with | nil => rfl | cons _ _ => cases e
  subst e'
  have e3 : upd (upd H p (.dK [])) p (.dK (mergeK [] [])) = upd H p (.dK []) := by
    funext b
    by_cases c : b = p
    · subst c; rw [upd_same, upd_same]; rfl
    · rw [upd_ne c]
  rw [e3] at q
  exact q

/-! ### targets -/
/-- nothing but the slots vs has changed -/
def Same (vs : List Nat) (σ σ' : L2.St) : Prop := σ'.length = σ.length ∧ ∀ j, j ∉ vs → σ'[j]? = σ[j]?
theorem Same.refl (vs : List Nat) (σ : L2.St) : Same vs σ σ := ⟨rfl, fun _ _ => rfl⟩
theorem Same.trans {vs ws : List Nat} {σ σ' σ'' : L2.St} (a : Same vs σ σ') (b : Same ws σ' σ'') : Same (vs ++ ws) σ σ'' := ⟨b.1.trans a.1, fun j hj => by
  rw [List.mem_append, not_or] at hj
  exact (b.2 j hj.2).trans (a.2 j hj.1)⟩
theorem Same.sub {vs ws : List Nat} {σ σ' : L2.St} (a : Same vs σ σ') (h : ∀ i ∈ vs, i ∈ ws) : Same ws σ σ' := ⟨a.1, fun j hj => a.2 j fun m => hj (h j m)⟩
def RG (K : Frag) (C : CallS) (g : IG) : TG := fun v σ H Q => ∃ r env S d env2 S2, RepE K H r env σ ∧ SI K H r S ∧ RepV K H r d v ∧ evG C g d env S = some (env2, S2) ∧
  ∀ r' σ' H', Xt r H r' H' → RepE K H' r' env2 σ' → SI K H' r' S2 → Same (gslots g) σ σ' → Q σ' H'
def RGs (K : Frag) (C : CallS) (gs : IGs) : TGs := fun vs σ H Q => ∃ r env S ds env2 S2, RepE K H r env σ ∧ SI K H r S ∧ RepVs K H r ds vs ∧ evGs C gs ds env S = some (env2, S2) ∧
  ∀ r' σ' H', Xt r H r' H' → RepE K H' r' env2 σ' → SI K H' r' S2 → Same (gslots.gslotss gs) σ σ' → Q σ' H'
variable {v : V} {QG : L2.St → Hp → Prop}
theorem RepE.set {r : List Addr} {env : Ev.Env} (h : RepE K H r env σ) (i : Nat) {d : D} {x : V} (hx : RepV K H r d x) : RepE K H r (env.set i (some d)) (σ.set i (some x)) := by
  refine ⟨by simp [h.len], fun j e g => ?_⟩
  by_cases hj : i = j
  · subst hj
    rw [List.getElem?_set] at g ⊢
    simp only [if_true] at g ⊢
    split at g
    · rename_i hl
      rw [if_pos (by rw [← h.len]; exact hl)]
      cases g; exact ⟨x, rfl, hx⟩
    · cases g
  · rw [List.getElem?_set_ne hj] at g ⊢
    exact h.get j e g
theorem rg_var {i : Nat} (h : RG K C (.var i) v σ H QG) : gName i v σ H QG := by
  obtain ⟨r, env, S, d, env2, S2, he, si, rv, e, q⟩ := h
  rw [evG] at e
  cases e
  exact q r _ H (Xt.refl _ _) (he.set i rv) si ⟨by simp, fun j hj => by
    have : i ≠ j := fun z => hj (by simp [gslots, z])
    rw [List.getElem?_set_ne this]⟩
theorem rgs_nil {vs : List V} (h : RGs K C .nil vs σ H QG) : gNil vs σ H QG := by
  obtain ⟨r, env, S, d, env2, S2, he, si, rv, e, q⟩ := h
  cases rv with
  | nil => rw [evGs] at e; cases e; exact ⟨rfl, q r _ H (Xt.refl _ _) he si (Same.refl _ _)⟩
  | cons a b => simp [evGs] at e
theorem rgs_cons {vs : List V} {g : IG} {gs : IGs} (h : RGs K C (.cons g gs) vs σ H QG) : gCons (RG K C g) (RGs K C gs) vs σ H QG := by
  obtain ⟨r, env, S, d, env2, S2, he, si, rv, e, q⟩ := h
  cases rv with
  | nil => simp [evGs] at e
  | cons a b =>
    rw [evGs] at e
    split at e
    · rename_i env1 S1 e1
      refine ⟨_, _, rfl, r, env, S, _, env1, S1, he, si, a, e1, fun r1 σ1 H1 x1 he1 si1 sm1 => ⟨r1, env1, S1, _, env2, S2, he1, si1, b.at si x1, e, fun r2 σ2 H2 x2 he2 si2 sm2 => ?_⟩⟩
      exact q r2 σ2 H2 (x1.trans x2) he2 si2 (sm1.trans sm2)
    · cases e
def glen : IGs → Nat
  | .nil => 0
  | .cons _ gs => glen gs + 1
theorem evGs_len : ∀ {gs : IGs} {ds : List D} {env : Ev.Env} {S : Sto} {p : Ev.Env × Sto}, evGs C gs ds env S = some p → ds.length = glen gs
  | .nil, [], _, _, _, _ => rfl
  | .nil, _ :: _, _, _, _, h => by simp [evGs] at h
  | .cons _ _, [], _, _, _, h => by simp [evGs] at h
  | .cons g gs, d :: ds, env, S, p, h => by
    rw [evGs] at h
    split at h
    · rw [List.length_cons, evGs_len h]; rfl
    · cases h
theorem rg_tup {gs : IGs} (h : RG K C (.tup gs) v σ H QG) : gTup K (glen gs) (RGs K C gs) v σ H QG := by
  obtain ⟨r, env, S, d, env2, S2, he, si, rv, e, q⟩ := h
  cases rv <;> simp only [evG] at e <;> try (cases e)
  rename_i ds a xs hq hs
  exact ⟨_, _, rfl, hq, by rw [← hs.length]; exact evGs_len e, r, env, S, _, env2, S2, he, si, hs, e, q⟩
theorem rg_sub {o i : IE} (h : RG K C (.sub o i) v σ H QG) : gSub (RE K T W (evE C o)) (RE K T W (evE C i)) (rP K) v σ H QG := by
  obtain ⟨r, env, S, d, env2, S2, he, si, rv, e, q⟩ := h
  rw [evG] at e
  split at e
  · rename_i x S1 e1
    split at e
    · rename_i y S3 e2
      cases hs : setD x y d S3 with
      | none => rw [hs] at e; cases e
      | some S4 =>
        rw [hs] at e
        cases e
        refine ⟨r, env, S, he, si, ?_⟩
        rw [e1]
        intro r1 xv H1 x1 rx si1
        refine ⟨r1, env, S1, he.at si x1, si1, ?_⟩
        rw [e2]
        intro r2 yv H2 x2 ry si2
        exact ⟨r2, S3, x, y, d, _, rx.at si1 x2, ry, (rv.at si x1).at si1 x2, si2, hs, fun H3 x3 si3 => q r2 σ H3 ((x1.trans x2).trans x3) (((he.at si x1).at si1 x2).at si2 x3) si3 (Same.refl _ _)⟩
    · cases e
  · cases e

/-! ### iterators -/
variable {R : It → Hp → Prop}
theorem repI_tup {r : List Addr} {S : Sto} {a : Addr} {ds : List D} {xs : List V} (si : SI K H r S) (hq : SqT K H a xs) (hx : RepVs K H r ds xs) : RepI K H r (.tup ds) (Itt K a) := by
  intro r' H' S' i o e si' ht
  simp only [turn, Option.some.injEq] at ht
  subst ht
  have hq' := e.sqT si.noTup hq
  have hx' := hx.at si e
  cases h : ds[i]? with
  | none => exact ⟨xs, hq', by rw [← hx'.length]; exact List.getElem?_eq_none_iff.mp h⟩
  | some d =>
    obtain ⟨x, h1, h2⟩ := hx'.get h
    exact ⟨⟨xs, x, hq', h1⟩, fun y H2 ⟨eH, hy⟩ => by
      subst eH
      have := hy xs hq'
      rw [h1] at this; cases this
      exact ⟨Xt.refl _ _, h2, si'⟩⟩
theorem repI_lst {r : List Addr} {a : Addr} {n : Nat} (hn : r[n]? = some a) : RepI K H r (.lst n) (Itl K a) := by
  intro r' H' S' i o e si' ht
  simp only [turn] at ht
  cases hi : items S' n with
  | none => rw [hi] at ht; cases ht
  | some ds =>
    rw [hi] at ht
    simp only [Option.map_some, Option.some.injEq] at ht
    subst ht
    obtain ⟨xs, e1, hx'⟩ := si'.lst hi (e.get hn)
    have hq' : SqL K H' a xs := SqL.of e1
    cases h : ds[i]? with
    | none => exact ⟨xs, hq', by rw [← hx'.length]; exact List.getElem?_eq_none_iff.mp h⟩
    | some d =>
      obtain ⟨x, h1, h2⟩ := hx'.get h
      exact ⟨⟨xs, x, hq', h1⟩, fun y H2 ⟨eH, hy⟩ => by
        subst eH
        have := hy xs hq'
        rw [h1] at this; cases this
        exact ⟨Xt.refl _ _, h2, si'⟩⟩
theorem repI_str {r : List Addr} {s : List Nat} : RepI K H r (.str s) (Its (sv s)) := by
  intro r' H' S' i o e si' ht
  simp only [turn, Option.some.injEq] at ht
  subst ht
  have hc : (sv s).cps[i]? = s[i]? := by simp [sv]
  cases h : s[i]? with
  | none =>
    have := List.getElem?_eq_none_iff.mp h
    show (sv s).cps.size ≤ i
    simpa [sv] using this
  | some c =>
    have hl := (List.getElem?_eq_some_iff.mp h).1
    refine ⟨show i < (sv s).cps.size by simpa [sv] using hl, fun y H2 ⟨eH, c', hy, ey⟩ => ?_⟩
    subst eH
    rw [hc, h] at hy
    cases hy
    subst ey
    exact ⟨Xt.refl _ _, .str [c], si'⟩
theorem repI_rng {r : List Addr} {lo : Int} {n : Nat} : RepI K H r (.rng lo 1 n) (Itr lo n) := by
  intro r' H' S' i o e si' ht
  simp only [turn, Option.some.injEq] at ht
  subst ht
  split
  · rename_i h
    split at h
    · cases h
    · rename_i h'; show n ≤ i; omega
  · rename_i d h
    split at h
    · rename_i h'
      cases h
      refine ⟨h', fun y H2 ⟨eH, ey⟩ => ?_⟩
      subst eH; subst ey
      rw [Int.mul_one]
      exact ⟨Xt.refl _ _, .int _, si'⟩
    · cases h
theorem repI_rngC {r : List Addr} {lo c : Int} {n : Nat} : RepI K H r (.rng lo c n) (Itc lo c n) := by
  intro r' H' S' i o e si' ht
  simp only [turn, Option.some.injEq] at ht
  subst ht
  split
  · rename_i h
    split at h
    · cases h
    · rename_i h'; show n ≤ i; omega
  · rename_i d h
    split at h
    · rename_i h'
      cases h
      refine ⟨h', fun y H2 ⟨eH, ey⟩ => ?_⟩
      subst eH; subst ey
      exact ⟨Xt.refl _ _, .int _, si'⟩
    · cases h
theorem repV_pair {r : List Addr} {p : Addr} {S : Sto} {d1 d2 : D} {x1 x2 : V} (si : SI K H r S) (hp : H p = none) (h1 : RepV K H r d1 x1) (h2 : RepV K H r d2 x2) : RepV K (upd H p (.tup [x1, x2])) r (.tup [d1, d2]) (.ref p) :=
  .tup (.inl (.inl upd_same)) (.cons (h1.at si (Xt.upd hp)) (.cons (h2.at si (Xt.upd hp)) .nil))
theorem repI_enumT {r : List Addr} {S : Sto} {a : Addr} {ds : List D} {xs : List V} (si : SI K H r S) (hq : SqT K H a xs) (hx : RepVs K H r ds xs) : RepI K H r (.enumT ds) (Itet K a) := by
  intro r' H' S' i o e si' ht
  simp only [turn, Option.some.injEq] at ht
  subst ht
  have hq' := e.sqT si.noTup hq
  have hx' := hx.at si e
  cases h : ds[i]? with
  | none => exact ⟨xs, hq', by rw [← hx'.length]; exact List.getElem?_eq_none_iff.mp h⟩
  | some d =>
    obtain ⟨x, h1, h2⟩ := hx'.get h
    refine ⟨⟨xs, x, hq', h1⟩, fun y H2 ⟨p, x2, ey, hp, eH, hy⟩ => ?_⟩
    have := hy xs hq'
    rw [h1] at this; cases this
    subst eH; subst ey
    exact ⟨Xt.upd hp, repV_pair si' hp (.int _) h2, si'.tup hp⟩
theorem repI_enumL {r : List Addr} {a : Addr} {n : Nat} (hn : r[n]? = some a) : RepI K H r (.enumL n) (Ite K a) := by
  intro r' H' S' i o e si' ht
  simp only [turn] at ht
  cases hi : items S' n with
  | none => rw [hi] at ht; cases ht
  | some ds =>
    rw [hi] at ht
    simp only [Option.map_some, Option.some.injEq] at ht
    subst ht
    obtain ⟨xs, e1, hx'⟩ := si'.lst hi (e.get hn)
    have hq' : SqL K H' a xs := SqL.of e1
    cases h : ds[i]? with
    | none => exact ⟨xs, hq', by rw [← hx'.length]; exact List.getElem?_eq_none_iff.mp h⟩
    | some d =>
      obtain ⟨x, h1, h2⟩ := hx'.get h
      refine ⟨⟨xs, x, hq', h1⟩, fun y H2 ⟨p, x2, ey, hp, eH, hy⟩ => ?_⟩
      have := hy xs hq'
      rw [h1] at this; cases this
      subst eH; subst ey
      exact ⟨Xt.upd hp, repV_pair si' hp (.int _) h2, si'.tup hp⟩
theorem zip_turn {ds es : List D} {i : Nat} {o : Option D} (h : (match ds[i]?, es[i]? with | some x, some y => some (D.tup [x, y]) | _, _ => none) = o) :
    (o = none ∧ (ds.length ≤ i ∨ es.length ≤ i)) ∨ ∃ x y, ds[i]? = some x ∧ es[i]? = some y ∧ o = some (.tup [x, y]) := by
  cases h1 : ds[i]? with
  | none => rw [h1] at h; subst h; exact .inl ⟨rfl, .inl (List.getElem?_eq_none_iff.mp h1)⟩
  | some x =>
    cases h2 : es[i]? with
    | none => rw [h1, h2] at h; subst h; exact .inl ⟨rfl, .inr (List.getElem?_eq_none_iff.mp h2)⟩
    | some y => rw [h1, h2] at h; subst h; exact .inr ⟨x, y, rfl, rfl, rfl⟩
theorem repI_zipT {r : List Addr} {S : Sto} {a b : Addr} {ds es : List D} {xs ys : List V} (si : SI K H r S) (hq : SqT K H a xs) (hx : RepVs K H r ds xs) (hp : SqT K H b ys) (hy : RepVs K H r es ys) : RepI K H r (.zipT ds es) (RZ.ItzT K a b) := by
  intro r' H' S' i o e si' ht
  simp only [turn, Option.some.injEq] at ht
  have hq' := e.sqT si.noTup hq
  have hx' := hx.at si e
  have hp' := e.sqT si.noTup hp
  have hy' := hy.at si e
  rcases zip_turn ht with ⟨rfl, hl⟩ | ⟨x, y, h1, h2, rfl⟩
  · exact ⟨xs, ys, hq', hp', by rw [← hx'.length, ← hy'.length]; exact hl⟩
  · obtain ⟨xv, h3, h4⟩ := hx'.get h1
    obtain ⟨yv, h5, h6⟩ := hy'.get h2
    refine ⟨⟨xs, ys, xv, yv, hq', hp', h3, h5⟩, fun z H2 ⟨p, x2, y2, ez, hp0, eH, hxx, hyy⟩ => ?_⟩
    have := hxx xs hq'
    rw [h3] at this; cases this
    have := hyy ys hp'
    rw [h5] at this; cases this
    subst eH; subst ez
    exact ⟨Xt.upd hp0, repV_pair si' hp0 h4 h6, si'.tup hp0⟩
theorem repI_zipL {r : List Addr} {a b : Addr} {n m : Nat} (hn : r[n]? = some a) (hm : r[m]? = some b) : RepI K H r (.zipL n m) (Itz K a b) := by
  intro r' H' S' i o e si' ht
  simp only [turn] at ht
  cases hi : items S' n with
  | none => rw [hi] at ht; cases ht
  | some ds =>
    cases hj : items S' m with
    | none => rw [hi, hj] at ht; cases ht
    | some es =>
      rw [hi, hj] at ht
      obtain ⟨xs, e1, hx'⟩ := si'.lst hi (e.get hn)
      obtain ⟨ys, e2, hy'⟩ := si'.lst hj (e.get hm)
      have hq' : SqL K H' a xs := SqL.of e1
      have hp' : SqL K H' b ys := SqL.of e2
      rcases zip_turn (Option.some.inj ht) with ⟨rfl, hl⟩ | ⟨x, y, h1, h2, rfl⟩
      · exact ⟨xs, ys, hq', hp', by rw [← hx'.length, ← hy'.length]; exact hl⟩
      · obtain ⟨xv, h3, h4⟩ := hx'.get h1
        obtain ⟨yv, h5, h6⟩ := hy'.get h2
        refine ⟨⟨xs, ys, xv, yv, hq', hp', h3, h5⟩, fun z H2 ⟨p, x2, y2, ez, hp0, eH, hxx, hyy⟩ => ?_⟩
        have := hxx xs hq'
        rw [h3] at this; cases this
        have := hyy ys hp'
        rw [h5] at this; cases this
        subst eH; subst ez
        exact ⟨Xt.upd hp0, repV_pair si' hp0 h4 h6, si'.tup hp0⟩
theorem ri_val {e : IE} (h : RI K T W (evI C (.val e)) σ H R) : iList K (RE K T W (evE C e)) σ H R ∨ iTup K (RE K T W (evE C e)) σ H R ∨ iStr (RE K T W (evE C e)) σ H R := by
  obtain ⟨r, env, S, he, si, h⟩ := h
  rw [evI] at h
  cases hx : evE C e env S with
  | bad => rw [hx] at h; exact False.elim h
  | exc ex S1 =>
    refine .inl ⟨r, env, S, he, si, ?_⟩
    rw [hx] at h ⊢; exact h
  | ok x S1 =>
    rw [hx] at h
    simp only [Res.bind] at h
    cases x with
    | tup ds =>
      refine .inr (.inl ⟨r, env, S, he, si, ?_⟩)
      rw [hx]
      intro r1 v H1 e1 rv si1
      cases rv with
      | tup hq hs => exact ⟨_, rfl, ⟨_, hq⟩, h r1 _ H1 e1 (repI_tup si1 hq hs) si1⟩
    | str s =>
      refine .inr (.inr ⟨r, env, S, he, si, ?_⟩)
      rw [hx]
      intro r1 v H1 e1 rv si1
      cases rv
      exact ⟨_, rfl, h r1 _ H1 e1 repI_str si1⟩
    | ref n =>
      refine .inl ⟨r, env, S, he, si, ?_⟩
      rw [hx]
      intro r1 v H1 e1 rv si1
      cases rv with
      | ref q =>
        simp only at h
        split at h
        · rename_i ys ei
          obtain ⟨zs, e2, hz⟩ := si1.lst ei q
          exact ⟨_, rfl, ⟨_, SqL.of e2⟩, h r1 _ H1 e1 (repI_lst q) si1⟩
        · exact False.elim h
    | non => exact False.elim h
    | bl => exact False.elim h
    | int => exact False.elim h
    | fl => exact False.elim h
theorem word_ok {i : Int} (h : word i = true) : -(2 ^ 62) ≤ i ∧ i < 2 ^ 62 := by
  unfold word at h
  simpa using h
abbrev ta1 (K : Frag) (T : List Addr) (W : WX) (C : CallS) (a : IE) : TA := tCons (RE K T W (evE C a)) tNil
abbrev ta2 (K : Frag) (T : List Addr) (W : WX) (C : CallS) (a b : IE) : TA := tCons (RE K T W (evE C a)) (ta1 K T W C b)
abbrev ta3 (K : Frag) (T : List Addr) (W : WX) (C : CallS) (a b c : IE) : TA := tCons (RE K T W (evE C a)) (ta2 K T W C b c)
theorem ri_rng1 {a : IE} (h : RI K T W (evI C (.rng1 a)) σ H R) : iRng1 (ta1 K T W C a) σ H R := by
  obtain ⟨r, env, S, he, si, h⟩ := h
  rw [evI] at h
  refine ⟨r, env, S, he, si, h.bind fun x S1 r1 v H1 _ e1 rv si1 h1 => ?_⟩
  cases rv <;> try exact False.elim h1
  simp only at h1
  split at h1
  · rename_i hw
    exact ⟨_, rfl, (word_ok hw).1, (word_ok hw).2, h1 r1 _ H1 (Xt.refl _ _) repI_rng si1⟩
  · exact False.elim h1
theorem ri_rng2 {a b : IE} (h : RI K T W (evI C (.rng2 a b)) σ H R) : iRng2 (ta2 K T W C a b) σ H R := by
  obtain ⟨r, env, S, he, si, h⟩ := h
  rw [evI] at h
  refine ⟨r, env, S, he, si, h.bind fun x S1 r1 v H1 _ e1 rv si1 h1 => ⟨r1, env, S1, he.at si e1, si1, h1.bind fun y S2 r2 w H2 _ e2 rw si2 h2 => ?_⟩⟩
  cases rv <;> cases rw <;> try exact False.elim h2
  simp only at h2
  split at h2
  · rename_i hw
    simp only [Bool.and_eq_true] at hw
    exact ⟨_, _, rfl, ⟨(word_ok hw.1).1, (word_ok hw.1).2, (word_ok hw.2).1, (word_ok hw.2).2⟩, h2 r2 _ H2 (Xt.refl _ _) repI_rng si2⟩
  · exact False.elim h2
theorem ri_rng3 {a b c : IE} (h : RI K T W (evI C (.rng3 a b c)) σ H R) : iRng3 (ta3 K T W C a b c) σ H R := by
  obtain ⟨r, env, S, he, si, h⟩ := h
  rw [evI] at h
  refine ⟨r, env, S, he, si, h.bind fun x S1 r1 v H1 _ e1 rv si1 h1 => ⟨r1, env, S1, he.at si e1, si1, h1.bind fun y S2 r2 w H2 _ e2 rw si2 h2 => ⟨r2, env, S2, (he.at si e1).at si1 e2, si2, h2.bind fun z S3 r3 u H3 _ e3 ru si3 h3 => ?_⟩⟩⟩
  cases rv <;> cases rw <;> cases ru <;> try exact False.elim h3
  simp only at h3
  split at h3
  · rename_i hw
    simp only [Bool.and_eq_true, decide_eq_true_eq] at hw
    obtain ⟨⟨h1, h2⟩, rfl⟩ := hw
    exact ⟨_, _, _, _, rfl, RgC.neg (word_ok h1).1 (word_ok h1).2 (word_ok h2).1 (word_ok h2).2, h3 r3 _ H3 (Xt.refl _ _) repI_rngC si3⟩
  · exact False.elim h3
theorem ri_enum {e : IE} (h : RI K T W (evI C (.enum e)) σ H R) : iEnum K (ta1 K T W C e) σ H R ∨ iEnumT K (ta1 K T W C e) σ H R := by
  obtain ⟨r, env, S, he, si, h⟩ := h
  rw [evI] at h
  cases hx : evE C e env S with
  | bad => rw [hx] at h; exact False.elim h
  | exc ex S1 =>
    refine .inl ⟨r, env, S, he, si, ?_⟩
    rw [hx] at h ⊢; exact h
  | ok x S1 =>
    rw [hx] at h
    simp only [Res.bind] at h
    cases x with
    | tup ds =>
      refine .inr ⟨r, env, S, he, si, ?_⟩
      rw [hx]
      intro r1 v H1 e1 rv si1
      cases rv with
      | tup hq hs => exact ⟨_, _, rfl, hq, h r1 _ H1 e1 (repI_enumT si1 hq hs) si1⟩
    | ref n =>
      refine .inl ⟨r, env, S, he, si, ?_⟩
      rw [hx]
      intro r1 v H1 e1 rv si1
      cases rv with
      | ref q =>
        simp only at h
        split at h
        · rename_i ys ei
          obtain ⟨zs, e2, hz⟩ := si1.lst ei q
          exact ⟨_, _, rfl, SqL.of e2, h r1 _ H1 e1 (repI_enumL q) si1⟩
        · exact False.elim h
    | non => exact False.elim h
    | bl => exact False.elim h
    | int => exact False.elim h
    | str => exact False.elim h
    | fl => exact False.elim h
theorem ri_zip {a b : IE} (h : RI K T W (evI C (.zip a b)) σ H R) : RZ.iZipA K (ta2 K T W C a b) σ H R := by
  obtain ⟨r, env, S, he, si, h⟩ := h
  rw [evI] at h
  refine ⟨r, env, S, he, si, h.bind fun x S1 r1 v H1 _ e1 rv si1 h1 => ⟨r1, env, S1, he.at si e1, si1, h1.bind fun y S2 r2 w H2 _ e2 rw si2 h2 => ?_⟩⟩
  have rv' := rv.at si1 e2
  split at h2
  · rename_i ds es
    cases rv' with
    | tup hq hs =>
      cases rw with
      | tup hp ht => exact ⟨_, _, _, _, rfl, .inr ⟨hq, hp, h2 r2 _ H2 (Xt.refl _ _) (repI_zipT si2 hq hs hp ht) si2⟩⟩
  · rename_i n m
    split at h2
    · rename_i xs ys ei ej
      cases rv' with
      | ref q =>
        cases rw with
        | ref q' =>
          obtain ⟨zs, e3, hz⟩ := si2.lst ei q
          obtain ⟨us, e4, hu⟩ := si2.lst ej q'
          exact ⟨_, _, _, _, rfl, .inl ⟨SqL.of e3, SqL.of e4, h2 r2 _ H2 (Xt.refl _ _) (repI_zipL q q') si2⟩⟩
    · exact False.elim h2
  · exact False.elim h2
end
end Ev
end
section
/-! Readings of comprehensions. -/
namespace Ev
open PySem L2 PyProof.Rows
open PySem.W (Frag)

section
variable {K : Frag} {T : List Addr} {W : WX} {σ : L2.St} {H : Hp} {Q : VK} {C : CallS}

theorem wipe_get : ∀ (vs : List Nat) (env : Ev.Env) (i : Nat) (d : D), (Ev.wipe env vs)[i]? = some (some d) → i ∉ vs ∧ env[i]? = some (some d)
  | [], _, _, _, h => ⟨by simp, h⟩
  | v :: vs, env, i, d, h => by
    unfold Ev.wipe at h
    by_cases e : v = i
    · subst e
      rw [List.getElem?_set] at h
      simp only [if_true] at h
      split at h <;> cases h
    · rw [List.getElem?_set_ne e] at h
      obtain ⟨h1, h2⟩ := wipe_get vs env i d h
      exact ⟨by simp only [List.mem_cons, not_or]; exact ⟨fun z => e z.symm, h1⟩, h2⟩
theorem wipe_len : ∀ (vs : List Nat) (env : Ev.Env), (Ev.wipe env vs).length = env.length
  | [], _ => rfl
  | v :: vs, env => by unfold Ev.wipe; rw [List.length_set, wipe_len vs env]
theorem wipeS_len : ∀ (vs : List Nat) (σ : L2.St), (L2.wipe σ vs).length = σ.length
  | [], _ => rfl
  | v :: vs, env => by unfold L2.wipe; rw [List.length_set, wipeS_len vs env]
theorem wipeS_get : ∀ (vs : List Nat) (σ : L2.St) (i : Nat), (L2.wipe σ vs)[i]? = if i ∈ vs then (if i < σ.length then some none else none) else σ[i]?
  | [], _, _ => by simp [L2.wipe]
  | v :: vs, σ, i => by
    unfold L2.wipe
    rw [List.getElem?_set, wipeS_len, wipeS_get vs σ i]
    by_cases e : v = i
    · subst e; simp
    · have e' : i ≠ v := fun z => e z.symm
      simp [e, e']
theorem RepE.wipe {r : List Addr} {env : Ev.Env} (h : RepE K H r env σ) (vs : List Nat) : RepE K H r (Ev.wipe env vs) (L2.wipe σ vs) := by
  refine ⟨by rw [wipe_len, wipeS_len, h.len], fun i d g => ?_⟩
  obtain ⟨h1, h2⟩ := wipe_get vs env i d g
  rw [wipeS_get, if_neg h1]
  exact h.get i d h2
theorem Same.wipe {vs ws : List Nat} {σ σ' : L2.St} (h : Same ws σ σ') (hs : ∀ i ∈ ws, i ∈ vs) : L2.wipe σ' vs = L2.wipe σ vs := by
  refine List.ext_getElem? fun i => ?_
  rw [wipeS_get, wipeS_get, h.1]
  split
  · rfl
  · rename_i hi
    exact h.2 i fun m => hi (hs i m)
theorem wipe_wipe (vs : List Nat) (σ : L2.St) : L2.wipe (L2.wipe σ vs) vs = L2.wipe σ vs := by
  refine List.ext_getElem? fun i => ?_
  rw [wipeS_get, wipeS_get, wipeS_len]
  split <;> rfl

/-! ### a loop of a comprehension -/
def tres : TRes → Res Bool
  | .ok b S => .ok b S
  | .bad => .bad
abbrev RTs (K : Frag) (T : List Addr) (C : CallS) (ifs : IEs) : TT := REG (REq Bool) K T (fun _ _ _ _ => False) fun env S => tres (evT C ifs env S)
/-- an expression within a block: no exception -/
abbrev RB (K : Frag) (T : List Addr) (C : CallS) (e : IE) : TE := RE K T (fun _ _ _ _ => False) (evE C e)
def loopR (J : It) (g : TG) (tt : TT) (body : L2.St → Hp → (Hp → Prop) → Prop) (vs : List Nat) (σ : L2.St) (Qe : Hp → Prop) (H0 : Hp) : Prop := ∃ W : Nat → Nat → Hp → Prop, (∃ m, W 0 m H0) ∧ ∀ i m H, W i m H →
  (J.stop i H ∧ Qe H) ∨ (J.go i H ∧ ∃ Nx : Hp → Prop, (∀ H', Nx H' → ∃ m', m' < m ∧ W (i + 1) m' H') ∧ ∀ x H', J.yld i H x H' → g x (L2.wipe σ vs) H' fun σ2 H2 => L2.wipe σ2 vs = L2.wipe σ vs ∧ tt σ2 H2 fun b H3 =>
    if b = true then body σ2 H3 Nx else Nx H3)
theorem loop_ok {v : ItV} {J : It} {ig : IG} {ifs : IEs} {B : Ev.Env → Sto → Option Sto} {body : L2.St → Hp → (Hp → Prop) → Prop} {vs : List Nat} {env : Ev.Env} {r1 r2 : List Addr} {H1 H2 : Hp} {S2 Sf : Sto} {Qe : Hp → Prop}
    (hI : RepI K H1 r1 v J) (he : RepE K H2 r2 env σ) (e12 : Xt r1 H1 r2 H2) (si : SI K H2 r2 S2) (hg : ∀ i ∈ gslots ig, i ∈ vs)
    (hc : compL v (fun d S' => evG C ig d (Ev.wipe env vs) S') (fun env1 S' => evT C ifs env1 S') B fuel 0 S2 = some Sf)
    (hB : ∀ r' H' σ2 env1 S' S3 Nx, Xt r2 H2 r' H' → RepE K H' r' env1 σ2 → SI K H' r' S' → B env1 S' = some S3 → (∀ r'' H'', Xt r' H' r'' H'' → SI K H'' r'' S3 → Nx H'') → body σ2 H' Nx)
    (hQ : ∀ r' H', Xt r2 H2 r' H' → SI K H' r' Sf → Qe H') : loopR J (RG K C ig) (RTs K T C ifs) body vs σ Qe H2 := by
  refine ⟨fun i m H => ∃ r' S', Xt r2 H2 r' H ∧ SI K H r' S' ∧ compL v (fun d S' => evG C ig d (Ev.wipe env vs) S') (fun env1 S' => evT C ifs env1 S') B m i S' = some Sf, ⟨fuel, r2, S2, Xt.refl _ _, si, hc⟩, ?_⟩
  intro i m H ⟨r', S', x', si', hc'⟩
  cases m with
  | zero => simp [compL] at hc'
  | succ m =>
    unfold compL at hc'
    split at hc'
    · cases hc'
    · rename_i ht
      cases hc'
      exact .inl ⟨hI r' H _ i none (e12.trans x') si' ht, hQ r' H x' si'⟩
    · rename_i d ht
      obtain ⟨h1, h2⟩ := hI r' H S' i (some d) (e12.trans x') si' ht
      split at hc'
      · cases hc'
      · rename_i env1 S1 eg
        refine .inr ⟨h1, fun H' => ∃ r'' S'', Xt r2 H2 r'' H' ∧ SI K H' r'' S'' ∧ compL v (fun d S' => evG C ig d (Ev.wipe env vs) S') (fun env1 S' => evT C ifs env1 S') B m (i + 1) S'' = some Sf,
          fun H' ⟨r'', S'', a, b, c⟩ => ⟨m, Nat.lt_succ_self _, r'', S'', a, b, c⟩, fun x H' hy => ?_⟩
        obtain ⟨e3, rd, si3⟩ := h2 x H' hy
        have he3 : RepE K H' r' (Ev.wipe env vs) (L2.wipe σ vs) := ((he.at si x').at si' e3).wipe vs
        refine ⟨r', _, S', d, env1, S1, he3, si3, rd, eg, fun r4 σ2 H4 e4 he4 si4 sm => ⟨(sm.wipe hg).trans (wipe_wipe vs σ), ?_⟩⟩
        refine ⟨r4, env1, S1, he4, si4, ?_⟩
        cases et : evT C ifs env1 S1 with
        | bad => rw [et] at hc'; cases hc'
        | ok b S5 =>
          rw [et] at hc'
          show GoodG _ _ _ _ _ _ _ (tres (evT C ifs env1 S1)) _
          rw [et]
          intro r5 b' H5 e5 eb si5
          cases eb
          have e25 := ((x'.trans e3).trans e4).trans e5
          cases b
          · exact ⟨r5, S5, e25, si5, hc'⟩
          · simp only at hc'
            split at hc'
            · cases hc'
            · rename_i S6 eB
              rw [if_pos rfl]
              exact hB r5 H5 σ2 env1 S5 S6 _ e25 (he4.at si4 e5) si5 eB fun r6 H6 e6 si6 => ⟨r6, S6, e25.trans e6, si6, hc'⟩
/-- behind the list at D -/
def bodyL (te : TE) (D : Addr) : L2.St → Hp → (Hp → Prop) → Prop := fun σ H Nx => te σ H fun y H4 => ∃ acc, H4 D = some (.lst acc) ∧ acc.length < sizeLine ∧ Nx (upd H4 D (.lst (acc ++ [y])))
def bodyK (tk tv : TE) (D : Addr) : L2.St → Hp → (Hp → Prop) → Prop := fun σ H Nx => tk σ H fun y H4 => tv σ H4 fun z H5 => ∃ kvs k, y = kV k ∧ H5 D = some (.dK kvs) ∧ kvs.length < sizeLine ∧ Nx (upd H5 D (.dK (putK kvs k z)))
theorem addL_ok {r : List Addr} {S S' : Sto} {n : Nat} {D : Addr} {d : Ev.D} {y : V} {Nx : Hp → Prop} (si : SI K H r S) (hD : r[n]? = some D) (hy : RepV K H r d y) (h : addL n d S = some S')
    (hn : ∀ r'' H'', Xt r H r'' H'' → SI K H'' r'' S' → Nx H'') : ∃ acc, H D = some (.lst acc) ∧ acc.length < sizeLine ∧ Nx (upd H D (.lst (acc ++ [y]))) := by
  unfold addL at h
  split at h
  · rename_i xs e
    split at h
    · rename_i hl
      cases h
      obtain ⟨zs, e1, hz⟩ := si.lst' e hD
      have hm := List.mem_of_getElem? hD
      exact ⟨zs, e1, by rw [← hz.length, ← big_eq]; exact hl, hn r _ (Xt.put hm) (si.put hD ⟨_, upd_same, (hz.at si (Xt.put hm)).append (.cons (hy.at si (Xt.put hm)) .nil)⟩)⟩
    · cases h
  · cases h
theorem addK_ok {r : List Addr} {S S' : Sto} {n : Nat} {D : Addr} {k d : Ev.D} {x y : V} {Nx : Hp → Prop} (si : SI K H r S) (hD : r[n]? = some D) (hx : RepV K H r k x) (hy : RepV K H r d y) (h : addK n k d S = some S')
    (hn : ∀ r'' H'', Xt r H r'' H'' → SI K H'' r'' S' → Nx H'') : ∃ kvs q, x = kV q ∧ H D = some (.dK kvs) ∧ kvs.length < sizeLine ∧ Nx (upd H D (.dK (putK kvs q y))) := by
  unfold addK at h
  split at h
  · rename_i xs e
    split at h
    · rename_i hl
      cases h
      simp only [Bool.and_eq_true, decide_eq_true_eq] at hl
      obtain ⟨zs, e1, hz⟩ := si.dct e hD
      have hm := List.mem_of_getElem? hD
      obtain ⟨q, hq⟩ := keyD_some hl.1
      exact ⟨zs, q, keyD_V hq hx, e1, by rw [← hz.len, ← big_eq]; exact hl.2, hn r _ (Xt.put hm) (si.put hD ⟨_, upd_same, (hz.ext (Xt.put hm) si.noTup).put hq (hy.at si (Xt.put hm))⟩)⟩
    · cases h
  · cases h
theorem bodyL_ok {e : IE} {n : Nat} {D : Addr} {r' : List Addr} {H' : Hp} {σ2 : L2.St} {env1 : Ev.Env} {S' S3 : Sto} {Nx : Hp → Prop} (hD : r'[n]? = some D) (he : RepE K H' r' env1 σ2) (si : SI K H' r' S')
    (hb : (match evE C e env1 S' with | .ok d S2 => addL n d S2 | _ => none) = some S3) (hn : ∀ r'' H'', Xt r' H' r'' H'' → SI K H'' r'' S3 → Nx H'') : bodyL (RB K T C e) D σ2 H' Nx := by
  refine ⟨r', env1, S', he, si, ?_⟩
  split at hb
  · rename_i d S2 ev
    rw [ev]
    intro r4 y H4 e4 ry si4
    exact addL_ok si4 (e4.get hD) ry hb fun r'' H'' a b => hn r'' H'' (e4.trans a) b
  · cases hb
theorem bodyK_ok {k e : IE} {n : Nat} {D : Addr} {r' : List Addr} {H' : Hp} {σ2 : L2.St} {env1 : Ev.Env} {S' S3 : Sto} {Nx : Hp → Prop} (hD : r'[n]? = some D) (he : RepE K H' r' env1 σ2) (si : SI K H' r' S')
    (hb : (match evE C k env1 S' with
      | .ok dk S2 => match evE C e env1 S2 with
        | .ok dv S3 => addK n dk dv S3
        | _ => none
      | _ => none) = some S3) (hn : ∀ r'' H'', Xt r' H' r'' H'' → SI K H'' r'' S3 → Nx H'') : bodyK (RB K T C k) (RB K T C e) D σ2 H' Nx := by
  refine ⟨r', env1, S', he, si, ?_⟩
  split at hb
  · rename_i d S2 ev
    rw [ev]
    intro r4 x H4 e4 rx si4
    refine ⟨r4, env1, S2, he.at si e4, si4, ?_⟩
    split at hb
    · rename_i d2 S5 ev2
      rw [ev2]
      intro r5 y H5 e5 ry si5
      exact addK_ok si5 ((e4.trans e5).get hD) (rx.at si4 e5) ry hb fun r'' H'' a b => hn r'' H'' ((e4.trans e5).trans a) b
    · cases hb
  · cases hb
/-- the inner loop of two -/
def body2 (wi1 : TI) (g1 : TG) (tt1 : TT) (body : L2.St → Hp → (Hp → Prop) → Prop) (vs1 : List Nat) : L2.St → Hp → (Hp → Prop) → Prop := fun σ2 H3 Nx => wi1 σ2 H3 fun J1 H4 => loopR J1 g1 tt1 body vs1 σ2 Nx H4
abbrev RIb (K : Frag) (T : List Addr) (C : CallS) (it : II) : TI := RI K T (fun _ _ _ _ => False) (evI C it)
theorem body2_ok {it1 : II} {ig1 : IG} {ifs1 : IEs} {vs1 : List Nat} {B : Ev.Env → Sto → Option Sto} {body : L2.St → Hp → (Hp → Prop) → Prop} {r' : List Addr} {H' : Hp} {σ2 : L2.St} {env1 : Ev.Env} {S' S3 : Sto} {Nx : Hp → Prop}
    (he : RepE K H' r' env1 σ2) (si : SI K H' r' S') (hg : ∀ i ∈ gslots ig1, i ∈ vs1)
    (hb : (match evI C it1 env1 S' with
      | .ok v1 S2 => compL v1 (fun d S' => (evG C ig1 d (Ev.wipe env1 vs1) S')) (fun env2 S' => evT C ifs1 env2 S') B fuel 0 S2
      | _ => none) = some S3)
    (hB : ∀ r4 H4 σ3 env2 S4 S5 Nx, Xt r' H' r4 H4 → RepE K H4 r4 env2 σ3 → SI K H4 r4 S4 → B env2 S4 = some S5 → (∀ r'' H'', Xt r4 H4 r'' H'' → SI K H'' r'' S5 → Nx H'') → body σ3 H4 Nx)
    (hn : ∀ r'' H'', Xt r' H' r'' H'' → SI K H'' r'' S3 → Nx H'') : body2 (RIb K T C it1) (RG K C ig1) (RTs K T C ifs1) body vs1 σ2 H' Nx := by
  refine ⟨r', env1, S', he, si, ?_⟩
  split at hb
  · rename_i v1 S2 ev
    rw [ev]
    intro r4 J H4 e4 rJ si4
    exact loop_ok rJ (he.at si e4) (Xt.refl _ _) si4 hg hb (fun r5 H5 σ3 env2 S4 S5 Nx a b c d => hB r5 H5 σ3 env2 S4 S5 Nx (e4.trans a) b c d) fun r'' H'' a b => hn r'' H'' (e4.trans a) b
  · cases hb

/-! ### comprehensions -/
theorem re_lc {vs : List Nat} {ig : IG} {it : II} {ifs : IEs} {e : IE} (hg : ∀ i ∈ gslots ig, i ∈ vs) (h : RE K T W (evE C (.lc vs ig it ifs e)) σ H Q) : tLc (RI K T W (evI C it)) (RG K C ig) (RTs K T C ifs) (RB K T C e) vs σ H Q := by
  obtain ⟨r, env, S, he, si, h⟩ := h
  rw [evE] at h
  refine ⟨r, env, S, he, si, h.bind fun v S1 r1 J H1 _ e1 rJ si1 h1 D hD => ?_⟩
  split at h1
  · rename_i Sf ec
    have sn : SI K (upd H1 D (.lst [])) (r1 ++ [D]) (S1 ++ [.lst []]) := si1.new hD ⟨[], upd_same, .nil⟩
    have hix := last_ix si1 D
    refine loop_ok rJ ((he.at si e1).at si1 (Xt.neu hD)) (Xt.neu hD) sn hg ec (fun r' H' σ2 env1 S' S3 Nx a b c d f => bodyL_ok (a.get hix) b c d f) fun r' H' a b => ?_
    exact h1 r' _ H' ((Xt.neu hD).trans a) (.ref (a.get hix)) b
  · exact False.elim h1
theorem re_lc2 {vs vs1 : List Nat} {ig ig1 : IG} {it it1 : II} {ifs ifs1 : IEs} {e : IE} (hg : ∀ i ∈ gslots ig, i ∈ vs) (hg1 : ∀ i ∈ gslots ig1, i ∈ vs1) (h : RE K T W (evE C (.lc2 vs ig it ifs vs1 ig1 it1 ifs1 e)) σ H Q) :
    tLc2 (RI K T W (evI C it)) (RG K C ig) (RTs K T C ifs) (RIb K T C it1) (RG K C ig1) (RTs K T C ifs1) (RB K T C e) vs vs1 σ H Q := by
  obtain ⟨r, env, S, he, si, h⟩ := h
  rw [evE] at h
  refine ⟨r, env, S, he, si, h.bind fun v S1 r1 J H1 _ e1 rJ si1 h1 D hD => ?_⟩
  split at h1
  · rename_i Sf ec
    have sn : SI K (upd H1 D (.lst [])) (r1 ++ [D]) (S1 ++ [.lst []]) := si1.new hD ⟨[], upd_same, .nil⟩
    have hix := last_ix si1 D
    refine loop_ok (body := body2 (RIb K T C it1) (RG K C ig1) (RTs K T C ifs1) (bodyL (RB K T C e) D) vs1) rJ ((he.at si e1).at si1 (Xt.neu hD)) (Xt.neu hD) sn hg ec
      (fun r' H' σ2 env1 S' S3 Nx a b c d f => body2_ok b c hg1 d (fun r4 H4 σ3 env2 S4 S5 Nx a' b' c' d' f' => bodyL_ok ((a.trans a').get hix) b' c' d' f') f) fun r' H' a b => ?_
    exact h1 r' _ H' ((Xt.neu hD).trans a) (.ref (a.get hix)) b
  · exact False.elim h1
theorem re_dc {vs : List Nat} {ig : IG} {it : II} {ifs : IEs} {k e : IE} (hg : ∀ i ∈ gslots ig, i ∈ vs) (h : RE K T W (evE C (.dc vs ig it ifs k e)) σ H Q) : tDc (RI K T W (evI C it)) (RG K C ig) (RTs K T C ifs) (RB K T C k) (RB K T C e) vs σ H Q := by
  obtain ⟨r, env, S, he, si, h⟩ := h
  rw [evE] at h
  refine ⟨r, env, S, he, si, h.bind fun v S1 r1 J H1 _ e1 rJ si1 h1 D hD => ?_⟩
  split at h1
  · rename_i Sf ec
    have sn : SI K (upd H1 D (.dK [])) (r1 ++ [D]) (S1 ++ [.dct []]) := si1.new hD ⟨[], upd_same, .nil⟩
    have hix := last_ix si1 D
    refine loop_ok rJ ((he.at si e1).at si1 (Xt.neu hD)) (Xt.neu hD) sn hg ec (fun r' H' σ2 env1 S' S3 Nx a b c d f => bodyK_ok (a.get hix) b c d f) fun r' H' a b => ?_
    exact h1 r' _ H' ((Xt.neu hD).trans a) (.ref (a.get hix)) b
  · exact False.elim h1
/-- a dict comprehension with two clauses -/
def tDc2 (wi : TI) (g : TG) (tt : TT) (wi1 : TI) (g1 : TG) (tt1 : TT) (tk tv : TE) (vs vs1 : List Nat) : TE := fun σ H Q => wi σ H fun J H1 => ∀ D, H1 D = none →
  loopR J g tt (body2 wi1 g1 tt1 (bodyK tk tv D) vs1) vs σ (fun H => Q (.ref D) H) (upd H1 D (.dK []))
theorem re_dc2 {vs vs1 : List Nat} {ig ig1 : IG} {it it1 : II} {ifs ifs1 : IEs} {k e : IE} (hg : ∀ i ∈ gslots ig, i ∈ vs) (hg1 : ∀ i ∈ gslots ig1, i ∈ vs1) (h : RE K T W (evE C (.dc2 vs ig it ifs vs1 ig1 it1 ifs1 k e)) σ H Q) :
    tDc2 (RI K T W (evI C it)) (RG K C ig) (RTs K T C ifs) (RIb K T C it1) (RG K C ig1) (RTs K T C ifs1) (RB K T C k) (RB K T C e) vs vs1 σ H Q := by
  obtain ⟨r, env, S, he, si, h⟩ := h
  rw [evE] at h
  refine ⟨r, env, S, he, si, h.bind fun v S1 r1 J H1 _ e1 rJ si1 h1 D hD => ?_⟩
  split at h1
  · rename_i Sf ec
    have sn : SI K (upd H1 D (.dK [])) (r1 ++ [D]) (S1 ++ [.dct []]) := si1.new hD ⟨[], upd_same, .nil⟩
    have hix := last_ix si1 D
    refine loop_ok (body := body2 (RIb K T C it1) (RG K C ig1) (RTs K T C ifs1) (bodyK (RB K T C k) (RB K T C e) D) vs1) rJ ((he.at si e1).at si1 (Xt.neu hD)) (Xt.neu hD) sn hg ec
      (fun r' H' σ2 env1 S' S3 Nx a b c d f => body2_ok b c hg1 d (fun r4 H4 σ3 env2 S4 S5 Nx a' b' c' d' f' => bodyK_ok ((a.trans a').get hix) b' c' d' f') f) fun r' H' a b => ?_
    exact h1 r' _ H' ((Xt.neu hD).trans a) (.ref (a.get hix)) b
  · exact False.elim h1
end
end Ev
end
section
set_option maxRecDepth 100000
/-! A dict comprehension of two clauses; a dict comprehension stored to a name. -/
namespace Ev
open PySem L2 PyProof.Rows
open PySem.W (Frag)

/-- a turn of one clause; rest: what follows where the tests hold -/
def clauseT (p : Pos) (tg : Expr) (ifs : List Expr) (it : Value) (env : PySem.Env) (rest : Sem PySem.Fin) (c : Code) : Sem PySem.Fin := do
  standAt p
  match ← pyNext it with
  | none => pure (.done .next)
  | some v =>
    letOwnedTupleGo tg it v
    assign tg env v
    let mut ok := true
    for t in ifs do
      if ok then ok ← isTrue t env (eval t env)
    if ok then rest else again c

section
variable {Xb : Cx} {pins : List (Addr × Obj)} {kx vx tg : Expr} {gens : List Comprehension} {scope : Scope} {pos : Pos} {ifs : List Expr} {k : Nat} {it : Addr} {acc : Value} {p : Pos} {rest : Sem PySem.Fin} {J : It} {fp : List Addr} {tn : Nat → Heap → Prop} {g : TG} {tt : TT}
  {body : L2.St → Hp → (Hp → Prop) → Prop} {vs : List Nat} {σ : L2.St} {Qe : Hp → Prop} {R : Result → Shared → Prop}
/-- what is known at σ is known at σ' -/
def Knows (σ σ' : L2.St) : Prop := σ.length = σ'.length ∧ ∀ (j : Nat) v, σ[j]? = some (some v) → σ'[j]? = some (some v)
theorem knows_wipe (vs : List Nat) (σ : L2.St) : Knows (L2.wipe σ vs) σ := ⟨wipeS_len _ _, fun _ _ h => (wipe_some h).1⟩
theorem Inv.less {H : Hp} {s : Shared} {σ' : L2.St} (I : L2.Inv Xb pins σ' H s) (h : Knows σ σ') : L2.Inv Xb pins σ H s := I.weak h.1 h.2
/-- the loop of one clause -/
theorem clause_loop (hc : Xb.calm = true) (T : Turn Xb.prog Xb.w Xb.K tg J fp it tn) (pg : PG Xb tg g) (pt : PTs Xb ifs tt) (hx : Xb.xe = fun _ _ => False)
    (hT : compTurn (.DictComp kx vx gens scope pos) k (.ref it) acc Xb.env = clauseT p tg ifs (.ref it) Xb.env rest (.compLoop (.DictComp kx vx gens scope pos) k (.ref it) acc Xb.env))
    (hin : ∀ (ps : List (Addr × Obj)) (s : Shared) (σ2 : L2.St) (H : Hp) (Nx : Hp → Prop) (Post : Shared → Prop), L2.Inv Xb (pins ++ ps) σ2 H s → body σ2 H Nx →
      (∀ s' σ3 H', L2.Inv Xb (pins ++ ps) σ3 H' s' → (∀ τ, L2.wipe σ2 vs = L2.wipe τ vs → Knows (L2.wipe τ vs) σ3) → Nx H' → Post s') →
      wpAny (model Xb.prog Xb.w) Xb.A rest (fun fin s' => fin = .again (.compLoop (.DictComp kx vx gens scope pos) k (.ref it) acc Xb.env) ∧ Post s') (fun _ _ => False) s)
    {s : Shared} {H0 : Hp} (I : L2.Inv Xb pins (L2.wipe σ vs) H0 s) (st : tn 0 s.heap) (f0 : ∀ b ∈ fp, FpOk Xb pins H0 b) (lp : loopR J g tt body vs σ Qe H0)
    (hend : ∀ s' H', L2.Inv Xb pins (L2.wipe σ vs) H' s' → Qe H' → R (.ok .next) s') :
    codeAny (model Xb.prog Xb.w) Xb.A (.compLoop (.DictComp kx vx gens scope pos) k (.ref it) acc Xb.env) R s := by
  obtain ⟨W, ⟨m0, w0⟩, step⟩ := lp
  refine codeAny_loop rfl (fun n s' => ∃ i H', L2.Inv Xb pins (L2.wipe σ vs) H' s' ∧ tn i s'.heap ∧ (∀ b ∈ fp, FpOk Xb pins H' b) ∧ W i n H') ?_ m0 ⟨0, H0, I, st, f0, w0⟩
  rintro n s1 ⟨i, H1, I1, st1, f1, w1⟩
  show wpAny _ Xb.A ((compTurn (.DictComp kx vx gens scope pos) k (.ref it) acc Xb.env).onRaise (fun x => do noteFrame x Xb.env; theTreesLotGoes x)) _ _ s1
  refine wpAny_noted ?_
  rw [hT]
  refine wpAny_bind (wpAny_standAt (wpAny_bind ?_))
  rcases step i n H1 w1 with ⟨stop, qe⟩ | ⟨go, Nx, hNx, one⟩
  · refine thnF (T.done Xb rfl rfl rfl hc i pins s1 _ H1 (fun _ _ => False) I1 f1 st1 stop) fun r s2 ⟨hr, I2⟩ => ?_
    subst hr
    exact wpAny_pure (hend s2 H1 I2 qe)
  · refine thnF (T.item Xb rfl rfl rfl hc i pins s1 _ H1 (fun _ _ => False) I1 f1 st1 go) fun r s2 ⟨u, hr, h2⟩ => ?_
    subst hr
    refine wpAny_bind (thnF h2 fun _ s3 ⟨x, H3, I3, r3, y3, st3, n3⟩ => wpAny_bind ?_)
    have f3 : ∀ b ∈ fp, FpOk Xb pins H3 b := fun b hb => ⟨n3 b hb, (f1 b hb).2⟩
    have I3' := I3.pinned f3 (T.obj _ _ st3)
    have fin : ∀ (s' : Shared) (σ' : L2.St) (H' : Hp), L2.Inv Xb (pins ++ pinsAt fp s3.heap) σ' H' s' → Knows (L2.wipe σ vs) σ' → Nx H' →
        ∃ m, m < n ∧ ∃ i H', L2.Inv Xb pins (L2.wipe σ vs) H' s' ∧ tn i s'.heap ∧ (∀ b ∈ fp, FpOk Xb pins H' b) ∧ W i m H' := fun s' σ' H' I' kn nx => by
      obtain ⟨m, hm, w'⟩ := hNx H' nx
      have kept : ∀ b ∈ fp, ∀ o, s3.heap.get? b = some o → s'.heap.get? b = some o ∧ H' b = none := fun b hb o e => by
        have z := I'.pin (b, o) (List.mem_append_right _ (List.mem_append_right _ (mem_pinsAt hb e)))
        exact ⟨z.1, z.2.1⟩
      refine ⟨m, hm, i + 1, H', Inv.less I'.unpinned kn, T.keep _ _ _ st3 fun b hb o e => (kept b hb o e).1, fun b hb => ⟨?_, (f1 b hb).2⟩, w'⟩
      obtain ⟨o, e, _⟩ := T.obj _ _ st3 b hb
      exact (kept b hb o e).2
    have pr := pg.run _ s3 _ H3 x u _ I3' r3 (one x H3 y3)
    rw [hx] at pr
    refine thnF pr fun _ s4 ⟨σ4, H4, I4, hw4, q4⟩ => wpAny_bind ?_
    have tr := pt.run _ s4 σ4 H4 _ I4 q4
    rw [hx] at tr
    refine thnF tr fun ok s5 ⟨H5, I5, q5⟩ => ?_
    have kw : ∀ τ, L2.wipe τ vs = L2.wipe σ4 vs → Knows (L2.wipe τ vs) σ4 := fun τ e => by rw [e]; exact knows_wipe vs σ4
    cases ok with
    | false =>
      simp only [Bool.false_eq_true, if_false] at q5 ⊢
      exact wpAny_pure ⟨rfl, fin s5 σ4 H5 I5 (kw σ hw4.symm) q5⟩
    | true =>
      simp only [if_true] at q5 ⊢
      refine wpAny_mono (hin _ s5 σ4 H5 Nx _ I5 q5 fun s6 σ6 H6 I6 k6 nx => fin s6 σ6 H6 I6 (k6 σ hw4) nx) (fun fn s' hf => ?_) fun _ _ z => z.elim
      obtain ⟨rfl, hp⟩ := hf
      exact ⟨rfl, hp⟩
end

/-- the start of a clause's loop -/
theorem start_ok {prog : Program} {w : World} {A : Around} {R : Result → Shared → Prop} {s : Shared} {kx vx : Expr} {t0 i0 t1 i1 : Expr} {ifs0 ifs1 : List Expr} {scope : Scope} {pos : Pos} {it acc : Value} {env : PySem.Env}
    (h0 : codeAny (model prog w) A (.compLoop (.DictComp kx vx [⟨t0, i0, ifs0, 0⟩, ⟨t1, i1, ifs1, 0⟩] scope pos) 1 it acc env) R s)
    (h : ∀ E, wpAny (model prog w) A (pyIter it) (fun it' s' => codeAny (model prog w) A (.compLoop (.DictComp kx vx [⟨t0, i0, ifs0, 0⟩, ⟨t1, i1, ifs1, 0⟩] scope pos) 1 it' acc env) R s') E s) :
    codeAny (model prog w) A (.compStart (.DictComp kx vx [⟨t0, i0, ifs0, 0⟩, ⟨t1, i1, ifs1, 0⟩] scope pos) 1 it acc env) R s := by
  refine codeAny_of_tree ?_
  show wpAny _ _ ((compStart (.DictComp kx vx [⟨t0, i0, ifs0, 0⟩, ⟨t1, i1, ifs1, 0⟩] scope pos) 1 it acc env).onRaise (fun x => do noteFrame x env; standAt theWindowsPlace)) _ _ s
  refine wpAny_notedAt ?_
  unfold compStart
  show wpAny _ _ (ask >>= _) _ _ s
  refine wpAny_bind (wpAny_askSetting (wpAny_ite ?_))
  split
  · first
      | exact wpAny_bind (wpAny_pure (wpAny_pure (And.intro rfl h0)))
      | exact wpAny_pure (And.intro rfl h0)
  · refine wpAny_bind (wpAny_rule ?_)
    show wpAny _ _ (standAt i1.pos >>= _) _ _ s
    exact wpAny_bind (wpAny_standAt (wpAny_bind (wpAny_mono (h _) (fun it' s' h' => wpAny_pure (And.intro rfl h')) fun _ _ x => x)))

section
variable {X : Cx}
theorem dc2_core {pins : List (Addr × Obj)} {s : Shared} {σ : L2.St} {H : Hp} {Q : VK} {kx vx tg iter tg1 iter1 : Expr} {ifs ifs1 : List Expr} {scope : Scope} {own : List (Str × Nat)} {vs1 : List Nat} {pos pos' : Pos} {wi wi1 : TI} {g g1 : TG} {tt tt1 : TT} {tk tv : TE} {use : Option (Value → Sem Unit)} {Qf : Value → Shared → Prop}
    (hc : X.calm = true) (hN : X.N.Nodup) (I : L2.Inv X pins σ H s) (hi : PI X tg iter wi) (ok : BlkOk X.N X.env.scope scope own) (hv : ∀ i ∈ vs1, i ∈ own.map (·.2))
    (hb : ∀ (s : Shared) (H : Hp) (C : Addr) (cl : List (Str × Addr)) (fp : List Addr) (Xb : Cx), Xb = X.blk s H scope (compEnvC scope cl C X.env) fp → PG Xb tg g ∧ PTs Xb ifs tt ∧ PI Xb tg1 iter1 wi1 ∧ PG Xb tg1 g1 ∧ PTs Xb ifs1 tt1 ∧ PE Xb kx tk ∧ PE Xb vx tv)
    (hs : ∀ x, foldedSetIterable iter X.env x = pure x) (hs1 : ∀ env x, foldedSetIterable iter1 env x = pure x)
    (h : tDc2 wi g tt wi1 g1 tt1 tk tv (own.map (·.2)) vs1 σ H Q)
    (hRR : ∀ D C s' m H', L2.Inv X pins σ H' s' → Q (.ref D) H' → s'.heap.Ns C m → FpOk X pins H' C → compPost (model X.prog X.w) X.A X.xe use Qf (.ref D) C (.ok .next) s') :
    wpAny (model X.prog X.w) X.A (comprehension (.DictComp kx vx [⟨tg, iter, ifs, 0⟩, ⟨tg1, iter1, ifs1, 0⟩] scope pos) scope X.env pos' newDict false (eval iter X.env) use) Qf X.xe s := by
  have cells : ∀ y ∈ scope.names, y.2 = .free → ∃ c, X.env.cells.lookup y.1 = some c := fun y hy e => (ok.free y hy e).elim (fun k => I.ok.has _ (.inl k)) fun k => I.ok.has _ (.inr k)
  refine wpAny_comprehension_free (use := use) rfl hs (closure_ok cells) ok.kind (fun y hy e => by rw [ok.uniq y hy, e]) (thn (hi.run pins s σ H _ I h) fun xv s1 hx => thn hx fun itv s2 h2 => ?_)
  obtain ⟨it, fp, tn, J, H2, rfl, I2, T, st2, f2, q⟩ := h2
  refine wpAny_newObj_type (newEnv_comp ?_)
  generalize hD : s2.heap.objs.size = D
  have lp := q D (I2.hok.fresh (Nat.le_of_eq hD))
  generalize hs3 : ({ s2 with heap := s2.heap.push { cls := .type "dict", data := .dict #[] } } : Shared) = s3
  have e3 : s3.heap = s2.heap.push { cls := .type "dict", data := .dict #[] } := by rw [← hs3]
  have I3 : L2.Inv X pins σ (upd H2 D (.dK [])) s3 := by
    rw [← hs3]
    exact I2.laid (t' := s2.toks) (fun b o e => Heap.get?_push_of_some _ e) (Nat.le_of_eq hD) (by rw [← hD]; exact dk_empty s2.heap I2.big)
  have lt2 : ∀ b ∈ fp, b < s2.heap.objs.size := fun b hb => let ⟨o, e, _⟩ := T.obj _ _ st2 b hb; Heap.lt_size e
  have f3 : ∀ b ∈ fp, FpOk X pins (upd H2 D (.dK [])) b ∧ b < s3.heap.objs.size := fun b hb =>
    ⟨⟨by rw [upd_ne (by rw [← hD]; exact Nat.ne_of_lt (lt2 b hb))]; exact (f2 b hb).1, (f2 b hb).2⟩, by rw [e3, Heap.size_push]; exact Nat.lt_succ_of_lt (lt2 b hb)⟩
  have I4 := block_start I3 ok hN f3
  obtain ⟨pg, pt, pi1, pg1, pt1, pk, pv⟩ := hb s3 (upd H2 D (.dK [])) s3.heap.objs.size (cellsFrom (s3.heap.objs.size + 1) scope.names (cloFrom X.env.cells scope.names [])) fp _ rfl
  show codeAny _ _ (.compStart (.DictComp kx vx [⟨tg, iter, ifs, 0⟩, ⟨tg1, iter1, ifs1, 0⟩] scope pos) 0 (.ref it) (.ref D) (compEnvC scope (cellsFrom (s3.heap.objs.size + 1) scope.names (cloFrom X.env.cells scope.names [])) s3.heap.objs.size X.env)) (compPost (model X.prog X.w) X.A X.xe use Qf (.ref D) s3.heap.objs.size) { s3 with heap := pushCells (s3.heap.push { cls := .type "dict", data := .dict #[] }) scope.names }
  generalize hH3 : upd H2 D (.dK []) = H3 at I3 I4 pg pt pk pv pi1 pg1 pt1 lp f3
  generalize hce : compEnvC scope (cellsFrom (s3.heap.objs.size + 1) scope.names (cloFrom X.env.cells scope.names [])) s3.heap.objs.size X.env = ce at I4 pg pt pk pv pi1 pg1 pt1 ⊢
  have cL : ce.locals = s3.heap.objs.size := by subst hce; rfl
  generalize hs4 : ({ s3 with heap := pushCells (s3.heap.push { cls := .type "dict", data := .dict #[] }) scope.names } : Shared) = s4 at I4 ⊢
  have st4 : tn 0 s4.heap := T.keep _ _ _ st2 fun b _ o e => by rw [← hs4]; exact pushCells_keeps _ _ _ _ (Heap.get?_push_of_some _ (by rw [e3]; exact Heap.get?_push_of_some _ e))
  generalize hXb : X.blk s3 H3 scope ce fp = Xb at I4 pg pt pk pv pi1 pg1 pt1
  have bP : Xb.prog = X.prog := by rw [← hXb]
  have bw : Xb.w = X.w := by rw [← hXb]
  have bK : Xb.K = X.K := by rw [← hXb]
  have bA : Xb.A = X.A := by rw [← hXb]
  have bc : Xb.calm = true := by rw [← hXb]; exact hc
  have be : Xb.env = ce := by rw [← hXb]
  have bx : Xb.xe = fun _ _ => False := by rw [← hXb]
  have fb : ∀ b ∈ fp, FpOk Xb [] H3 b := fun b hb => by
    have hbx : b ∈ Xb.ex := by rw [← hXb]; exact hb
    exact ⟨(f3 b hb).1.1, (I4.ok.exf b hbx).1, I4.ok.exfs b hbx, .inl hbx, fun x c e => (I4.ok.exf b hbx).2 x c e, fun p hp => absurd (show p ∈ ([] : List (Addr × Obj)) ++ [] from by rw [← hXb] at hp; exact hp) (by simp)⟩
  have T' : Turn Xb.prog Xb.w Xb.K tg J fp it tn := by rw [bP, bw, bK]; exact T
  have loop : codeAny (model X.prog X.w) X.A (.compLoop (.DictComp kx vx [⟨tg, iter, ifs, 0⟩, ⟨tg1, iter1, ifs1, 0⟩] scope pos) 0 (.ref it) (.ref D) ce) (compPost (model X.prog X.w) X.A X.xe use Qf (.ref D) s3.heap.objs.size) s4 := by
    rw [← bP, ← bw, ← bA, ← be]
    refine clause_loop (p := iter.pos) (rest := do
      let x ← eval iter1 Xb.env
      standAt iter1.pos
      let x ← foldedSetIterable iter1 Xb.env x
      let _ ← runOwn (.compStart (.DictComp kx vx [⟨tg, iter, ifs, 0⟩, ⟨tg1, iter1, ifs1, 0⟩] scope pos) 1 (← holding [x] (pyIter x)) (.ref D) Xb.env) Xb.env
      again (.compLoop (.DictComp kx vx [⟨tg, iter, ifs, 0⟩, ⟨tg1, iter1, ifs1, 0⟩] scope pos) 0 (.ref it) (.ref D) Xb.env)) bc T' pg pt bx rfl ?_ I4 st4 fb lp fun s' H' I' qe => ?_
    · intro ps s5 σ2 H5 Nx Post I5 hbody hpost
      have ir := pi1.run _ s5 σ2 H5 _ I5 hbody
      rw [bx] at ir
      refine wpAny_bind (thnF ir fun xv s6 hx6 => wpAny_bind (wpAny_standAt (wpAny_bind (wpAny_of_eq (hs1 _ _) (wpAny_bind (wpAny_holding (thnF hx6 fun itv s7 h7 => ?_)))))))
      obtain ⟨it1, fp1, tn1, J1, H7, rfl, I7, T1, st7, f7, lp1⟩ := h7
      refine wpAny_bind (wpAny_runOwn ?_)
      rw [Around.mark_none]
      have kn : Knows (L2.wipe σ2 vs1) σ2 := knows_wipe _ _
      have loop1 : codeAny (model Xb.prog Xb.w) Xb.A (.compLoop (.DictComp kx vx [⟨tg, iter, ifs, 0⟩, ⟨tg1, iter1, ifs1, 0⟩] scope pos) 1 (.ref it1) (.ref D) Xb.env) (fun r s' => match r with | .ok _ => Post s' | .error _ => False) s7 := by
        refine clause_loop (p := iter1.pos) (pins := [] ++ ps) (rest := do
          (do
            let kv ← eval kx Xb.env
            let vv ← holding [kv] (eval vx Xb.env)
            standAt { kx.pos with endLine := vx.pos.endLine, endCol := vx.pos.endCol }
            holding [kv, vv] (dictSet D kv vv))
          again (.compLoop (.DictComp kx vx [⟨tg, iter, ifs, 0⟩, ⟨tg1, iter1, ifs1, 0⟩] scope pos) 1 (.ref it1) (.ref D) Xb.env)) bc T1 pg1 pt1 bx rfl ?_ (Inv.less I7 kn) st7 f7 lp1 fun s' H' I' nx => ?_
        · intro ps' s8 σ8 H8 Nx1 Post1 I8 hbody1 hpost1
          have kr := pk.run _ s8 σ8 H8 _ I8 hbody1
          rw [bx] at kr
          refine wpAny_bind (wpAny_bind (thnF kr fun kv s9 ⟨yk, H9, I9, r9, q9⟩ => ?_))
          have vr := pv.run _ s9 σ8 H9 _ I9 q9
          rw [bx] at vr
          refine wpAny_bind (wpAny_holding (thnF vr fun vv s10 ⟨yv, H10, I10, r10, kvs, kk, ek, hD10, hz, nx⟩ => ?_))
          subst ek
          refine wpAny_bind (wpAny_standAt (wpAny_holding (d_dictSet I10 hD10 hz r9 r10 fun s11 I11 => ?_)))
          exact wpAny_pure ⟨rfl, hpost1 s11 σ8 _ I11 (fun τ e => by rw [← e]; exact knows_wipe _ _) nx⟩
        · exact hpost s' _ H' I' (fun τ e => ⟨by rw [← e, wipeS_len, wipeS_len], fun j v ej => by
            rw [← e] at ej
            obtain ⟨z1, z2⟩ := wipe_some ej
            rw [wipe_out fun z => z2 (hv j z)]
            exact z1⟩) nx
      refine codeAny_mono (start_ok loop1 fun E => T1.self Xb.A 0 s7 _ E st7 loop1) fun r s' hr => ?_
      cases r with
      | ok f =>
        first
          | exact wpAny_pure ⟨rfl, hr⟩
          | exact wpAny_bind (wpAny_pure (wpAny_pure ⟨rfl, hr⟩))
      | error e => exact hr.elim
    · have I7 : L2.Inv X pins σ H' s' := by
        have eb : Xb.fs = frs X.stack := by rw [← hXb]
        refine I3.call' (ch := fp) ?_ ?_ ?_ I'.bare fun b hb => ⟨(f3 b hb).1.2.2.2.1, (f3 b hb).1.2.1, (f3 b hb).1.2.2.2.2.1, (f3 b hb).1.2.2.2.2.2⟩
        · have := I'.os; rw [← hXb] at this; exact this
        · have := I'.base; rw [← hXb] at this; exact this
        · have := I'.hok; rw [← hXb] at this; exact this
      have nC : H' s3.heap.objs.size = none := by
        have z := I'.free
        rw [be, cL] at z; exact z
      obtain ⟨m, hn, _⟩ := I'.loc
      rw [be, cL] at hn
      rw [bP, bw, bA]
      exact hRR D _ s' m H' I7 qe hn (I3.fpOk (Nat.le_refl _) nC)
  exact codeAny_compStart_dict loop (T.self X.A 0 _ _ _ st4 loop)
theorem val_post {pins : List (Addr × Obj)} {σ : L2.St} {H' : Hp} {Q : VK} {D C : Addr} {s' : Shared} {m : Str → Option Value} (I : L2.Inv X pins σ H' s') (q : Q (.ref D) H') (hn : s'.heap.Ns C m) (f : FpOk X pins H' C) :
    compPost (model X.prog X.w) X.A X.xe none (EP X pins σ Q) (.ref D) C (.ok .next) s' :=
  ⟨m, hn, fun h'' sb => ⟨.ref D, H', I.turned (t' := s'.toks) (fun b o hb e => (sb.2 b hb).trans e) f.1 f.2.1 f.2.2.2.1 f.2.2.2.2.1 f.2.2.2.2.2, rfl, q⟩⟩
theorem use_post {pins : List (Addr × Obj)} {σ : L2.St} {H' : Hp} {D C : Addr} {s' : Shared} {m : Str → Option Value} {E : Ends} {i : Nat} {y : Str} {py : Pos} (hN : X.N.Nodup) (hy : X.N[i]? = some y) (hyl : X.env.scope.names.lookup y = some .local)
    (I : L2.Inv X pins σ H' s') (q : gName i (.ref D) σ H' E.nx) (hn : s'.heap.Ns C m) (f : FpOk X pins H' C) :
    compPost (model X.prog X.w) X.A X.xe (some (assign (.Name y py) X.env)) (fun _ s' => SP X pins E .next s') (.ref D) C (.ok .next) s' := by
  show wpAny _ _ (assign (.Name y py) X.env (.ref D)) _ _ _
  refine wpAny_assign_Name (store_ok2 (v := V.ref D) I hN hy (.inl hyl) rfl (fun s2 I2 ⟨a, sb, ha⟩ => ?_) (.inr hyl))
  have ne : C ≠ a := ha.elim (fun z => z ▸ f.2.1) fun z e => f.2.2.2.2.1 y a z e.symm
  exact ⟨m, hn.sameBut sb ne, fun h3 sb3 => ⟨_, H', I2.turned (t' := s2.toks) (fun b o hb e => (sb3.2 b hb).trans e) f.1 f.2.1 f.2.2.2.1 f.2.2.2.2.1 f.2.2.2.2.2, q⟩⟩
section
variable {kx vx tg iter tg1 iter1 : Expr} {ifs ifs1 : List Expr} {scope : Scope} {own : List (Str × Nat)} {vs1 : List Nat} {pos spos py : Pos} {wi wi1 : TI} {g g1 : TG} {tt tt1 : TT} {tk tv : TE} {i : Nat} {y : Str}
theorem pe_dc2 (hc : X.calm = true) (hN : X.N.Nodup) (hi : PI X tg iter wi) (ok : BlkOk X.N X.env.scope scope own) (hv : ∀ i ∈ vs1, i ∈ own.map (·.2))
    (hb : ∀ (s : Shared) (H : Hp) (C : Addr) (cl : List (Str × Addr)) (fp : List Addr) (Xb : Cx), Xb = X.blk s H scope (compEnvC scope cl C X.env) fp → PG Xb tg g ∧ PTs Xb ifs tt ∧ PI Xb tg1 iter1 wi1 ∧ PG Xb tg1 g1 ∧ PTs Xb ifs1 tt1 ∧ PE Xb kx tk ∧ PE Xb vx tv)
    (hs : ∀ x, foldedSetIterable iter X.env x = pure x) (hs1 : ∀ env x, foldedSetIterable iter1 env x = pure x) : PE X (.DictComp kx vx [⟨tg, iter, ifs, 0⟩, ⟨tg1, iter1, ifs1, 0⟩] scope pos) (tDc2 wi g tt wi1 g1 tt1 tk tv (own.map (·.2)) vs1) := by
  refine ⟨fun pins s σ H Q I h => ?_⟩
  rw [arm_eval_DictComp]
  exact dc2_core hc hN I hi ok hv hb hs hs1 h fun D C s' m H' I' q hn f => val_post I' q hn f
theorem ps_setDc2 (hc : X.calm = true) (hN : X.N.Nodup) (hy : X.N[i]? = some y) (hyl : X.env.scope.names.lookup y = some .local)
    (hsw : swapsWith (.DictComp kx vx [⟨tg, iter, ifs, 0⟩, ⟨tg1, iter1, ifs1, 0⟩] scope pos) (some (.Name y py)) spos.line X.env = pure true) (hi : PI X tg iter wi) (ok : BlkOk X.N X.env.scope scope own) (hv : ∀ i ∈ vs1, i ∈ own.map (·.2))
    (hb : ∀ (s : Shared) (H : Hp) (C : Addr) (cl : List (Str × Addr)) (fp : List Addr) (Xb : Cx), Xb = X.blk s H scope (compEnvC scope cl C X.env) fp → PG Xb tg g ∧ PTs Xb ifs tt ∧ PI Xb tg1 iter1 wi1 ∧ PG Xb tg1 g1 ∧ PTs Xb ifs1 tt1 ∧ PE Xb kx tk ∧ PE Xb vx tv)
    (hs : ∀ x, foldedSetIterable iter X.env x = pure x) (hs1 : ∀ env x, foldedSetIterable iter1 env x = pure x) :
    PS X (.Assign [.Name y py] (.DictComp kx vx [⟨tg, iter, ifs, 0⟩, ⟨tg1, iter1, ifs1, 0⟩] scope pos) spos) (tAsg (tDc2 wi g tt wi1 g1 tt1 tk tv (own.map (·.2)) vs1) (gName i)) := by
  refine ⟨fun pins s σ H E I h => ?_⟩
  rw [exec_Assign_Name_used _ _ _ _ hsw]
  refine wpAny_bind (wpAny_standAt (wpAny_bind ?_))
  show wpAny _ X.A (do let _ ← comprehension (.DictComp kx vx [⟨tg, iter, ifs, 0⟩, ⟨tg1, iter1, ifs1, 0⟩] scope pos) scope X.env (firstIterPos [⟨tg, iter, ifs, 0⟩, ⟨tg1, iter1, ifs1, 0⟩] pos) newDict false (eval iter X.env) (some (assign (.Name y py) X.env))) _ _ s
  have h : tDc2 wi g tt wi1 g1 tt1 tk tv (own.map (·.2)) vs1 σ H (fun x H1 => gName i x σ H1 E.nx) := h
  exact wpAny_bind (thn (dc2_core (Qf := fun _ s' => SP X pins E .next s') hc hN I hi ok hv hb hs hs1 h fun D C s' m H' I' q hn f => use_post hN hy hyl I' q hn f) fun _ s' hq => wpAny_pure (wpAny_pure hq))
theorem ps_setDc (hc : X.calm = true) (hN : X.N.Nodup) (hy : X.N[i]? = some y) (hyl : X.env.scope.names.lookup y = some .local)
    (hsw : swapsWith (.DictComp kx vx [⟨tg, iter, ifs, 0⟩] scope pos) (some (.Name y py)) spos.line X.env = pure true) (hi : PI X tg iter wi) (ok : BlkOk X.N X.env.scope scope own)
    (hb : ∀ (s : Shared) (H : Hp) (C : Addr) (cl : List (Str × Addr)) (fp : List Addr) (Xb : Cx), Xb = X.blk s H scope (compEnvC scope cl C X.env) fp → PG Xb tg g ∧ PTs Xb ifs tt ∧ PE Xb kx tk ∧ PE Xb vx tv)
    (hs : ∀ x, foldedSetIterable iter X.env x = pure x) : PS X (.Assign [.Name y py] (.DictComp kx vx [⟨tg, iter, ifs, 0⟩] scope pos) spos) (tAsg (tDc wi g tt tk tv (own.map (·.2))) (gName i)) := by
  refine ⟨fun pins s σ H E I h => ?_⟩
  rw [exec_Assign_Name_used _ _ _ _ hsw]
  refine wpAny_bind (wpAny_standAt (wpAny_bind ?_))
  show wpAny _ X.A (do let _ ← comprehension (.DictComp kx vx [⟨tg, iter, ifs, 0⟩] scope pos) scope X.env (firstIterPos [⟨tg, iter, ifs, 0⟩] pos) newDict false (eval iter X.env) (some (assign (.Name y py) X.env))) _ _ s
  have h : tDc wi g tt tk tv (own.map (·.2)) σ H (fun x H1 => gName i x σ H1 E.nx) := h
  exact wpAny_bind (thn (dc_core (Qf := fun _ s' => SP X pins E .next s') hc hN I hi ok (fun a b c d e => (hb a b c d e _ rfl).1) (fun a b c d e => (hb a b c d e _ rfl).2.1) (fun a b c d e => (hb a b c d e _ rfl).2.2.1) (fun a b c d e => (hb a b c d e _ rfl).2.2.2) hs h
    fun D C s' m H' I' q hn f => use_post hN hy hyl I' q hn f) fun _ s' hq => wpAny_pure (wpAny_pure hq))
end
end
end Ev
end
section
/-! Expressions: what is translated does as the evaluator says. -/
namespace Ev
open PySem L2 PyProof.Rows
open PySem.W (Frag)

/-- nothing gets out -/
abbrev Wf : WX := fun _ _ _ _ => False
def bnames : List Str := ["len", "abs", "int", "max", "min", "tuple", "list", "sorted", "sum", "range", "enumerate", "zip"]
/-- what is known where the code runs -/
structure Ctx (C : CallS) (T : List Addr) (X : Cx) (c : Cn) (W : WX) : Prop where
  N : X.N = c.N
  nd : c.N.Nodup
  sc : X.env.scope = c.sc
  calm : X.calm = true
  un : X.A.units + 64 < cLine
  tk : Takes X W
  bn : ∀ x ∈ bnames, X.mg x = none
  fn : ∀ x k, ixOf x c.fns = some k → ∃ a fd ps lv, X.mg x = some (.ref a) ∧ PySem.W.keepIn X.K (.ref a) = true ∧ Binds X.K fd ps [] ∧ Room lv X.A ∧
    FnOk X.prog X.w X.K X.mg X.base (L2.CX X.prog X.w) lv a fd ps (spD X.K T ps.length (C k)) ∧ ∀ ds S, C k ds S ≠ .bad → ds.length = ps.length

section
variable {C : CallS} {T : List Addr} {X : Cx} {c : Cn} {W : WX}
theorem PE_imp {e : Expr} {t t' : TE} (h : PE X e t) (i : ∀ σ H Q, t' σ H Q → t σ H Q) : PE X e t' := ⟨fun pins s σ H Q I q => h.run pins s σ H Q I (i _ _ _ q)⟩
theorem PT_imp {e : Expr} {t t' : TT} (h : PT X e t) (i : ∀ σ H Q, t' σ H Q → t σ H Q) : PT X e t' := ⟨fun pins s σ H Q I q => h.run pins s σ H Q I (i _ _ _ q)⟩
theorem PW_imp {e : Expr} {t t' : TT} (h : PW X e t) (i : ∀ σ H Q, t' σ H Q → t σ H Q) : PW X e t' := ⟨fun w pins s σ H Q I q => h.run w pins s σ H Q I (i _ _ _ q)⟩
theorem PA_imp {e : List Expr} {t t' : TA} (h : PA X e t) (i : ∀ σ H Q, t' σ H Q → t σ H Q) : PA X e t' := ⟨fun p pins s σ H Q I q => h.run p pins s σ H Q I (i _ _ _ q)⟩
theorem PI_imp {tg e : Expr} {t t' : TI} (h : PI X tg e t) (i : ∀ σ H Q, t' σ H Q → t σ H Q) : PI X tg e t' := ⟨fun pins s σ H Q I q => h.run pins s σ H Q I (i _ _ _ q)⟩
theorem PG_imp {e : Expr} {t t' : TG} (h : PG X e t) (i : ∀ v σ H Q, t' v σ H Q → t v σ H Q) : PG X e t' := ⟨fun pins s σ H v u Q I r q => h.run pins s σ H v u Q I r (i _ _ _ _ q)⟩
theorem PGs_imp {e : List Expr} {t t' : TGs} (h : PGs X e t) (i : ∀ v σ H Q, t' v σ H Q → t v σ H Q) : PGs X e t' := ⟨fun pins s σ H v u Q I r q => h.run pins s σ H v u Q I r (i _ _ _ _ q)⟩
theorem PTs_imp {e : List Expr} {t t' : TT} (h : PTs X e t) (i : ∀ σ H Q, t' σ H Q → t σ H Q) : PTs X e t' := ⟨fun pins s σ H Q I q => h.run pins s σ H Q I (i _ _ _ q)⟩
theorem PE_or {e : Expr} {t u : TE} (h : PE X e t) (g : PE X e u) : PE X e (fun σ H Q => t σ H Q ∨ u σ H Q) := ⟨fun pins s σ H Q I q => q.elim (h.run pins s σ H Q I) (g.run pins s σ H Q I)⟩
theorem PI_or {tg e : Expr} {t u : TI} (h : PI X tg e t) (g : PI X tg e u) : PI X tg e (fun σ H Q => t σ H Q ∨ u σ H Q) := ⟨fun pins s σ H Q I q => q.elim (h.run pins s σ H Q I) (g.run pins s σ H Q I)⟩

/-! ### names -/
theorem ixOf_get {x : Str} : ∀ {l : List Str} {i : Nat}, ixOf x l = some i → l[i]? = some x
  | [], _, h => by simp [ixOf] at h
  | a :: r, i, h => by
    unfold ixOf at h
    split at h
    · rename_i e; cases h; simp [e]
    · cases hr : ixOf x r with
      | none => rw [hr] at h; cases h
      | some j => rw [hr] at h; cases h; simpa using ixOf_get hr
theorem ixOf_none {x : Str} : ∀ {l : List Str}, ixOf x l = none → x ∉ l
  | [], _ => by simp
  | a :: r, h => by
    unfold ixOf at h
    split at h
    · cases h
    · rename_i e
      cases hr : ixOf x r with
      | none => simp only [List.mem_cons, not_or]; exact ⟨fun z => e z.symm, ixOf_none hr⟩
      | some j => rw [hr] at h; cases h
theorem nk_eq {a : Option NameKind} {b : NameKind} (h : (a == some b) = true) : a = some b := by
  cases a with
  | none => cases h
  | some a => cases a <;> cases b <;> first | rfl | cases h
theorem k_eq {a b : NameKind} (h : (a == b) = true) : a = b := by cases a <;> cases b <;> first | rfl | cases h
theorem k_beq (a : NameKind) : (a == a) = true := by cases a <;> rfl
theorem sk_eq {a b : ScopeKind} (h : (a == b) = true) : a = b := by cases a <;> cases b <;> first | rfl | cases h
theorem slot_ok (h : Ctx C T X c W) {x : Str} {i : Nat} (e : c.slot x = some i) : X.N[i]? = some x ∧ Vis X.env.scope x ∧ (x == ("__debug__" : Str)) = false ∧ (x == ("__classdict__" : Str)) = false := by
  unfold Cn.slot at e
  split at e
  · rename_i q
    simp only [Bool.and_eq_true, Bool.or_eq_true, Bool.not_eq_true'] at q
    refine ⟨by rw [h.N]; exact ixOf_get e, ?_, q.1.2, q.2⟩
    unfold Vis
    rw [h.sc]
    rcases q.1.1 with (a | a) | a
    · exact .inl (nk_eq a)
    · exact .inr (.inl (nk_eq a))
    · exact .inr (.inr (nk_eq a))
  · cases e
theorem slotW_ok (h : Ctx C T X c W) {x : Str} {i : Nat} (e : c.slotW x = some i) : X.N[i]? = some x ∧ L2.Loc X.env.scope x := by
  unfold Cn.slotW at e
  split at e
  · rename_i q
    simp only [Bool.and_eq_true, Bool.or_eq_true, Bool.not_eq_true'] at q
    refine ⟨by rw [h.N]; exact ixOf_get e, ?_⟩
    unfold L2.Loc
    rw [h.sc]
    rcases q.1.1 with a | a
    · exact .inl (nk_eq a)
    · exact .inr (nk_eq a)
  · cases e
theorem glob_ok (h : Ctx C T X c W) {x : Str} (e : c.glob x = true) : Gl X x ∧ (x == ("__debug__" : Str)) = false := by
  unfold Cn.glob at e
  simp only [Bool.and_eq_true, Bool.not_eq_true'] at e
  exact ⟨by unfold Gl Env.kindOf; rw [h.sc]; exact nk_eq e.1, e.2⟩
theorem star_ok {e : Expr} {es : List Expr} {env : PySem.Env} (h : starred e = false) : starEach (e :: es) env = (false, eval e env) :: starEach es env := by cases e <;> first | rfl | cases h
theorem assign_ok {e : Expr} {es : List Expr} {env : PySem.Env} (h : starred e = false) : assignEach (e :: es) env = (false, assign e env) :: assignEach es env := by cases e <;> first | rfl | cases h
theorem plain_ok {pos : Pos} {env : PySem.Env} : ∀ {es : List Expr}, (∀ e ∈ es, starred e = false) → (backTo pos (starEach es env)).any (·.1) = false
  | [], _ => rfl
  | e :: es, h => by
    rw [star_ok (h e (List.mem_cons_self ..))]
    show ((false, _) :: backTo pos (starEach es env)).any (·.1) = false
    rw [List.any_cons, plain_ok fun e he => h e (List.mem_cons_of_mem _ he)]
    rfl
theorem trEs_star {n : Nat} : ∀ {es : List Expr} {m : Nat} {ies : IEs}, trEs m c es = some ies → ∀ e ∈ es, starred e = false
  | [], _, _, _ => by simp
  | e :: es, 0, _, h => by simp [trEs] at h
  | e :: es, m + 1, _, h => by
    simp only [trEs] at h
    split at h
    · cases h
    · rename_i q
      simp only [Option.bind_eq_bind, Option.bind_eq_some_iff] at h
      obtain ⟨_, _, _, h2, _⟩ := h
      intro a ha
      rcases List.mem_cons.mp ha with rfl | ha
      · simpa using q
      · exact trEs_star (n := n) h2 a ha
/-- a test that is no and, or, not, comparison, conditional -/
def plainT : Expr → Bool
  | .UnaryOp .Not _ _ => false
  | .BoolOp .. => false
  | .IfExp .. => false
  | .Compare .. => false
  | _ => true
theorem plainT_ok {e : Expr} {env : PySem.Env} (h : plainT e = true) (whole : Sem Value) : isTrue e env whole = (do let v ← whole; standAt e.pos; holding [v] (truthy v)) := by
  cases e with
  | UnaryOp op x pos => cases op <;> first | rfl | cases h
  | BoolOp => cases h
  | IfExp => cases h
  | Compare => cases h
  | _ => rfl
theorem pt_ifExp {t a b : Expr} {pos : Pos} {tt ta tb : TT} (ht : PT X t tt) (ha : PT X a ta) (hb : PT X b tb) : PT X (.IfExp t a b pos) (fun σ H Q => tt σ H fun k H1 => if k = true then ta σ H1 Q else tb σ H1 Q) := by
  refine ⟨fun pins s σ H Q I h => ?_⟩
  show wpAny _ _ (do if ← isTrue t X.env (eval t X.env) then isTrue a X.env (eval a X.env) else isTrue b X.env (eval b X.env)) _ _ _
  refine wpAny_bind (thn (ht.run pins s σ H _ I h) fun k s1 ⟨H1, I1, q⟩ => ?_)
  cases k
  · exact hb.run pins s1 σ H1 Q I1 q
  · exact ha.run pins s1 σ H1 Q I1 q
theorem set_ok {e : Expr} {env : PySem.Env} (h : isSet e = false) (x : Value) : foldedSetIterable e env x = pure x := by cases e <;> first | rfl | cases h
theorem marks_ok {e : Expr} {op : CmpOp} (h : isSet e = false) : behindInMarks op e = false := by cases e <;> first | rfl | cases h
theorem ix_ok {e : Expr} (h : isSlice e = false) : PlainIx e := fun o i => by cases e <;> first | rfl | cases h
theorem base_ok {o : Expr} {m : Str} {env : PySem.Env} (h : isCall o = false) : attributeBase o m env (eval o env) = eval o env := by cases o <;> first | rfl | cases h

/-! ### blocks -/
theorem own_mem {N : List Str} {y : Str} {i : Nat} : ∀ {l : List (Str × NameKind)}, (y, i) ∈ ownOf N l → ∃ k, (y, k) ∈ l ∧ (k = .local ∨ k = .cell) ∧ ixOf y N = some i
  | [], h => by simp [ownOf] at h
  | (n, k) :: r, h => by
    unfold ownOf at h
    split at h
    · rename_i j e
      split at e
      · rename_i q
        rcases List.mem_cons.mp h with z | z
        · cases z; exact ⟨k, List.mem_cons_self .., q, e⟩
        · obtain ⟨k', a, b⟩ := own_mem z; exact ⟨k', List.mem_cons_of_mem _ a, b⟩
      · cases e
    · obtain ⟨k', a, b⟩ := own_mem h; exact ⟨k', List.mem_cons_of_mem _ a, b⟩
theorem own_has {N : List Str} {y : Str} {k : NameKind} : ∀ {l : List (Str × NameKind)}, (y, k) ∈ l → (k = .local ∨ k = .cell) → y ∈ (ownOf N l).map (·.1) ∨ y ∉ N
  | [], h, _ => by simp at h
  | (n, k') :: r, h, hk => by
    unfold ownOf
    rcases List.mem_cons.mp h with z | z
    · cases z
      rw [if_pos hk]
      cases e : ixOf y N with
      | none => exact .inr (ixOf_none e)
      | some j => exact .inl (List.mem_cons_self ..)
    · rcases own_has z hk with a | a
      · left
        split
        · exact List.mem_cons_of_mem _ a
        · exact a
      · exact .inr a
theorem blk_ok (h : Ctx C T X c W) {scope : Scope} (b : blkB c.N c.sc scope = true) : BlkOk X.N X.env.scope scope (ownOf c.N scope.names) := by
  unfold blkB uniqB freeB at b
  simp only [Bool.and_eq_true, List.all_eq_true, Bool.or_eq_true] at b
  obtain ⟨⟨⟨b1, b2⟩, b3⟩, b4⟩ := b
  refine ⟨sk_eq b1, fun y hy => nk_eq (b3 y hy), fun p hp => ?_, fun y hy e => ?_, fun y hy e => ?_⟩
  · obtain ⟨k, _, _, e⟩ := own_mem hp
    rw [h.N]; exact ixOf_get e
  · rw [h.sc]
    rcases b4 y hy with (z | z) | z
    · rw [e] at z; cases z
    · exact .inl (nk_eq z)
    · exact .inr (nk_eq z)
  · rw [h.N]; exact own_has (k := y.2) hy e
theorem blk_ctx (h : Ctx C T X c W) {scope : Scope} {s : Shared} {H : Hp} {cl : List (Str × Addr)} {A : Addr} {fp : List Addr} {Xb : Cx} (e : Xb = X.blk s H scope (compEnvC scope cl A X.env) fp) : Ctx C T Xb { c with sc := relS' scope c.sc } Wf := by
  subst e
  refine ⟨h.N, h.nd, ?_, h.calm, h.un, LamX.takes0, h.bn, h.fn⟩
  show relabel scope X.env = relS' scope c.sc
  unfold relabel relS' Env.kindOf
  rw [h.sc]
/-- may be stored to -/
def Wr (X : Cx) (i : Nat) : Prop := ∀ x, X.N[i]? = some x → X.fn x = true ∨ X.env.scope.names.lookup x = some .local
theorem blk_wr (h : Ctx C T X c W) {scope : Scope} (b : blkB c.N c.sc scope = true) {s : Shared} {H : Hp} {cl : List (Str × Addr)} {A : Addr} {fp : List Addr} {Xb : Cx} (e : Xb = X.blk s H scope (compEnvC scope cl A X.env) fp) {i : Nat} (hi : i ∈ (ownOf c.N scope.names).map (·.2)) : Wr Xb i := by
  subst e
  intro x hx
  obtain ⟨⟨y, j⟩, hp, rfl⟩ := List.mem_map.mp hi
  obtain ⟨k, hm, hk, hj⟩ := own_mem hp
  have hx' : c.N[j]? = some x := by rw [← h.N]; exact hx
  have e := ixOf_get hj
  rw [e] at hx'
  obtain rfl := Option.some.inj hx'
  have u := (blk_ok h b).uniq (y, k) hm
  rcases hk with rfl | rfl
  · exact .inr (lookup_relabel_local u)
  · left
    show (scope.names.lookup y == some NameKind.cell) = true
    rw [u]; rfl
end
end Ev
end
section
set_option maxRecDepth 10000
namespace Ev
open PySem L2 PyProof.Rows
open PySem.W (Frag)

/-- all that is translated with n steps does as the evaluator says -/
structure Snd (C : CallS) (T : List Addr) (n : Nat) : Prop where
  E : ∀ {X : Cx} {c : Cn} {W : WX}, Ctx C T X c W → ∀ {e : Expr} {ie : IE}, trE n c e = some ie → PE X e (RE X.K T W (evE C ie))
  P : ∀ {X : Cx} {c : Cn} {W : WX}, Ctx C T X c W → ∀ {e : Expr} {ie : IE}, trE n c e = some ie → PT X e (RT X.K T W (tru (evE C ie)))
  A : ∀ {X : Cx} {c : Cn} {W : WX}, Ctx C T X c W → ∀ {a : Expr} {r : List Expr} {pos : Pos} {ia ie : IE}, PE X a (RE X.K T W (evE C ia)) → trB n c true ia r = some ie → PE X (.BoolOp .And (a :: r) pos) (RE X.K T W (evE C ie))
  O : ∀ {X : Cx} {c : Cn} {W : WX}, Ctx C T X c W → ∀ {a : Expr} {r : List Expr} {pos : Pos} {ia ie : IE}, PE X a (RE X.K T W (evE C ia)) → trB n c false ia r = some ie → PE X (.BoolOp .Or (a :: r) pos) (RE X.K T W (evE C ie))
  AT : ∀ {X : Cx} {c : Cn} {W : WX}, Ctx C T X c W → ∀ {a : Expr} {r : List Expr} {pos : Pos} {ia ie : IE}, PT X a (RT X.K T W (tru (evE C ia))) → trB n c true ia r = some ie → PW X (.BoolOp .And (a :: r) pos) (RT X.K T W (tru (evE C ie)))
  OT : ∀ {X : Cx} {c : Cn} {W : WX}, Ctx C T X c W → ∀ {a : Expr} {r : List Expr} {pos : Pos} {ia ie : IE}, PT X a (RT X.K T W (tru (evE C ia))) → trB n c false ia r = some ie → PW X (.BoolOp .Or (a :: r) pos) (RT X.K T W (tru (evE C ie)))
  Es : ∀ {X : Cx} {c : Cn} {W : WX}, Ctx C T X c W → ∀ {es : List Expr} {ies : IEs}, trEs n c es = some ies → PA X es (RA X.K T W (evEs C ies))
  Ps : ∀ {X : Cx} {c : Cn} {W : WX}, Ctx C T X c W → ∀ {ks : List (Option Expr)} {vs : List Expr} {ps : IPs} {pos : Pos}, trPs n c ks vs = some ps → PPs X pos ks vs (trsOf X.K T W C ps) ∧ ks.all (·.isSome) = true ∧ ks.length = vs.length
  Op : ∀ {X : Cx} {c : Cn} {W : WX}, Ctx C T X c W → ∀ {e : Option Expr} {ie : IEo}, trO n c e = some ie → PO X e (RO X.K T W (evEo C ie))
  I : ∀ {X : Cx} {c : Cn} {W : WX}, Ctx C T X c W → ∀ {e tg : Expr} {ii : II}, trI n c e = some ii → (pairsOnly ii && !isTup tg) = false → PI X tg e (RI X.K T W (evI C ii)) ∧ isSet e = false
  Ts : ∀ {X : Cx} {c : Cn}, Ctx C T X c Wf → ∀ {es : List Expr} {ies : IEs}, trT n c es = some ies → PTs X es (RTs X.K T C ies)
  G : ∀ {X : Cx} {c : Cn} {W : WX}, Ctx C T X c W → ∀ {e : Expr} {g : IG}, trG n c e = some g → (∀ i ∈ gslots g, Wr X i) → PG X e (RG X.K C g)
  Gs : ∀ {X : Cx} {c : Cn} {W : WX}, Ctx C T X c W → ∀ {es : List Expr} {gs : IGs}, trGs n c es = some gs → (∀ i ∈ gslots.gslotss gs, Wr X i) → PGs X es (RGs X.K C gs) ∧ (∀ e ∈ es, starred e = false) ∧ es.length = glen gs

section
variable {C : CallS} {T : List Addr} {X : Cx} {c : Cn} {W : WX} {n : Nat}
theorem Snd.zero : Snd C T 0 where
  E := by
    intros; rename_i h; simp [trE] at h
  P := by
    intros; rename_i h; simp [trE] at h
  A := by
    intros; rename_i h; simp [trB] at h
  O := by
    intros; rename_i h; simp [trB] at h
  AT := by
    intros; rename_i h; simp [trB] at h
  OT := by
    intros; rename_i h; simp [trB] at h
  Es := by
    intros; rename_i h; simp [trEs] at h
  Ps := by
    intros; rename_i h; simp [trPs] at h
  Op := by
    intros; rename_i h; simp [trO] at h
  I := by
    intros; rename_i h _; simp [trI] at h
  Ts := by
    intros; rename_i h; simp [trT] at h
  G := by
    intros; rename_i h _; simp [trG] at h
  Gs := by
    intros; rename_i h _; simp [trGs] at h

theorem snd_A (ih : Snd C T n) (h : Ctx C T X c W) {a : Expr} {r : List Expr} {pos : Pos} {ia ie : IE} (pa : PE X a (RE X.K T W (evE C ia))) (e : trB (n + 1) c true ia r = some ie) : PE X (.BoolOp .And (a :: r) pos) (RE X.K T W (evE C ie)) := by
  cases r with
  | nil => simp only [trB, Option.some.injEq] at e; subst e; exact pe_one pa
  | cons b r =>
    simp only [trB, Option.bind_eq_bind, Option.bind_eq_some_iff, Option.some.injEq, if_true] at e
    obtain ⟨ib, e1, ir, e2, rfl⟩ := e
    exact PE_imp (pe_andT pa (ih.A h (ih.E h e1) e2)) fun σ H Q q => re_and q
theorem snd_O (ih : Snd C T n) (h : Ctx C T X c W) {a : Expr} {r : List Expr} {pos : Pos} {ia ie : IE} (pa : PE X a (RE X.K T W (evE C ia))) (e : trB (n + 1) c false ia r = some ie) : PE X (.BoolOp .Or (a :: r) pos) (RE X.K T W (evE C ie)) := by
  cases r with
  | nil => simp only [trB, Option.some.injEq] at e; subst e; exact pe_one pa
  | cons b r =>
    simp only [trB, Option.bind_eq_bind, Option.bind_eq_some_iff, Option.some.injEq, Bool.false_eq_true, if_false] at e
    obtain ⟨ib, e1, ir, e2, rfl⟩ := e
    exact PE_imp (pe_orT pa (ih.O h (ih.E h e1) e2)) fun σ H Q q => re_or q
theorem snd_AT (ih : Snd C T n) (h : Ctx C T X c W) {a : Expr} {r : List Expr} {pos : Pos} {ia ie : IE} (pa : PT X a (RT X.K T W (tru (evE C ia)))) (e : trB (n + 1) c true ia r = some ie) : PW X (.BoolOp .And (a :: r) pos) (RT X.K T W (tru (evE C ie))) := by
  cases r with
  | nil => simp only [trB, Option.some.injEq] at e; subst e; exact pw_and1 pa
  | cons b r =>
    simp only [trB, Option.bind_eq_bind, Option.bind_eq_some_iff, Option.some.injEq, if_true] at e
    obtain ⟨ib, e1, ir, e2, rfl⟩ := e
    exact PW_imp (pw_and pa (ih.AT h (ih.P h e1) e2)) fun σ H Q q => rt_and q
theorem snd_OT (ih : Snd C T n) (h : Ctx C T X c W) {a : Expr} {r : List Expr} {pos : Pos} {ia ie : IE} (pa : PT X a (RT X.K T W (tru (evE C ia)))) (e : trB (n + 1) c false ia r = some ie) : PW X (.BoolOp .Or (a :: r) pos) (RT X.K T W (tru (evE C ie))) := by
  cases r with
  | nil => simp only [trB, Option.some.injEq] at e; subst e; exact pw_or1 pa
  | cons b r =>
    simp only [trB, Option.bind_eq_bind, Option.bind_eq_some_iff, Option.some.injEq, Bool.false_eq_true, if_false] at e
    obtain ⟨ib, e1, ir, e2, rfl⟩ := e
    exact PW_imp (pw_or pa (ih.OT h (ih.P h e1) e2)) fun σ H Q q => rt_or q
theorem snd_Es (ih : Snd C T n) (h : Ctx C T X c W) {es : List Expr} {ies : IEs} (e : trEs (n + 1) c es = some ies) : PA X es (RA X.K T W (evEs C ies)) := by
  cases es with
  | nil => simp only [trEs, Option.some.injEq] at e; subst e; exact PA_imp pa_nil fun σ H Q q => ra_nil q
  | cons a r =>
    simp only [trEs] at e
    split at e
    · cases e
    · rename_i q
      simp only [Option.bind_eq_bind, Option.bind_eq_some_iff, Option.some.injEq] at e
      obtain ⟨ia, e1, ir, e2, rfl⟩ := e
      exact PA_imp (pa_cons (ih.E h e1) (ih.Es h e2) (star_ok (by simpa using q))) fun σ H Q q => ra_cons q
theorem snd_Ps (ih : Snd C T n) (h : Ctx C T X c W) {ks : List (Option Expr)} {vs : List Expr} {ps : IPs} {pos : Pos} (e : trPs (n + 1) c ks vs = some ps) : PPs X pos ks vs (trsOf X.K T W C ps) ∧ ks.all (·.isSome) = true ∧ ks.length = vs.length := by
  cases ks with
  | nil =>
    cases vs with
    | nil => simp only [trPs, Option.some.injEq] at e; subst e; exact ⟨pps_nil, rfl, rfl⟩
    | cons _ _ => simp [trPs] at e
  | cons k ks =>
    cases k with
    | none => simp [trPs] at e
    | some k =>
      cases vs with
      | nil => simp [trPs] at e
      | cons v vs =>
        simp only [trPs, Option.bind_eq_bind, Option.bind_eq_some_iff, Option.some.injEq] at e
        obtain ⟨ik, e1, iv, e2, ir, e3, rfl⟩ := e
        obtain ⟨p1, p2, p3⟩ := ih.Ps (pos := pos) h e3
        exact ⟨pps_cons (ih.E h e1) (ih.E h e2) p1, by rw [List.all_cons, p2]; rfl, by rw [List.length_cons, List.length_cons, p3]⟩
theorem snd_Op (ih : Snd C T n) (h : Ctx C T X c W) {o : Option Expr} {ie : IEo} (e : trO (n + 1) c o = some ie) : PO X o (RO X.K T W (evEo C ie)) := by
  cases o with
  | none => simp only [trO, Option.some.injEq] at e; subst e; exact ⟨fun pins s σ H Q I q => po_none.run pins s σ H Q I (ro_none q)⟩
  | some a =>
    simp only [trO, Option.map_eq_some_iff] at e
    obtain ⟨ia, e1, rfl⟩ := e
    exact ⟨fun pins s σ H Q I q => (po_some (ih.E h e1)).run pins s σ H Q I (ro_some q)⟩
theorem snd_Ts (ih : Snd C T n) (h : Ctx C T X c Wf) {es : List Expr} {ies : IEs} (e : trT (n + 1) c es = some ies) : PTs X es (RTs X.K T C ies) := by
  cases es with
  | nil =>
    simp only [trT, Option.some.injEq] at e
    subst e
    refine PTs_imp pts_nil fun σ H Q ⟨r, env, S, he, si, g⟩ => ?_
    simp only [evT, tres] at g
    exact g r true H (Xt.refl _ _) rfl si
  | cons a r =>
    cases r with
    | nil =>
      simp only [trT, Option.map_eq_some_iff] at e
      obtain ⟨ia, e1, rfl⟩ := e
      refine PTs_imp (pts_one (ih.P h e1)) fun σ H Q ⟨r, env, S, he, si, g⟩ => ⟨r, env, S, he, si, ?_⟩
      simp only [evT, tres, tru] at g ⊢
      cases hx : evE C ia env S with
      | bad => rw [hx] at g; exact g
      | exc ex S1 => rw [hx] at g; exact False.elim g
      | ok d S1 =>
        rw [hx] at g
        simp only [Res.bind] at g ⊢
        cases ht : truth S1 d with
        | none => rw [ht] at g; exact g
        | some b => rw [ht] at g; exact g
    | cons _ _ => simp [trT] at e
theorem snd_Gs (ih : Snd C T n) (h : Ctx C T X c W) {es : List Expr} {gs : IGs} (e : trGs (n + 1) c es = some gs) (hw : ∀ i ∈ gslots.gslotss gs, Wr X i) : PGs X es (RGs X.K C gs) ∧ (∀ e ∈ es, starred e = false) ∧ es.length = glen gs := by
  cases es with
  | nil => simp only [trGs, Option.some.injEq] at e; subst e; exact ⟨PGs_imp pgs_nil fun v σ H Q q => rgs_nil q, by simp, rfl⟩
  | cons a r =>
    simp only [trGs] at e
    split at e
    · cases e
    · rename_i q
      simp only [Option.bind_eq_bind, Option.bind_eq_some_iff, Option.some.injEq] at e
      obtain ⟨ia, e1, ir, e2, rfl⟩ := e
      simp only [gslots.gslotss, List.mem_append] at hw
      have q' : starred a = false := by simpa using q
      obtain ⟨p1, p2, p3⟩ := ih.Gs h e2 fun i hi => hw i (.inr hi)
      refine ⟨PGs_imp (pgs_cons (ih.G h e1 fun i hi => hw i (.inl hi)) p1 (by rw [assign_ok q']; rfl)) fun v σ H Q q => rgs_cons q, fun x hx => ?_, by simp [glen, p3]⟩
      rcases List.mem_cons.mp hx with rfl | hx
      · exact q'
      · exact p2 x hx
theorem ev_len {env : PySem.Env} : ∀ {es : List Expr}, (∀ e ∈ es, starred e = false) → (assignEach es env).length = es.length ∧ (assignEach es env).findIdx? (·.1) = none
  | [], _ => ⟨rfl, rfl⟩
  | e :: es, h => by
    obtain ⟨a, b⟩ := ev_len (env := env) fun e he => h e (List.mem_cons_of_mem _ he)
    rw [assign_ok (h e (List.mem_cons_self ..))]
    exact ⟨by simp [a], by rw [List.findIdx?_cons, b]; rfl⟩
theorem snd_G (ih : Snd C T n) (h : Ctx C T X c W) {a : Expr} {g : IG} (e : trG (n + 1) c a = some g) (hw : ∀ i ∈ gslots g, Wr X i) : PG X a (RG X.K C g) := by
  cases a with
  | Name x pos =>
    simp only [trG, Option.map_eq_some_iff] at e
    obtain ⟨i, e1, rfl⟩ := e
    obtain ⟨s1, s2⟩ := slotW_ok h e1
    exact PG_imp (pg_name (by rw [h.N]; exact h.nd) s1 s2 (hw i (by simp [gslots]) x s1)) fun v σ H Q q => rg_var q
  | Tuple es k pos =>
    simp only [trG, Option.map_eq_some_iff] at e
    obtain ⟨gs, e1, rfl⟩ := e
    obtain ⟨p1, p2, p3⟩ := ih.Gs h e1 hw
    obtain ⟨l1, l2⟩ := ev_len (env := X.env) p2
    exact PG_imp (pg_tup h.calm p1 (l1.trans p3) l2) fun v σ H Q q => rg_tup q
  | Subscript o i pos =>
    simp only [trG] at e
    split at e
    · cases e
    · rename_i q
      simp only [Option.bind_eq_bind, Option.bind_eq_some_iff, Option.some.injEq] at e
      obtain ⟨io, e1, ii, e2, rfl⟩ := e
      refine PG_imp (pg_sub (ih.E h e1) (ih.E h e2) (setE (Nat.lt_of_le_of_lt (Nat.add_le_add_left (by decide) _) h.un)) ?_) fun v σ H Q q => rg_sub q
      intro v
      cases i <;> first | rfl | exact absurd rfl q
  | _ => simp [trG] at e
end
end Ev
end
section
set_option maxRecDepth 10000
namespace Ev
open PySem L2 PyProof.Rows
open PySem.W (Frag)

section
variable {C : CallS} {T : List Addr} {X : Cx} {c : Cn} {W : WX} {n : Nat}
theorem Ctx.un1 (h : Ctx C T X c W) : X.A.units + 1 < cLine := Nat.lt_of_le_of_lt (Nat.add_le_add_left (by decide) _) h.un
theorem Ctx.nodup (h : Ctx C T X c W) : X.N.Nodup := by rw [h.N]; exact h.nd

/-! ### calls -/
theorem bi_names {x : Str} {k : Nat} {b : BI} (h : builtinOf x k = some b) : x ∈ bnames ∧ bootBuiltins x = some (biV b) ∧ x ≠ ("__name__" : Str) ∧ k ≠ 0 := by
  unfold builtinOf at h
  repeat' split at h
  all_goals first
    | (cases h; done)
    | (rename_i q; obtain ⟨rfl, rfl⟩ := q; cases h; exact ⟨by decide, by decide +kernel, by decide, by decide⟩)
theorem pe_bi {x : Str} {p pos : Pos} {e : Expr} {es : List Expr} {t : TA} {b : BI} {r : List V → Hp → VK → Prop} (hc : CallR X (biV b) r) (hg : Gl X x) (hm : X.mg x = none) (hv : bootBuiltins x = some (biV b)) (ha : PA X (e :: es) t) (hn : x ≠ ("__name__" : Str)) (hdb : (x == ("__debug__" : Str)) = false)
    (he : starEach (e :: es) X.env = (false, eval e X.env) :: starEach es X.env) (hpl : (backTo pos (starEach es X.env)).any (·.1) = false) : PE X (.Call (.Name x p) (e :: es) [] pos) (tCB r t) := by
  cases b <;> first
    | exact pe_callB hc hg hm hv ha hn hdb he hpl
    | exact pe_callTy hc hg hm hv ha hn hdb he hpl
theorem me_names {x : Str} {k : Nat} {m : ME} (h : methodOf x k = some m) : k = 1 ∧ ((x = ("append" : Str) ∧ m = .append) ∨ (x = ("index" : Str) ∧ m = .index)) := by
  unfold methodOf at h
  repeat' split at h
  all_goals first
    | (cases h; done)
    | (rename_i q; obtain ⟨rfl, rfl⟩ := q; cases h; exact ⟨rfl, .inl ⟨rfl, rfl⟩⟩)
    | (rename_i q; obtain ⟨rfl, rfl⟩ := q; cases h; exact ⟨rfl, .inr ⟨rfl, rfl⟩⟩)
theorem snd_call (ih : Snd C T n) (h : Ctx C T X c W) {f : Expr} {es : List Expr} {ks : List Keyword} {pos : Pos} {ie : IE} (e : trE (n + 1) c (.Call f es ks pos) = some ie) : PE X (.Call f es ks pos) (RE X.K T W (evE C ie)) := by
  simp only [trE] at e
  cases ks with
  | cons _ _ => cases e
  | nil =>
    cases f with
    | Name x p =>
      simp only at e
      split at e
      · rename_i hgl
        obtain ⟨g1, g2⟩ := glob_ok h hgl
        split at e
        · rename_i k hk
          split at e
          · cases e
          · rename_i hne
            simp only [Option.map_eq_some_iff] at e
            obtain ⟨ies, e1, rfl⟩ := e
            cases es with
            | nil => exact absurd rfl hne
            | cons a r =>
              obtain ⟨fa, fd, ps, lv, f1, f2, f3, f4, f5, f6⟩ := h.fn x k hk
              have st := trEs_star (n := n) e1
              exact PE_imp (pe_callS (E := WE W) f5 f4 g1 f1 f2 f3 (fun σ => passAt h.tk σ) (ih.Es h e1) g2 (star_ok (st a (List.mem_cons_self ..))) (plain_ok fun x hx => st x (List.mem_cons_of_mem _ hx))) fun σ H Q q => re_call f6 q
        · rename_i hk
          split at e
          · rename_i b hb
            simp only [Option.map_eq_some_iff] at e
            obtain ⟨ies, e1, rfl⟩ := e
            obtain ⟨b1, b2, b3, b4⟩ := bi_names hb
            cases es with
            | nil => exact absurd rfl b4
            | cons a r =>
              have st := trEs_star (n := n) e1
              exact PE_imp (pe_bi (biE h.calm b) g1 (h.bn x b1) b2 (ih.Es h e1) b3 g2 (star_ok (st a (List.mem_cons_self ..))) (plain_ok fun x hx => st x (List.mem_cons_of_mem _ hx))) fun σ H Q q => re_bi (biD_nx b) q
          · cases e
      · cases e
    | Attribute o m apos =>
      simp only at e
      split at e
      · cases e
      · rename_i q
        simp only [Bool.or_eq_true, Bool.not_eq_true', not_or, Bool.not_eq_true, Bool.not_eq_false] at q
        simp only [Option.bind_eq_bind, Option.bind_eq_some_iff, Option.some.injEq] at e
        obtain ⟨me, e1, io, e2, ies, e3, rfl⟩ := e
        obtain ⟨k1, k2⟩ := me_names e1
        cases es with
        | nil => cases k1
        | cons a r =>
          cases r with
          | cons _ _ => simp at k1
          | nil =>
            have st := trEs_star (n := n) e3 a (List.mem_cons_self ..)
            have hs : starEach [a] X.env = (false, eval a X.env) :: starEach [] X.env := star_ok st
            have few : ((backTo pos (starEach [a] X.env)).all (fun x => !x.1) && (backToKw pos (keywordEach [] X.env)).all (fun x => x.1.isSome) && decide ([a].length + ([] : List Keyword).length + (if ([] : List Keyword).isEmpty then 0 else 1) < 30)) = true := by rw [hs]; rfl
            rcases k2 with ⟨rfl, rfl⟩ | ⟨rfl, rfl⟩
            · exact PE_imp (pe_bm PySem.F.plainAttrs_list PySem.F.slot_list_append PySem.F.type_list_append me_append (ih.E h e2) (ih.Es h e3) (base_ok q.1) few q.2 hs rfl) fun σ H Q q => re_append q
            · exact PE_imp (PE_or (pe_bm PySem.F.plainAttrs_str PySem.F.slot_str_index PySem.F.type_str_index me_sindex (ih.E h e2) (ih.Es h e3) (base_ok q.1) few q.2 hs rfl)
                (pe_bm PySem.F.plainAttrs_list PySem.F.slot_list_index PySem.F.type_list_index me_lindex (ih.E h e2) (ih.Es h e3) (base_ok q.1) few q.2 hs rfl)) fun σ H Q q => re_index q
    | _ => cases e

/-! ### comprehensions -/
theorem rg_wr (h : Ctx C T X c W) {scope : Scope} (b : blkB c.N c.sc scope = true) {s : Shared} {H : Hp} {cl : List (Str × Addr)} {A : Addr} {fp : List Addr} {Xb : Cx} (e : Xb = X.blk s H scope (compEnvC scope cl A X.env) fp) {g : IG} (hg : (gslots g).all ((ownOf c.N scope.names).map (·.2)).contains = true) : ∀ i ∈ gslots g, Wr Xb i := fun i hi =>
  blk_wr h b e (by simpa using List.all_eq_true.mp hg i hi)
theorem sub_of {g : IG} {vs : List Nat} (hg : (gslots g).all vs.contains = true) : ∀ i ∈ gslots g, i ∈ vs := fun i hi => by simpa using List.all_eq_true.mp hg i hi
end
end Ev
end
section
set_option maxRecDepth 10000
namespace Ev
open PySem L2 PyProof.Rows
open PySem.W (Frag)

section
variable {C : CallS} {T : List Addr} {X : Cx} {c : Cn} {W : WX} {n : Nat}
theorem pi_val {tg e : Expr} {ie : IE} (p : PE X e (RE X.K T W (evE C ie))) : PI X tg e (RI X.K T W (evI C (.val ie))) :=
  PI_imp (PI_or (pi_list p) (PI_or (pi_tup p) (pi_str p))) fun σ H Q q => ri_val q
theorem snd_I (ih : Snd C T n) (h : Ctx C T X c W) {a tg : Expr} {ii : II} (e : trI (n + 1) c a = some ii) (ht : (pairsOnly ii && !isTup tg) = false) : PI X tg a (RI X.K T W (evI C ii)) ∧ isSet a = false := by
  simp only [trI] at e
  split at e
  · cases e
  · rename_i hset
    refine ⟨?_, by simpa using hset⟩
    split at e
    · rename_i x p es ks pos
      cases ks with
      | cons _ _ => cases e
      | nil =>
        simp only at e
        split at e
        · rename_i q
          simp only [Bool.and_eq_true] at q
          obtain ⟨g1, g2⟩ := glob_ok h q.1
          split at e
          · rename_i hx
            subst hx
            have hm := h.bn "range" (by decide)
            split at e
            · rename_i a1
              split at e
              · cases e
              · rename_i s1
                simp only [Option.map_eq_some_iff] at e
                obtain ⟨ia, e1, rfl⟩ := e
                have s1 : starred a1 = false := by simpa using s1
                exact PI_imp (pi_range1 g1 hm (pa_cons (ih.E h e1) pa_nil (star_ok s1)) (star_ok s1)) fun σ H Q q => ri_rng1 q
            · rename_i a1 a2
              split at e
              · cases e
              · rename_i s1
                simp only [Option.bind_eq_bind, Option.bind_eq_some_iff, Option.some.injEq] at e
                obtain ⟨ia, e1, ib, e2, rfl⟩ := e
                simp only [Bool.or_eq_true, not_or, Bool.not_eq_true] at s1
                have z2 : starEach [a2] X.env = [(false, eval a2 X.env)] := star_ok s1.2
                have z1 : starEach [a1, a2] X.env = (false, eval a1 X.env) :: starEach [a2] X.env := star_ok s1.1
                exact PI_imp (pi_range2 g1 hm (pa_cons (ih.E h e1) (pa_cons (ih.E h e2) pa_nil z2) z1) (by rw [z1, z2]) z2) fun σ H Q q => ri_rng2 q
            · rename_i a1 a2 a3
              split at e
              · cases e
              · rename_i s1
                simp only [Option.bind_eq_bind, Option.bind_eq_some_iff, Option.some.injEq] at e
                obtain ⟨ia, e1, ib, e2, ic, e3, rfl⟩ := e
                simp only [Bool.or_eq_true, not_or, Bool.not_eq_true] at s1
                have z3 : starEach [a3] X.env = (false, eval a3 X.env) :: starEach [] X.env := star_ok s1.2
                have z2 : starEach [a2, a3] X.env = (false, eval a2 X.env) :: starEach [a3] X.env := star_ok s1.1.2
                have z1 : starEach [a1, a2, a3] X.env = (false, eval a1 X.env) :: starEach [a2, a3] X.env := star_ok s1.1.1
                exact PI_imp (pi_range3 g1 hm (pa_cons (ih.E h e1) (pa_cons (ih.E h e2) (pa_cons (ih.E h e3) pa_nil z3) z2) z1) z1 (by rw [z2, z3]; rfl)) fun σ H Q q => ri_rng3 q
            · cases e
          · split at e
            · rename_i hx
              subst hx
              have hm := h.bn "enumerate" (by decide)
              split at e
              · rename_i a1
                split at e
                · cases e
                · rename_i s1
                  simp only [Option.map_eq_some_iff] at e
                  obtain ⟨ia, e1, rfl⟩ := e
                  have s1 : starred a1 = false := by simpa using s1
                  cases tg with
                  | Tuple elts kk tpos => exact PI_imp (PI_or (pi_enum g1 hm (pa_cons (ih.E h e1) pa_nil (star_ok s1)) (star_ok s1)) (pi_enumT g1 hm (pa_cons (ih.E h e1) pa_nil (star_ok s1)) (star_ok s1))) fun σ H Q q => ri_enum q
                  | _ => cases ht
              · cases e
            · split at e
              · rename_i hx
                subst hx
                have hm := h.bn "zip" (by decide)
                split at e
                · rename_i a1 a2
                  split at e
                  · cases e
                  · rename_i s1
                    simp only [Option.bind_eq_bind, Option.bind_eq_some_iff, Option.some.injEq] at e
                    obtain ⟨ia, e1, ib, e2, rfl⟩ := e
                    simp only [Bool.or_eq_true, not_or, Bool.not_eq_true] at s1
                    have z2 : starEach [a2] X.env = (false, eval a2 X.env) :: starEach [] X.env := star_ok s1.2
                    have z1 : starEach [a1, a2] X.env = (false, eval a1 X.env) :: starEach [a2] X.env := star_ok s1.1
                    cases tg with
                    | Tuple elts kk tpos => exact PI_imp (RZ.pi_zipA g1 hm (pa_cons (ih.E h e1) (pa_cons (ih.E h e2) pa_nil z2) z1) z1 (by rw [z2]; rfl)) fun σ H Q q => ri_zip q
                    | _ => cases ht
                · cases e
              · simp only [Option.map_eq_some_iff] at e
                obtain ⟨ia, e1, rfl⟩ := e
                exact pi_val (ih.E h e1)
        · simp only [Option.map_eq_some_iff] at e
          obtain ⟨ia, e1, rfl⟩ := e
          exact pi_val (ih.E h e1)
    · simp only [Option.map_eq_some_iff] at e
      obtain ⟨ia, e1, rfl⟩ := e
      exact pi_val (ih.E h e1)

/-! ### comprehensions -/
/-- one clause and what stands within it, in a block -/
structure One (C : CallS) (T : List Addr) (X : Cx) (c : Cn) (scope : Scope) (tg iter : Expr) (ifs : List Expr) (ig : IG) (iifs : IEs) : Prop where
  g : ∀ (s : Shared) (H : Hp) (A : Addr) (cl : List (Str × Addr)) (fp : List Addr), PG (X.blk s H scope (compEnvC scope cl A X.env) fp) tg (RG X.K C ig)
  t : ∀ (s : Shared) (H : Hp) (A : Addr) (cl : List (Str × Addr)) (fp : List Addr), PTs (X.blk s H scope (compEnvC scope cl A X.env) fp) ifs (RTs X.K T C iifs)
theorem one_of (ih : Snd C T n) (h : Ctx C T X c W) {scope : Scope} (b : blkB c.N c.sc scope = true) {tg iter : Expr} {ifs : List Expr} {ig : IG} {iifs : IEs} (e1 : trG n { c with sc := relS' scope c.sc } tg = some ig)
    (e2 : trT n { c with sc := relS' scope c.sc } ifs = some iifs) (hg : (gslots ig).all ((ownOf c.N scope.names).map (·.2)).contains = true) : One C T X c scope tg iter ifs ig iifs :=
  ⟨fun s H A cl fp => ih.G (blk_ctx h (s := s) (H := H) (cl := cl) (A := A) (fp := fp) rfl) e1 (rg_wr h b rfl hg), fun s H A cl fp => ih.Ts (blk_ctx h (s := s) (H := H) (cl := cl) (A := A) (fp := fp) rfl) e2⟩
theorem in_E (ih : Snd C T n) (h : Ctx C T X c W) {scope : Scope} {e : Expr} {ie : IE} (e1 : trE n { c with sc := relS' scope c.sc } e = some ie) (s : Shared) (H : Hp) (A : Addr) (cl : List (Str × Addr)) (fp : List Addr) : PE (X.blk s H scope (compEnvC scope cl A X.env) fp) e (RB X.K T C ie) :=
  ih.E (blk_ctx h (s := s) (H := H) (cl := cl) (A := A) (fp := fp) rfl) e1
theorem in_I (ih : Snd C T n) (h : Ctx C T X c W) {scope : Scope} {e tg : Expr} {ii : II} (e1 : trI n { c with sc := relS' scope c.sc } e = some ii) (hp : (pairsOnly ii && !isTup tg) = false) (s : Shared) (H : Hp) (A : Addr) (cl : List (Str × Addr)) (fp : List Addr) : PI (X.blk s H scope (compEnvC scope cl A X.env) fp) tg e (RIb X.K T C ii) :=
  (ih.I (blk_ctx h (s := s) (H := H) (cl := cl) (A := A) (fp := fp) rfl) e1 hp).1
/-- the parts of a list comprehension -/
theorem lc_parts {elt : Expr} {gens : List Comprehension} {scope : Scope} {pos : Pos} {ie : IE} (e : trE (n + 1) c (.ListComp elt gens scope pos) = some ie) : blkB c.N c.sc scope = true ∧
    ((∃ tg iter ifs it g iifs ielt, gens = [⟨tg, iter, ifs, 0⟩] ∧ ie = .lc ((ownOf c.N scope.names).map (·.2)) g it iifs ielt ∧ trI n c iter = some it ∧ trG n { c with sc := relS' scope c.sc } tg = some g ∧ trT n { c with sc := relS' scope c.sc } ifs = some iifs ∧
        trE n { c with sc := relS' scope c.sc } elt = some ielt ∧ (gslots g).all ((ownOf c.N scope.names).map (·.2)).contains = true ∧ (pairsOnly it && !isTup tg) = false) ∨
      ∃ tg iter ifs it g iifs tg1 iter1 ifs1 it1 g1 iifs1 ielt, gens = [⟨tg, iter, ifs, 0⟩, ⟨tg1, iter1, ifs1, 0⟩] ∧ ie = .lc2 ((ownOf c.N scope.names).map (·.2)) g it iifs (gslots g1) g1 it1 iifs1 ielt ∧ trI n c iter = some it ∧ trG n { c with sc := relS' scope c.sc } tg = some g ∧
        trT n { c with sc := relS' scope c.sc } ifs = some iifs ∧ trI n { c with sc := relS' scope c.sc } iter1 = some it1 ∧ trG n { c with sc := relS' scope c.sc } tg1 = some g1 ∧ trT n { c with sc := relS' scope c.sc } ifs1 = some iifs1 ∧ trE n { c with sc := relS' scope c.sc } elt = some ielt ∧
        (gslots g).all ((ownOf c.N scope.names).map (·.2)).contains = true ∧ (gslots g1).all ((ownOf c.N scope.names).map (·.2)).contains = true ∧ (pairsOnly it && !isTup tg) = false ∧ (pairsOnly it1 && !isTup tg1) = false) := by
  simp only [trE] at e
  split at e
  · rename_i tg iter ifs
    split at e
    · rename_i b
      simp only [Option.bind_eq_bind, Option.bind_eq_some_iff] at e
      obtain ⟨it, e1, g, e2, iifs, e3, ielt, e4, e⟩ := e
      split at e
      · rename_i q
        simp only [Bool.and_eq_true, Bool.not_eq_true'] at q
        cases e
        exact ⟨b, .inl ⟨tg, iter, ifs, it, g, iifs, ielt, rfl, rfl, e1, e2, e3, e4, q.1.2, q.2⟩⟩
      · cases e
    · cases e
  · rename_i tg iter ifs tg1 iter1 ifs1
    split at e
    · rename_i b
      simp only [Option.bind_eq_bind, Option.bind_eq_some_iff] at e
      obtain ⟨it, e1, g, e2, iifs, e3, it1, e4, g1, e5, iifs1, e6, ielt, e7, e⟩ := e
      split at e
      · rename_i q
        simp only [Bool.and_eq_true, Bool.not_eq_true'] at q
        cases e
        exact ⟨b, .inr ⟨tg, iter, ifs, it, g, iifs, tg1, iter1, ifs1, it1, g1, iifs1, ielt, rfl, rfl, e1, e2, e3, e4, e5, e6, e7, q.1.1.1.1.2, q.1.1.2, q.1.2, q.2⟩⟩
      · cases e
    · cases e
  · cases e
theorem dc_parts {kx vx : Expr} {gens : List Comprehension} {scope : Scope} {pos : Pos} {ie : IE} (e : trE (n + 1) c (.DictComp kx vx gens scope pos) = some ie) : blkB c.N c.sc scope = true ∧
    ((∃ tg iter ifs it g iifs ik iv, gens = [⟨tg, iter, ifs, 0⟩] ∧ ie = .dc ((ownOf c.N scope.names).map (·.2)) g it iifs ik iv ∧ trI n c iter = some it ∧ trG n { c with sc := relS' scope c.sc } tg = some g ∧ trT n { c with sc := relS' scope c.sc } ifs = some iifs ∧
        trE n { c with sc := relS' scope c.sc } kx = some ik ∧ trE n { c with sc := relS' scope c.sc } vx = some iv ∧ (gslots g).all ((ownOf c.N scope.names).map (·.2)).contains = true ∧ (pairsOnly it && !isTup tg) = false) ∨
      ∃ tg iter ifs it g iifs tg1 iter1 ifs1 it1 g1 iifs1 ik iv, gens = [⟨tg, iter, ifs, 0⟩, ⟨tg1, iter1, ifs1, 0⟩] ∧ ie = .dc2 ((ownOf c.N scope.names).map (·.2)) g it iifs (gslots g1) g1 it1 iifs1 ik iv ∧ trI n c iter = some it ∧ trG n { c with sc := relS' scope c.sc } tg = some g ∧
        trT n { c with sc := relS' scope c.sc } ifs = some iifs ∧ trI n { c with sc := relS' scope c.sc } iter1 = some it1 ∧ trG n { c with sc := relS' scope c.sc } tg1 = some g1 ∧ trT n { c with sc := relS' scope c.sc } ifs1 = some iifs1 ∧ trE n { c with sc := relS' scope c.sc } kx = some ik ∧ trE n { c with sc := relS' scope c.sc } vx = some iv ∧
        (gslots g).all ((ownOf c.N scope.names).map (·.2)).contains = true ∧ (gslots g1).all ((ownOf c.N scope.names).map (·.2)).contains = true ∧ (pairsOnly it && !isTup tg) = false ∧ (pairsOnly it1 && !isTup tg1) = false) := by
  simp only [trE] at e
  split at e
  · rename_i tg iter ifs
    split at e
    · rename_i b
      simp only [Option.bind_eq_bind, Option.bind_eq_some_iff] at e
      obtain ⟨it, e1, g, e2, iifs, e3, ik, e4, iv, e5, e⟩ := e
      split at e
      · rename_i q
        simp only [Bool.and_eq_true, Bool.not_eq_true'] at q
        cases e
        exact ⟨b, .inl ⟨tg, iter, ifs, it, g, iifs, ik, iv, rfl, rfl, e1, e2, e3, e4, e5, q.1.2, q.2⟩⟩
      · cases e
    · cases e
  · rename_i tg iter ifs tg1 iter1 ifs1
    split at e
    · rename_i b
      simp only [Option.bind_eq_bind, Option.bind_eq_some_iff] at e
      obtain ⟨it, e1, g, e2, iifs, e3, it1, e4, g1, e5, iifs1, e6, ik, e7, iv, e8, e⟩ := e
      split at e
      · rename_i q
        simp only [Bool.and_eq_true, Bool.not_eq_true'] at q
        cases e
        exact ⟨b, .inr ⟨tg, iter, ifs, it, g, iifs, tg1, iter1, ifs1, it1, g1, iifs1, ik, iv, rfl, rfl, e1, e2, e3, e4, e5, e6, e7, e8, q.1.1.1.1.2, q.1.1.2, q.1.2, q.2⟩⟩
      · cases e
    · cases e
  · cases e
theorem snd_lc (ih : Snd C T n) (h : Ctx C T X c W) {elt : Expr} {gens : List Comprehension} {scope : Scope} {pos : Pos} {ie : IE} (e : trE (n + 1) c (.ListComp elt gens scope pos) = some ie) : PE X (.ListComp elt gens scope pos) (RE X.K T W (evE C ie)) := by
  obtain ⟨b, ⟨tg, iter, ifs, it, g, iifs, ielt, rfl, rfl, e1, e2, e3, e4, q1, q2⟩ | ⟨tg, iter, ifs, it, g, iifs, tg1, iter1, ifs1, it1, g1, iifs1, ielt, rfl, rfl, e1, e2, e3, e4, e5, e6, e7, q1, q2, q3, q4⟩⟩ := lc_parts e
  · obtain ⟨i1, i2⟩ := ih.I h e1 q2
    have o := one_of (iter := iter) ih h b e2 e3 q1
    exact PE_imp (pe_lc h.calm h.nodup i1 (blk_ok h b) o.g o.t (in_E ih h e4) (set_ok i2)) fun σ H Q q => re_lc (sub_of q1) q
  · obtain ⟨i1, i2⟩ := ih.I h e1 q3
    have o := one_of (iter := iter) ih h b e2 e3 q1
    have o1 := one_of (iter := iter1) ih h b e5 e6 q2
    have st1 : isSet iter1 = false := (ih.I (blk_ctx h (s := X.s_0) (H := X.H_0) (cl := []) (A := 0) (fp := []) rfl) e4 q4).2
    exact PE_imp (pe_lc2 h.calm h.nodup i1 (blk_ok h b) (sub_of q2) o.g o.t (in_I ih h e4 q4) o1.g o1.t (in_E ih h e7) (set_ok i2) fun env => set_ok st1) fun σ H Q q => re_lc2 (sub_of q1) (fun i hi => hi) q
theorem snd_dc (ih : Snd C T n) (h : Ctx C T X c W) {kx vx : Expr} {gens : List Comprehension} {scope : Scope} {pos : Pos} {ie : IE} (e : trE (n + 1) c (.DictComp kx vx gens scope pos) = some ie) : PE X (.DictComp kx vx gens scope pos) (RE X.K T W (evE C ie)) := by
  obtain ⟨b, ⟨tg, iter, ifs, it, g, iifs, ik, iv, rfl, rfl, e1, e2, e3, e4, e5, q1, q2⟩ | ⟨tg, iter, ifs, it, g, iifs, tg1, iter1, ifs1, it1, g1, iifs1, ik, iv, rfl, rfl, e1, e2, e3, e4, e5, e6, e7, e8, q1, q2, q3, q4⟩⟩ := dc_parts e
  · obtain ⟨i1, i2⟩ := ih.I h e1 q2
    have o := one_of (iter := iter) ih h b e2 e3 q1
    exact PE_imp (pe_dc h.calm h.nodup i1 (blk_ok h b) o.g o.t (in_E ih h e4) (in_E ih h e5) (set_ok i2)) fun σ H Q q => re_dc (sub_of q1) q
  · obtain ⟨i1, i2⟩ := ih.I h e1 q3
    have o := one_of (iter := iter) ih h b e2 e3 q1
    have o1 := one_of (iter := iter1) ih h b e5 e6 q2
    have st1 : isSet iter1 = false := (ih.I (blk_ctx h (s := X.s_0) (H := X.H_0) (cl := []) (A := 0) (fp := []) rfl) e4 q4).2
    exact PE_imp (pe_dc2 h.calm h.nodup i1 (blk_ok h b) (sub_of q2) (fun s H A cl fp Xb eb => by subst eb; exact ⟨o.g s H A cl fp, o.t s H A cl fp, in_I ih h e4 q4 s H A cl fp, o1.g s H A cl fp, o1.t s H A cl fp, in_E ih h e7 s H A cl fp, in_E ih h e8 s H A cl fp⟩) (set_ok i2) fun env => set_ok st1)
      fun σ H Q q => re_dc2 (sub_of q1) (fun i hi => hi) q
end
end Ev
end
section
set_option maxRecDepth 10000
namespace Ev
open PySem L2 PyProof.Rows
open PySem.W (Frag)

section
variable {C : CallS} {T : List Addr} {X : Cx} {c : Cn} {W : WX} {n : Nat}
theorem boolR_bl {o : Option Bool} {S S' : Sto} {d : D} (h : boolR o S = .ok d S') : ∃ b, d = .bl b := by
  cases o with
  | none => cases h
  | some b => cases h; exact ⟨b, rfl⟩
theorem bind_ok {α β : Type} {r : Res α} {f : α → Sto → Res β} {b : β} {S' : Sto} (h : r.bind f = .ok b S') : ∃ a S, r = .ok a S ∧ f a S = .ok b S' := by
  cases r with
  | ok a S => exact ⟨a, S, rfl, h⟩
  | exc _ _ => cases h
  | bad => cases h
/-- comparisons, both readings -/
theorem snd_cmp (ih : Snd C T n) (h : Ctx C T X c W) {a : Expr} {ops : List CmpOp} {bs : List Expr} {pos : Pos} {ie : IE} (e : trE (n + 1) c (.Compare a ops bs pos) = some ie) :
    PE X (.Compare a ops bs pos) (RE X.K T W (evE C ie)) ∧ PT X (.Compare a ops bs pos) (RT X.K T W (tru (evE C ie))) := by
  simp only [trE] at e
  split at e
  · rename_i o b
    split at e
    · cases e
    · rename_i q
      simp only [Option.bind_eq_bind, Option.bind_eq_some_iff, Option.some.injEq] at e
      obtain ⟨io, e1, ia, e2, ib, e3, rfl⟩ := e
      have m : behindInMarks o b = false := marks_ok (by simpa using q)
      refine ⟨PE_imp (pe_cmpR (copE h.un e1) (ih.E h e2) (ih.E h e3) m) fun σ H Q q => re_cmp q, PT_imp (pt_cmpR (copE h.un e1) (ih.E h e2) (ih.E h e3) m) fun σ H Q q => ?_⟩
      refine re_cmp (fa := evE C ia) (fb := evE C ib) (o := io) (rt_bool (fun env S d S' hd => ?_) q)
      obtain ⟨_, _, _, h2⟩ := bind_ok (show (evE C ia env S).bind _ = _ from hd)
      obtain ⟨_, _, _, h3⟩ := bind_ok h2
      exact boolR_bl h3
  · rename_i o o' b d
    split at e
    · cases e
    · rename_i q
      simp only [Option.bind_eq_bind, Option.bind_eq_some_iff, Option.some.injEq] at e
      obtain ⟨io, e1, io', e2, ia, e3, ib, e4, id, e5, rfl⟩ := e
      have m : lastMarks [o, o'] [b, d] = false := by
        show behindInMarks o' d = false
        exact marks_ok (by simpa using q)
      refine ⟨PE_imp (pe_chain (copE h.un e1) (copE h.un e2) (ih.E h e3) (ih.E h e4) (ih.E h e5) m) fun σ H Q q => re_cmp2 q, PT_imp (pt_chain (copE h.un e1) (copE h.un e2) (ih.E h e3) (ih.E h e4) (ih.E h e5) m) fun σ H Q q => ?_⟩
      refine re_cmp2 (fa := evE C ia) (fb := evE C ib) (fc := evE C id) (o := io) (o' := io') (rt_bool (fun env S d S' hd => ?_) q)
      obtain ⟨_, _, _, h2⟩ := bind_ok (show (evE C ia env S).bind _ = _ from hd)
      obtain ⟨x, S2, _, h3⟩ := bind_ok h2
      split at h3
      · obtain ⟨_, _, _, h4⟩ := bind_ok h3
        exact boolR_bl h4
      · cases h3; exact ⟨false, rfl⟩
      · cases h3
  · cases e
theorem snd_E (ih : Snd C T n) (h : Ctx C T X c W) {a : Expr} {ie : IE} (e : trE (n + 1) c a = some ie) : PE X a (RE X.K T W (evE C ie)) := by
  cases a with
  | Name x pos =>
    simp only [trE, Option.map_eq_some_iff] at e
    obtain ⟨i, e1, rfl⟩ := e
    obtain ⟨s1, s2, s3, s4⟩ := slot_ok h e1
    exact PE_imp (pe_var s1 s2 s3 s4) fun σ H Q q => re_var q
  | Constant k j pos =>
    cases k with
    | none => simp only [trE, Option.some.injEq] at e; subst e; exact PE_imp pe_non fun σ H Q q => re_c (d := .non) q fun _ => .non
    | bool b => simp only [trE, Option.some.injEq] at e; subst e; exact PE_imp pe_bl fun σ H Q q => re_c (d := .bl b) q fun _ => .bl b
    | int i => simp only [trE, Option.some.injEq] at e; subst e; exact PE_imp pe_int fun σ H Q q => re_c (d := .int i) q fun _ => .int i
    | str s => simp only [trE, Option.some.injEq] at e; subst e; exact PE_imp pe_str fun σ H Q q => re_c (d := .str s.cps.toList) q fun r => by have z := RepV.str (K := X.K) (H := H) (r := r) s.cps.toList; rwa [sv_cps] at z
    | _ => simp [trE] at e
  | BinOp a o b pos =>
    simp only [trE, Option.bind_eq_bind, Option.bind_eq_some_iff, Option.some.injEq] at e
    obtain ⟨io, e1, ia, e2, ib, e3, rfl⟩ := e
    exact PE_imp (pe_op (opD e1) (ih.E h e2) (ih.E h e3)) fun σ H Q q => re_op (binD_nx io) q
  | UnaryOp op a pos =>
    cases op with
    | USub =>
      simp only [trE, Option.map_eq_some_iff] at e
      obtain ⟨ia, e1, rfl⟩ := e
      exact PE_imp (pe_un un_neg (ih.E h e1)) fun σ H Q q => re_neg q
    | Not =>
      simp only [trE, Option.map_eq_some_iff] at e
      obtain ⟨ia, e1, rfl⟩ := e
      exact PE_imp (pe_notT (ih.E h e1)) fun σ H Q q => re_not q
    | _ => simp [trE] at e
  | BoolOp op es pos =>
    simp only [trE] at e
    cases es with
    | nil => cases e
    | cons a r =>
      simp only [Option.bind_eq_bind, Option.bind_eq_some_iff] at e
      obtain ⟨ia, e1, e2⟩ := e
      cases op with
      | And => exact ih.A h (ih.E h e1) e2
      | Or => exact ih.O h (ih.E h e1) e2
  | IfExp t a b pos =>
    simp only [trE, Option.bind_eq_bind, Option.bind_eq_some_iff, Option.some.injEq] at e
    obtain ⟨it, e1, ia, e2, ib, e3, rfl⟩ := e
    exact PE_imp (pe_ifExp (ih.P h e1) (ih.E h e2) (ih.E h e3)) fun σ H Q q => re_ife q
  | Compare a ops bs pos => exact (snd_cmp ih h e).1
  | Tuple es k pos =>
    simp only [trE, Option.map_eq_some_iff] at e
    obtain ⟨ia, e1, rfl⟩ := e
    exact PE_imp (pe_tup (ih.Es h e1)) fun σ H Q q => re_tup q
  | List es pos =>
    simp only [trE, Option.map_eq_some_iff] at e
    obtain ⟨ia, e1, rfl⟩ := e
    exact PE_imp (pe_lst (ih.Es h e1)) fun σ H Q q => re_lst q
  | Dict ks vs pos =>
    simp only [trE] at e
    split at e
    · rename_i h15
      simp only [Option.map_eq_some_iff] at e
      obtain ⟨ps, e1, rfl⟩ := e
      obtain ⟨p1, p2, p3⟩ := ih.Ps (pos := pos) h e1
      cases ks with
      | nil =>
        cases vs with
        | cons _ _ => cases p3
        | nil =>
          have : ps = .nil := by
            cases n with
            | zero => simp [trPs] at e1
            | succ m => simp only [trPs, Option.some.injEq] at e1; exact e1.symm
          subst this
          exact PE_imp pe_dnewK fun σ H Q q => re_dct0 q
      | cons k ks => exact PE_imp (pe_disp p1 p2 p3 (by simp) h15) fun σ H Q q => re_dct q
    · cases e
  | Subscript a i pos =>
    simp only [trE] at e
    split at e
    · rename_i lo hi st p2
      split at e
      · simp only [Option.bind_eq_bind, Option.bind_eq_some_iff, Option.some.injEq] at e
        obtain ⟨ia, e1, il, e2, iu, e3, rfl⟩ := e
        exact PE_imp (pe_slice slE (ih.E h e1) (ih.Op h e2) (ih.Op h e3)) fun σ H Q q => re_sl q
      · cases e
    · rename_i hno
      simp only [Option.bind_eq_bind, Option.bind_eq_some_iff, Option.some.injEq] at e
      obtain ⟨ia, e1, ii, e2, rfl⟩ := e
      have hs : isSlice i = false := by cases i <;> first | rfl | exact absurd rfl (hno _ _ _ _)
      exact PE_imp (pe_ix (ixE h.un1) (ih.E h e1) (ih.E h e2) (ix_ok hs)) fun σ H Q q => re_op ixD_nx q
  | Call f es ks pos => exact snd_call ih h e
  | ListComp elt gens scope pos => exact snd_lc ih h e
  | DictComp k v gens scope pos => exact snd_dc ih h e
  | _ => simp [trE] at e
theorem rt_ife {K : Frag} {σ : L2.St} {H : Hp} {QB : Bool → Hp → Prop} {fa fb fc : Ev.Env → Sto → Res D} (h : RT K T W (tru fun env S => (fc env S).bind fun x S1 => match truth S1 x with | some true => fa env S1 | some false => fb env S1 | none => .bad) σ H QB) :
    RT K T W (tru fc) σ H fun k H1 => if k = true then RT K T W (tru fa) σ H1 QB else RT K T W (tru fb) σ H1 QB := by
  obtain ⟨r, env, S, he, si, h⟩ := h
  refine ⟨r, env, S, he, si, ?_⟩
  simp only [tru] at h ⊢
  cases hx : fc env S with
  | bad => rw [hx] at h; exact False.elim h
  | exc e S1 => rw [hx] at h; exact h
  | ok x S1 =>
    rw [hx] at h
    simp only [Res.bind] at h ⊢
    cases ht : truth S1 x with
    | none => rw [ht] at h; exact False.elim h
    | some b =>
      rw [ht] at h
      cases b
      · exact fun r' b' H' e eb si' => by cases eb; exact ⟨r', env, S1, he.at si e, si', GoodG.shift e h⟩
      · exact fun r' b' H' e eb si' => by cases eb; exact ⟨r', env, S1, he.at si e, si', GoodG.shift e h⟩
theorem snd_P (ih : Snd C T n) (h : Ctx C T X c W) {a : Expr} {ie : IE} (e : trE (n + 1) c a = some ie) : PT X a (RT X.K T W (tru (evE C ie))) := by
  cases hp : plainT a with
  | true => exact PT_imp (pt_truth (snd_E ih h e) (plainT_ok hp)) fun σ H Q q => rt_truth q
  | false =>
    cases a with
    | UnaryOp op a pos =>
      cases op with
      | Not =>
        simp only [trE, Option.map_eq_some_iff] at e
        obtain ⟨ia, e1, rfl⟩ := e
        exact PT_imp (pt_not (ih.P h e1)) fun σ H Q q => rt_not q
      | _ => cases hp
    | BoolOp op es pos =>
      simp only [trE] at e
      cases es with
      | nil => cases e
      | cons a r =>
        simp only [Option.bind_eq_bind, Option.bind_eq_some_iff] at e
        obtain ⟨ia, e1, e2⟩ := e
        cases op with
        | And => exact (ih.AT h (ih.P h e1) e2).pt
        | Or => exact (ih.OT h (ih.P h e1) e2).pt
    | IfExp t a b pos =>
      simp only [trE, Option.bind_eq_bind, Option.bind_eq_some_iff, Option.some.injEq] at e
      obtain ⟨it, e1, ia, e2, ib, e3, rfl⟩ := e
      exact PT_imp (pt_ifExp (ih.P h e1) (ih.P h e2) (ih.P h e3)) fun σ H Q q => rt_ife q
    | Compare a ops bs pos => exact (snd_cmp ih h e).2
    | _ => cases hp
theorem snd : ∀ n, Snd C T n
  | 0 => Snd.zero
  | n + 1 => {
    E := by intro X c W h; intros; apply snd_E (snd n) h <;> assumption
    P := by intro X c W h; intros; apply snd_P (snd n) h <;> assumption
    A := by intro X c W h; intros; apply snd_A (snd n) h <;> assumption
    O := by intro X c W h; intros; apply snd_O (snd n) h <;> assumption
    AT := by intro X c W h; intros; apply snd_AT (snd n) h <;> assumption
    OT := by intro X c W h; intros; apply snd_OT (snd n) h <;> assumption
    Es := by intro X c W h; intros; apply snd_Es (snd n) h <;> assumption
    Ps := by intro X c W h; intros; apply snd_Ps (snd n) h <;> assumption
    Op := by intro X c W h; intros; apply snd_Op (snd n) h <;> assumption
    I := by intro X c W h; intros; apply snd_I (snd n) h <;> assumption
    Ts := by intro X c h; intros; apply snd_Ts (snd n) h <;> assumption
    G := by intro X c W h; intros; apply snd_G (snd n) h <;> assumption
    Gs := by intro X c W h; intros; apply snd_Gs (snd n) h <;> assumption }
end
end Ev
end
section
set_option maxRecDepth 10000
/-! Statements: readings. -/
namespace Ev
open PySem L2 PyProof.Rows
open PySem.W (Frag)

def GoodS (K : Frag) (T : List Addr) (W : WX) (D : Ends) (r : List Addr) (H : Hp) (x : SRes) : Prop := match x with
  | .ok f env S => match f with
    | .nx => ∀ r' σ' H', Xt r H r' H' → RepE K H' r' env σ' → SI K H' r' S → D.nx σ' H'
    | .brk => ∀ r' σ' H', Xt r H r' H' → RepE K H' r' env σ' → SI K H' r' S → D.bk σ' H'
    | .ct => ∀ r' σ' H', Xt r H r' H' → RepE K H' r' env σ' → SI K H' r' S → D.ct σ' H'
    | .rt d => ∀ r' v H', Xt r H r' H' → RepV K H' r' d v → SI K H' r' S → D.rt v H'
  | .exc e env S => ∀ r' σ' H' cls dd, Xt r H r' H' → RepE K H' r' env σ' → SI K H' r' S → ExR K T H' r' e cls dd → W cls dd σ' H'
  | .bad => False
def RS (K : Frag) (T : List Addr) (W : WX) (f : Ev.Env → Sto → SRes) : TS := fun D σ H => ∃ r env S, RepE K H r env σ ∧ SI K H r S ∧ GoodS K T W D r H (f env S)

section
variable {K : Frag} {T : List Addr} {W : WX} {σ : L2.St} {H H1 : Hp} {C : CallS} {D D' : Ends} {r r1 : List Addr}
theorem GoodS.shift {x : SRes} (e : Xt r H r1 H1) (h : GoodS K T W D r H x) : GoodS K T W D r1 H1 x := by
  cases x with
  | ok f env S => cases f <;> exact fun r' v H' e' => h r' v H' (e.trans e')
  | exc ex env S => exact fun r' σ' H' cls dd e' => h r' σ' H' cls dd (e.trans e')
  | bad => exact h
theorem REG_mono {α β : Type} {R : Hp → List Addr → α → β → Prop} {f : Ev.Env → Sto → Res α} {Q Q' : β → Hp → Prop} (h : REG R K T W f σ H Q) (i : ∀ x H', Q x H' → Q' x H') : REG R K T W f σ H Q' := by
  obtain ⟨r, env, S, he, si, g⟩ := h
  refine ⟨r, env, S, he, si, ?_⟩
  cases hx : f env S with
  | bad => rw [hx] at g; exact g
  | exc e S1 => rw [hx] at g; exact g
  | ok d S1 => rw [hx] at g; exact fun r' b H' a b' c => i _ _ (g r' b H' a b' c)
/-- an expression ahead of the rest of a statement -/
theorem of_E {α β : Type} {R : Hp → List Addr → α → β → Prop} {x : Res α} {Q : β → Hp → Prop} {env : Ev.Env} {S : Sto} (he : RepE K H r env σ) (si : SI K H r S)
    (hb : x = .bad → False) (hx : ∀ e S1, x = .exc e S1 → GoodS K T W D r H (.exc e env S1))
    (hk : ∀ d S1 r1 v H1, x = .ok d S1 → Xt r H r1 H1 → R H1 r1 d v → SI K H1 r1 S1 → RepE K H1 r1 env σ → Q v H1) : GoodG R K T W r σ H x Q := by
  cases x with
  | ok d S1 => exact fun r1 v H1 e rv si1 => hk d S1 r1 v H1 rfl e rv si1 (he.at si e)
  | exc ex S1 => exact fun r' H' cls dd e si' xr => hx ex S1 rfl r' σ H' cls dd e (he.at si e) si' xr
  | bad => exact hb rfl
theorem rs_asg {g : IG} {e : IE} (h : RS K T W (evS C (.asg g e)) D σ H) : tAsg (RE K T W (evE C e)) (RG K C g) D σ H := by
  obtain ⟨r, env, S, he, si, h⟩ := h
  rw [evS] at h
  refine ⟨r, env, S, he, si, of_E (D := D) he si (fun q => by rw [q] at h; exact h) (fun e S1 q => by rw [q] at h; exact h) fun d S1 r1 v H1 q e1 rv si1 he1 => ?_⟩
  rw [q] at h
  dsimp only at h
  have h1 := GoodS.shift e1 h
  split at h1
  · rename_i env2 S2 eg
    exact ⟨r1, env, S1, d, env2, S2, he1, si1, rv, eg, fun r' σ' H' a b c _ => h1 r' σ' H' a b c⟩
  · exact False.elim h1
theorem rs_set {i : Nat} {e : IE} (h : RS K T W (evS C (.asg (.var i) e)) D σ H) : RE K T W (evE C e) σ H fun x H1 => gName i x σ H1 D.nx :=
  REG_mono (rs_asg h) fun x H' q => rg_var q
theorem rs_expr {e : IE} (h : RS K T W (evS C (.expr e)) D σ H) : tDrop (RE K T W (evE C e)) D σ H := by
  obtain ⟨r, env, S, he, si, h⟩ := h
  rw [evS] at h
  exact ⟨r, env, S, he, si, of_E (D := D) he si (fun q => by rw [q] at h; exact h) (fun e S1 q => by rw [q] at h; exact h) fun d S1 r1 v H1 q e1 rv si1 he1 => by rw [q] at h; have h1 := GoodS.shift e1 h; exact h1 r1 σ H1 (Xt.refl _ _) he1 si1⟩
theorem rs_ret {e : IE} (h : RS K T W (evS C (.ret e)) D σ H) : tRet (RE K T W (evE C e)) D σ H := by
  obtain ⟨r, env, S, he, si, h⟩ := h
  rw [evS] at h
  exact ⟨r, env, S, he, si, of_E (D := D) he si (fun q => by rw [q] at h; exact h) (fun e S1 q => by rw [q] at h; exact h) fun d S1 r1 v H1 q e1 rv si1 he1 => by rw [q] at h; have h1 := GoodS.shift e1 h; exact h1 r1 v H1 (Xt.refl _ _) rv si1⟩
theorem rs_retN (h : RS K T W (evS C .retN) D σ H) : tRetN D σ H := by
  obtain ⟨r, env, S, he, si, h⟩ := h
  rw [evS] at h
  exact h r _ H (Xt.refl _ _) .non si
theorem rs_pass (h : RS K T W (evS C .pass) D σ H) : tNext D σ H := by
  obtain ⟨r, env, S, he, si, h⟩ := h
  rw [evS] at h
  exact h r _ H (Xt.refl _ _) he si
theorem rs_brk (h : RS K T W (evS C .brk) D σ H) : tBreak D σ H := by
  obtain ⟨r, env, S, he, si, h⟩ := h
  rw [evS] at h
  exact h r _ H (Xt.refl _ _) he si
theorem rs_cont (h : RS K T W (evS C .cont) D σ H) : tCont D σ H := by
  obtain ⟨r, env, S, he, si, h⟩ := h
  rw [evS] at h
  exact h r _ H (Xt.refl _ _) he si
theorem rs_never (h : RS K T W (evS C .never) D σ H) : False := by
  obtain ⟨r, env, S, he, si, h⟩ := h
  rw [evS] at h
  exact h
theorem rs_ite {c : IE} {a b : ISs} (h : RS K T W (evS C (.ite c a b)) D σ H) : tIfS (RT K T W (tru (evE C c))) (RS K T W (evSs C a)) (RS K T W (evSs C b)) D σ H := by
  obtain ⟨r, env, S, he, si, h⟩ := h
  rw [evS] at h
  refine ⟨r, env, S, he, si, ?_⟩
  simp only [tru]
  cases hx : evE C c env S with
  | bad => rw [hx] at h; exact False.elim h
  | exc e S1 => rw [hx] at h; exact fun r' H' cls dd e si' xr => h r' σ H' cls dd e (he.at si e) si' xr
  | ok x S1 =>
    rw [hx] at h
    simp only [Res.bind] at h ⊢
    cases ht : truth S1 x with
    | none => rw [ht] at h; exact False.elim h
    | some k =>
      rw [ht] at h
      intro r1 k' H1 e1 ek si1
      cases ek
      cases k
      · exact ⟨r1, env, S1, he.at si e1, si1, GoodS.shift e1 h⟩
      · exact ⟨r1, env, S1, he.at si e1, si1, GoodS.shift e1 h⟩
theorem rs_nil (h : RS K T W (evSs C .nil) D σ H) : tNext D σ H := by
  obtain ⟨r, env, S, he, si, h⟩ := h
  rw [evSs] at h
  exact h r _ H (Xt.refl _ _) he si
theorem rs_cons {s : IS} {ss : ISs} (h : RS K T W (evSs C (.cons s ss)) D σ H) : tSeq (RS K T W (evS C s)) (RS K T W (evSs C ss)) D σ H := by
  obtain ⟨r, env, S, he, si, h⟩ := h
  rw [evSs] at h
  refine ⟨r, env, S, he, si, ?_⟩
  cases hx : evS C s env S with
  | bad => rw [hx] at h; exact h
  | exc e env1 S1 => rw [hx] at h; exact h
  | ok f env1 S1 =>
    rw [hx] at h
    cases f with
    | nx => exact fun r1 σ1 H1 e1 he1 si1 => ⟨r1, env1, S1, he1, si1, GoodS.shift e1 h⟩
    | brk => exact h
    | ct => exact h
    | rt d => exact h
theorem rs_aug {i : Nat} {o : BOp} {e : IE} (h : RS K T W (evS C (.aug i o e)) D σ H) : tAug i (RE K T W (evE C e)) (rB K (augD o)) D σ H := by
  obtain ⟨r, env, S, he, si, h⟩ := h
  rw [evS] at h
  split at h
  · rename_i x ex
    obtain ⟨xv, h1, h2⟩ := he.get i x ex
    refine ⟨xv, h1, r, env, S, he, si, of_E (D := D) he si (fun q => by rw [q] at h; exact h) (fun e S1 q => by rw [q] at h; exact h) fun d S1 r1 v H1 q e1 rv si1 he1 => ?_⟩
    rw [q] at h
    dsimp only at h
    have h1 := GoodS.shift e1 h
    refine ⟨r1, S1, x, d, h2.at si e1, rv, si1, ?_⟩
    cases ha : augD o x d S1 with
    | bad => rw [ha] at h1; exact h1
    | exc e' S2 => rw [ha] at h1; exact h1
    | ok z S2 =>
      rw [ha] at h1
      exact fun r2 zv H2 e2 rz si2 => h1 r2 _ H2 e2 ((he1.at si1 e2).set i rz) si2
  · exact False.elim h
/-- the slots of a parallel store -/
theorem rs_par2 {i j : Nat} {es : IEs} (h : RS K T W (evS C (.par [i, j] es)) D σ H) : tPar i j (RA K T W (evEs C es)) D σ H := by
  obtain ⟨r, env, S, he, si, h⟩ := h
  rw [evS] at h
  refine ⟨r, env, S, he, si, of_E (D := D) he si (fun q => by rw [q] at h; exact h) (fun e S1 q => by rw [q] at h; exact h) fun ds S1 r1 vs H1 q e1 rv si1 he1 => ?_⟩
  rw [q] at h
  dsimp only at h
  have h1 := GoodS.shift e1 h
  cases rv with
  | nil => simp [parEnv] at h1; exact False.elim h1
  | cons a b =>
    cases b with
    | nil => simp [parEnv] at h1; exact False.elim h1
    | cons b c =>
      cases c with
      | cons _ _ => simp [parEnv] at h1; exact False.elim h1
      | nil =>
        simp only [parEnv] at h1
        exact ⟨_, _, rfl, h1 r1 _ H1 (Xt.refl _ _) ((he1.set i a).set j b) si1⟩
theorem rs_par3 {i j l : Nat} {es : IEs} (h : RS K T W (evS C (.par [i, j, l] es)) D σ H) : tPar3 i j l (RA K T W (evEs C es)) D σ H := by
  obtain ⟨r, env, S, he, si, h⟩ := h
  rw [evS] at h
  refine ⟨r, env, S, he, si, of_E (D := D) he si (fun q => by rw [q] at h; exact h) (fun e S1 q => by rw [q] at h; exact h) fun ds S1 r1 vs H1 q e1 rv si1 he1 => ?_⟩
  rw [q] at h
  dsimp only at h
  have h1 := GoodS.shift e1 h
  cases rv with
  | nil => simp [parEnv] at h1; exact False.elim h1
  | cons a b =>
    cases b with
    | nil => simp [parEnv] at h1; exact False.elim h1
    | cons b c =>
      cases c with
      | nil => simp [parEnv] at h1; exact False.elim h1
      | cons c d =>
        cases d with
        | cons _ _ => simp [parEnv] at h1; exact False.elim h1
        | nil =>
          simp only [parEnv] at h1
          exact ⟨_, _, _, rfl, h1 r1 _ H1 (Xt.refl _ _) (((he1.set i a).set j b).set l c) si1⟩
theorem rs_whil {c : IE} {b : ISs} (h : RS K T W (evS C (.whil c b)) D σ H) : tWhile (RT K T W (tru (evE C c))) (RS K T W (evSs C b)) D σ H := by
  obtain ⟨r0, env0, S0, he0, si0, h0⟩ := h
  rw [evS] at h0
  refine ⟨fun m σ H => ∃ r env S, RepE K H r env σ ∧ SI K H r S ∧ GoodS K T W D r H (whileL (fun env' S' => evE C c env' S') (fun env' S' => evSs C b env' S') m env S), ⟨fuel, r0, env0, S0, he0, si0, h0⟩, ?_⟩
  rintro m σ H ⟨r, env, S, he, si, h⟩
  cases m with
  | zero => exact False.elim h
  | succ m =>
    unfold whileL at h
    refine ⟨r, env, S, he, si, ?_⟩
    simp only [tru]
    cases hx : evE C c env S with
    | bad => rw [hx] at h; exact False.elim h
    | exc e S1 => rw [hx] at h; exact fun r' H' cls dd e si' xr => h r' σ H' cls dd e (he.at si e) si' xr
    | ok x S1 =>
      rw [hx] at h
      simp only [Res.bind] at h ⊢
      cases ht : truth S1 x with
      | none => rw [ht] at h; exact False.elim h
      | some k =>
        rw [ht] at h
        intro r1 k' H1 e1 ek si1
        cases ek
        have he1 := he.at si e1
        have h := GoodS.shift e1 h
        cases k
        · exact h r1 σ H1 (Xt.refl _ _) he1 si1
        · refine ⟨fun σ' H' => ∃ r env S, RepE K H' r env σ' ∧ SI K H' r S ∧ GoodS K T W D r H' (whileL (fun env' S' => evE C c env' S') (fun env' S' => evSs C b env' S') m env S), fun σ' H' q => ⟨m, Nat.lt_succ_self _, q⟩, r1, env, S1, he1, si1, ?_⟩
          simp only at h
          cases hb : evSs C b env S1 with
          | bad => rw [hb] at h; exact h
          | exc e' env2 S2 => rw [hb] at h; exact h
          | ok f env2 S2 =>
            rw [hb] at h
            cases f with
            | nx => exact fun r2 σ2 H2 e2 he2 si2 => ⟨r2, env2, S2, he2, si2, GoodS.shift e2 h⟩
            | ct => exact fun r2 σ2 H2 e2 he2 si2 => ⟨r2, env2, S2, he2, si2, GoodS.shift e2 h⟩
            | brk => exact h
            | rt d => exact h
theorem rs_fori {g : IG} {it : II} {b : ISs} (h : RS K T W (evS C (.fori g it b)) D σ H) : tFor (RI K T W (evI C it)) (RG K C g) (RS K T W (evSs C b)) D σ H := by
  obtain ⟨r0, env0, S0, he0, si0, h0⟩ := h
  rw [evS] at h0
  refine ⟨r0, env0, S0, he0, si0, of_E (D := D) he0 si0 (fun q => by rw [q] at h0; exact h0) (fun e S1 q => by rw [q] at h0; exact h0) fun v S1 r1 J H1 q e1 rJ si1 he1 => ?_⟩
  rw [q] at h0
  dsimp only at h0
  have h1 := GoodS.shift e1 h0
  generalize hG : (fun d env' S' => match evG C g d env' S' with | some (env2, S2) => SRes.ok .nx env2 S2 | none => .bad) = G at h1
  refine ⟨fun i m σ H => ∃ r env S, Xt r1 H1 r H ∧ RepE K H r env σ ∧ SI K H r S ∧ GoodS K T W D r H (forL v G (fun env' S' => evSs C b env' S') m i env S), ⟨fuel, r1, env0, S1, Xt.refl _ _, he1, si1, h1⟩, ?_⟩
  rintro i m σ H ⟨r, env, S, xt, he, si, h⟩
  cases m with
  | zero => exact False.elim h
  | succ m =>
    unfold forL at h
    split at h
    · exact False.elim h
    · rename_i ht
      exact .inl ⟨rJ r H S i none xt si ht, h r σ H (Xt.refl _ _) he si⟩
    · rename_i d ht
      obtain ⟨g1, g2⟩ := rJ r H S i (some d) xt si ht
      refine .inr ⟨g1, fun σ' H' => ∃ r env S, Xt r1 H1 r H' ∧ RepE K H' r env σ' ∧ SI K H' r S ∧ GoodS K T W D r H' (forL v G (fun env' S' => evSs C b env' S') m (i + 1) env S), fun σ' H' q => ⟨m, Nat.lt_succ_self _, q⟩, fun x H' hy => ?_⟩
      obtain ⟨e2, rd, si2⟩ := g2 x H' hy
      subst hG
      cases eg : evG C g d env S with
      | none => simp only [eg] at h; exact False.elim h
      | some p =>
        obtain ⟨env2, S2⟩ := p
        simp only [eg] at h
        refine ⟨r, env, S, d, env2, S2, he.at si e2, si2, rd, eg, fun r3 σ3 H3 e3 he3 si3 _ => ⟨r3, env2, S2, he3, si3, ?_⟩⟩
        have x3 := xt.trans (e2.trans e3)
        have h := GoodS.shift (e2.trans e3) h
        cases hb : evSs C b env2 S2 with
        | bad => rw [hb] at h; exact h
        | exc e' env4 S4 => rw [hb] at h; exact h
        | ok f env4 S4 =>
          rw [hb] at h
          cases f with
          | nx => exact fun r4 σ4 H4 e4 he4 si4 => ⟨r4, env4, S4, x3.trans e4, he4, si4, GoodS.shift e4 h⟩
          | ct => exact fun r4 σ4 H4 e4 he4 si4 => ⟨r4, env4, S4, x3.trans e4, he4, si4, GoodS.shift e4 h⟩
          | brk => exact h
          | rt d => exact h
end
end Ev
end
section
set_option maxRecDepth 10000
/-! Statements: what is translated does as the evaluator says. -/
namespace Ev
open PySem L2 PyProof.Rows
open PySem.W (Frag)

/-- what is known where a def's own statements run -/
structure CtxS (C : CallS) (T : List Addr) (X : Cx) (c : Cn) (W : WX) : Prop where
  x : Ctx C T X c W
  fk : X.env.scope.kind = .function
  fa : ∀ x, X.fn x = true
  po : PassesOwn (model X.prog X.w) X.A X.env X.xe

section
variable {C : CallS} {T : List Addr} {X : Cx} {c : Cn} {W : WX} {n : Nat}
theorem PS_imp {s : Stmt} {t t' : TS} (h : PS X s t) (i : ∀ D σ H, t' D σ H → t D σ H) : PS X s t' := ⟨fun pins s σ H D I q => h.run pins s σ H D I (i _ _ _ q)⟩
theorem PSs_imp {s : List Stmt} {t t' : TS} (h : PSs X s t) (i : ∀ D σ H, t' D σ H → t D σ H) : PSs X s t' := ⟨fun pins s σ H D I q => h.run pins s σ H D I (i _ _ _ q)⟩
theorem CtxS.wr (h : CtxS C T X c W) (i : Nat) : Wr X i := fun x _ => .inl (h.fa x)

/-! ### stores of a tuple display -/
theorem parOf_ok (h : CtxS C T X c W) {ts vs : List Expr} {k k2 : Nat} {p p2 : Pos} {o : Option (List Str)} (e : parOf c ts vs = some o) : swappedStores [.Tuple ts k p] (.Tuple vs k2 p2) X.env = pure o := by
  have hb : X.env.blockKind = .function := by unfold Env.blockKind; rw [h.fk]; rfl
  obtain ⟨N, sc, fns⟩ := c
  have hsc : X.env.scope = sc := h.x.sc
  subst hsc
  unfold swappedStores
  unfold parOf at e
  simp only [hb]
  by_cases c1 : (!(ts.length == 2 || ts.length == 3) || vs.length != ts.length) = true
  · rw [if_pos c1] at e
    cases e
    have : (!(ts.length == 2 || ts.length == 3) || vs.length != ts.length || (ScopeKind.function != ScopeKind.function)) = true := by rw [c1]; rfl
    simp only [this, if_true]
  · rw [if_neg c1] at e
    have c1' : (!(ts.length == 2 || ts.length == 3) || vs.length != ts.length || (ScopeKind.function != ScopeKind.function)) = false := by
      rw [Bool.not_eq_true] at c1; rw [c1]; rfl
    simp only [c1', Bool.false_eq_true, if_false]
    split
    · rename_i c2
      have c2' : vs.any starred = true := by
        exact c2
      rw [if_pos c2'] at e
      cases e; rfl
    · rename_i c2
      have c2' : ¬ vs.any starred = true := by
        exact c2
      rw [if_neg c2'] at e
      dsimp only at e
      split at e
      · rename_i c3
        cases e
        rw [if_pos]
        exact c3
      · rename_i c3
        rw [if_neg]
        · split at e
          · rename_i c4
            cases e
            rw [if_pos c4]
          · rename_i c4
            rw [if_neg c4]
            split at e
            · cases e
            · rename_i c5
              cases e
              rw [if_neg c5]
              rfl
        · exact c3
theorem swaps_no {v : Expr} {t : Option Expr} {l : Nat} {env : PySem.Env} (h : isComp v = false) : swapsWith v t l env = pure false := by cases v <;> first | rfl | cases h
theorem swaps_no' {v t : Expr} {l : Nat} {env : PySem.Env} (h : ∀ x p, t ≠ .Name x p) : swapsWith v (some t) l env = pure false := by
  cases v <;> first | rfl | (cases t <;> first | rfl | exact absurd rfl (h _ _))
theorem name_of {line : Nat} {t : Expr} {x : Str} (h : (match t with | .Name id pos => if c.sc.names.lookup id == some .local && pos.line == line then some id else none | _ => none) = some x) : ∃ p, t = .Name x p ∧ c.sc.names.lookup x = some .local := by
  cases t with
  | Name id pos =>
    simp only at h
    split at h
    · rename_i q
      simp only [Bool.and_eq_true] at q
      cases h
      exact ⟨pos, rfl, nk_eq q.1⟩
    · cases h
  | _ => cases h
theorem par_parts {ts vs : List Expr} {xs : List Str} (e : parOf c ts vs = some (some xs)) : (∃ x y px py a b, ts = [.Name x px, .Name y py] ∧ vs = [a, b] ∧ xs = [x, y] ∧ c.sc.names.lookup x = some .local ∧ c.sc.names.lookup y = some .local) ∨
    ∃ x y z px py pz a b d, ts = [.Name x px, .Name y py, .Name z pz] ∧ vs = [a, b, d] ∧ xs = [x, y, z] ∧ c.sc.names.lookup x = some .local ∧ c.sc.names.lookup y = some .local ∧ c.sc.names.lookup z = some .local := by
  unfold parOf at e
  split at e
  · cases e
  · rename_i c1
    simp only [Bool.or_eq_true, Bool.not_eq_true', not_or, Bool.not_eq_false, beq_iff_eq, bne_iff_ne, ne_eq, Bool.not_eq_true, Decidable.not_not] at c1
    split at e
    · cases e
    · dsimp only at e
      split at e
      · cases e
      · rename_i c3
        simp only [Bool.or_eq_true, bne_iff_ne, ne_eq, not_or, Decidable.not_not] at c3
        split at e
        · cases e
        · split at e
          · cases e
          · cases e
            obtain ⟨h1, h2⟩ := c1
            have hl := c3.1
            clear c3
            match ts, vs, h1, h2, hl with
            | [t1, t2], [a, b], _, _, hl =>
              left
              unfold parNames at hl ⊢
              rw [List.filterMap_cons, List.filterMap_cons, List.filterMap_nil] at hl ⊢
              split at hl
              · split at hl <;> cases hl
              · rename_i x hx
                split at hl
                · cases hl
                · rename_i y hy
                  obtain ⟨px, rfl, lx⟩ := name_of hx
                  obtain ⟨py, rfl, ly⟩ := name_of hy
                  exact ⟨x, y, px, py, a, b, rfl, rfl, rfl, lx, ly⟩
            | [t1, t2, t3], [a, b, d], _, _, hl =>
              right
              unfold parNames at hl ⊢
              rw [List.filterMap_cons, List.filterMap_cons, List.filterMap_cons, List.filterMap_nil] at hl ⊢
              split at hl
              · split at hl <;> (first | (cases hl; done) | (split at hl <;> cases hl))
              · rename_i x hx
                split at hl
                · split at hl <;> cases hl
                · rename_i y hy
                  split at hl
                  · cases hl
                  · rename_i z hz
                    obtain ⟨px, rfl, lx⟩ := name_of hx
                    obtain ⟨py, rfl, ly⟩ := name_of hy
                    obtain ⟨pz, rfl, lz⟩ := name_of hz
                    exact ⟨x, y, z, px, py, pz, a, b, d, rfl, rfl, rfl, lx, ly, lz⟩
            | [], _, h1, _, _ => simp at h1
            | [_], _, h1, _, _ => simp at h1
            | _ :: _ :: _ :: _ :: _, _, h1, _, _ => simp at h1
            | [_, _], [], _, h2, _ => simp at h2
            | [_, _], [_], _, h2, _ => simp at h2
            | [_, _], _ :: _ :: _ :: _, _, h2, _ => simp at h2
            | [_, _, _], [], _, h2, _ => simp at h2
            | [_, _, _], [_], _, h2, _ => simp at h2
            | [_, _, _], [_, _], _, h2, _ => simp at h2
            | [_, _, _], _ :: _ :: _ :: _ :: _, _, h2, _ => simp at h2
theorem dups3 {i j l : Nat} (h : ([i, j, l].eraseDups.length == [i, j, l].length) = true) : i ≠ j ∧ i ≠ l ∧ j ≠ l := by
  refine ⟨fun e => ?_, fun e => ?_, fun e => ?_⟩
  · subst e; by_cases q : l = i <;> simp_all [List.eraseDups_cons]
  · subst e; by_cases q : j = i <;> simp_all [List.eraseDups_cons]
  · subst e; by_cases q : j = i <;> simp_all [List.eraseDups_cons]
theorem dups2 {i j : Nat} (h : ([i, j].eraseDups.length == [i, j].length) = true) : i ≠ j := by
  intro e; subst e; simp [List.eraseDups_cons] at h

structure SndS (C : CallS) (T : List Addr) (n : Nat) : Prop where
  S : ∀ {X : Cx} {c : Cn} {W : WX}, CtxS C T X c W → ∀ {s : Stmt} {i : IS}, trS n c s = some i → PS X s (RS X.K T W (evS C i))
  Ss : ∀ {X : Cx} {c : Cn} {W : WX}, CtxS C T X c W → ∀ {s : List Stmt} {i : ISs}, trSs n c s = some i → PSs X s (RS X.K T W (evSs C i))
theorem nm_ix (h : CtxS C T X c W) {x : Str} {i : Nat} (e : c.slotW x = some i) : X.N[i]? = some x := (slotW_ok h.x e).1
theorem loc_of (h : CtxS C T X c W) {x : Str} (e : c.sc.names.lookup x = some .local) : X.env.scope.names.lookup x = some .local := by rw [h.x.sc]; exact e
/-- name = comprehension -/
theorem snd_comp (h : CtxS C T X c W) {x : Str} {px pos : Pos} {v : Expr} {i : Nat} {ie : IE} (hi : c.slotW x = some i) (hv : isComp v = true) (e : trE (n + 1) c v = some ie) :
    PS X (.Assign [.Name x px] v pos) (RS X.K T W (evS C (.asg (.var i) ie))) := by
  have ih := snd (C := C) (T := T) n
  have hx := h.x
  have hN := nm_ix h hi
  cases v with
  | ListComp elt gens scope vp =>
    cases hb : (X.env.blockKind == .function && X.env.kindOf x == some .local && px.line == vp.line && !(scope.names.any fun (n, k) => n == x && (k == .local || k == .cell))) with
    | false =>
      have hs : swapsWith (.ListComp elt gens scope vp) (some (.Name x px)) pos.line X.env = pure false := by rw [← hb]; rfl
      exact PS_imp (ps_set hx.nodup hN (slotW_ok hx hi).2 (snd_E ih hx e) hs (.inl (h.fa x))) fun D σ H q => rs_set q
    | true =>
      have hs : swapsWith (.ListComp elt gens scope vp) (some (.Name x px)) pos.line X.env = pure true := by rw [← hb]; rfl
      simp only [Bool.and_eq_true] at hb
      have hl : X.env.scope.names.lookup x = some .local := nk_eq hb.1.1.2
      obtain ⟨b, ⟨tg, iter, ifs, it, g, iifs, ielt, rfl, rfl, e1, e2, e3, e4, q1, q2⟩ | ⟨tg, iter, ifs, it, g, iifs, tg1, iter1, ifs1, it1, g1, iifs1, ielt, rfl, rfl, e1, e2, e3, e4, e5, e6, e7, q1, q2, q3, q4⟩⟩ := lc_parts e
      · obtain ⟨i1, i2⟩ := ih.I hx e1 q2
        have o := one_of (iter := iter) ih hx b e2 e3 q1
        exact PS_imp (ps_setLc hx.calm hx.nodup hN hl hs i1 (blk_ok hx b) o.g o.t (in_E ih hx e4) (set_ok i2)) fun D σ H q => re_lc (sub_of q1) (rs_set q)
      · obtain ⟨i1, i2⟩ := ih.I hx e1 q3
        have o := one_of (iter := iter) ih hx b e2 e3 q1
        have o1 := one_of (iter := iter1) ih hx b e5 e6 q2
        have st1 : isSet iter1 = false := (ih.I (blk_ctx hx (s := X.s_0) (H := X.H_0) (cl := []) (A := 0) (fp := []) rfl) e4 q4).2
        exact PS_imp (ps_setLc2 hx.calm hx.nodup hN hl hs i1 (blk_ok hx b) (sub_of q2) o.g o.t (in_I ih hx e4 q4) o1.g o1.t (in_E ih hx e7) (set_ok i2) fun env => set_ok st1) fun D σ H q => re_lc2 (sub_of q1) (fun i hi => hi) (rs_set q)
  | DictComp kx vx gens scope vp =>
    cases hb : (X.env.blockKind == .function && X.env.kindOf x == some .local && px.line == vp.line && !(scope.names.any fun (n, k) => n == x && (k == .local || k == .cell))) with
    | false =>
      have hs : swapsWith (.DictComp kx vx gens scope vp) (some (.Name x px)) pos.line X.env = pure false := by rw [← hb]; rfl
      exact PS_imp (ps_set hx.nodup hN (slotW_ok hx hi).2 (snd_E ih hx e) hs (.inl (h.fa x))) fun D σ H q => rs_set q
    | true =>
      have hs : swapsWith (.DictComp kx vx gens scope vp) (some (.Name x px)) pos.line X.env = pure true := by rw [← hb]; rfl
      simp only [Bool.and_eq_true] at hb
      have hl : X.env.scope.names.lookup x = some .local := nk_eq hb.1.1.2
      obtain ⟨b, ⟨tg, iter, ifs, it, g, iifs, ik, iv, rfl, rfl, e1, e2, e3, e4, e5, q1, q2⟩ | ⟨tg, iter, ifs, it, g, iifs, tg1, iter1, ifs1, it1, g1, iifs1, ik, iv, rfl, rfl, e1, e2, e3, e4, e5, e6, e7, e8, q1, q2, q3, q4⟩⟩ := dc_parts e
      · obtain ⟨i1, i2⟩ := ih.I hx e1 q2
        have o := one_of (iter := iter) ih hx b e2 e3 q1
        exact PS_imp (ps_setDc hx.calm hx.nodup hN hl hs i1 (blk_ok hx b) (fun s H A cl fp Xb eb => by subst eb; exact ⟨o.g s H A cl fp, o.t s H A cl fp, in_E ih hx e4 s H A cl fp, in_E ih hx e5 s H A cl fp⟩) (set_ok i2)) fun D σ H q => re_dc (sub_of q1) (rs_set q)
      · obtain ⟨i1, i2⟩ := ih.I hx e1 q3
        have o := one_of (iter := iter) ih hx b e2 e3 q1
        have o1 := one_of (iter := iter1) ih hx b e5 e6 q2
        have st1 : isSet iter1 = false := (ih.I (blk_ctx hx (s := X.s_0) (H := X.H_0) (cl := []) (A := 0) (fp := []) rfl) e4 q4).2
        exact PS_imp (ps_setDc2 hx.calm hx.nodup hN hl hs i1 (blk_ok hx b) (sub_of q2) (fun s H A cl fp Xb eb => by subst eb; exact ⟨o.g s H A cl fp, o.t s H A cl fp, in_I ih hx e4 q4 s H A cl fp, o1.g s H A cl fp, o1.t s H A cl fp, in_E ih hx e7 s H A cl fp, in_E ih hx e8 s H A cl fp⟩)
          (set_ok i2) fun env => set_ok st1) fun D σ H q => re_dc2 (sub_of q1) (fun i hi => hi) (rs_set q)
  | SetComp => simp [trE] at e
  | _ => cases hv
/-- a store of one target -/
theorem snd_asg (h : CtxS C T X c W) {t v : Expr} {pos : Pos} {g : IG} {ie : IE} (ht : starred t = false) (e1 : trG n c t = some g) (e2 : trE n c v = some ie) (hw : swappedStores [t] v X.env = pure none) :
    PS X (.Assign [t] v pos) (RS X.K T W (evS C (.asg g ie))) := by
  have ih := snd (C := C) (T := T) n
  have h1 : (assignEach [t] X.env).map (·.2) = [assign t X.env] := by rw [assign_ok ht]; rfl
  cases hv : isComp v with
  | false => exact PS_imp (ps_asg (ih.E h.x e2) (ih.G h.x e1 fun i _ => h.wr i) (swaps_no hv) hw h1) fun D σ H q => rs_asg q
  | true =>
    cases n with
    | zero => simp [trE] at e2
    | succ m =>
      by_cases hn : ∃ x p, t = .Name x p
      · obtain ⟨x, p, rfl⟩ := hn
        simp only [trG, Option.map_eq_some_iff] at e1
        obtain ⟨i, hi, rfl⟩ := e1
        exact snd_comp h hi hv e2
      · exact PS_imp (ps_asg (ih.E h.x e2) (ih.G h.x e1 fun i _ => h.wr i) (swaps_no' fun x p z => hn ⟨x, p, z⟩) hw h1) fun D σ H q => rs_asg q
theorem one_store {t v : Expr} {env : PySem.Env} (h : ∀ ts k p vs k2 p2, ¬ (t = .Tuple ts k p ∧ v = .Tuple vs k2 p2)) (hl : ∀ ts p, t ≠ .List ts p) : swappedStores [t] v env = pure none := by
  cases t with
  | Tuple ts k p =>
    cases v with
    | Tuple vs k2 p2 => exact absurd ⟨rfl, rfl⟩ (h _ _ _ _ _ _)
    | _ => rfl
  | List ts p => exact absurd rfl (hl _ _)
  | _ => rfl
theorem sndS_S (ih : SndS C T n) (h : CtxS C T X c W) {s : Stmt} {i : IS} (e : trS (n + 1) c s = some i) : PS X s (RS X.K T W (evS C i)) := by
  have ihe := snd (C := C) (T := T) n
  have hx := h.x
  cases s with
  | Return v pos =>
    cases v with
    | none => simp only [trS, Option.some.injEq] at e; subst e; exact PS_imp ps_retN fun D σ H q => rs_retN q
    | some v =>
      simp only [trS, Option.map_eq_some_iff] at e
      obtain ⟨ie, e1, rfl⟩ := e
      exact PS_imp (ps_ret (ihe.E hx e1)) fun D σ H q => rs_ret q
  | Expr v pos =>
    simp only [trS] at e
    split at e
    · cases e
    · rename_i q
      simp only [Option.map_eq_some_iff] at e
      obtain ⟨ie, e1, rfl⟩ := e
      exact PS_imp (ps_expr (ihe.E hx e1) (swaps_no (by simpa using q))) fun D σ H q => rs_expr q
  | If t a b pos =>
    simp only [trS, Option.bind_eq_bind, Option.bind_eq_some_iff, Option.some.injEq] at e
    obtain ⟨it, e1, ia, e2, ib, e3, rfl⟩ := e
    exact PS_imp (ps_if (ihe.P hx e1) (ih.Ss h e2) (ih.Ss h e3)) fun D σ H q => rs_ite q
  | While t b o pos =>
    simp only [trS] at e
    split at e
    · simp only [Option.bind_eq_bind, Option.bind_eq_some_iff, Option.some.injEq] at e
      obtain ⟨it, e1, ib, e2, rfl⟩ := e
      exact PS_imp (ps_while h.po (ihe.P hx e1) (ih.Ss h e2)) fun D σ H q => rs_whil q
    · cases e
  | For t it b o pos =>
    simp only [trS] at e
    split at e
    · split at e
      · cases e
      · simp only [Option.bind_eq_bind, Option.bind_eq_some_iff] at e
        obtain ⟨g, e1, ii, e2, ib, e3, e⟩ := e
        split at e
        · cases e
        · rename_i q
          cases e
          obtain ⟨i1, i2⟩ := ihe.I (tg := t) hx e2 (by simpa using q)
          exact PS_imp (ps_for h.po hx.calm i1 (ihe.G hx e1 fun i _ => h.wr i) (ih.Ss h e3) (set_ok i2)) fun D σ H q => rs_fori q
    · cases e
  | Break pos => simp only [trS, Option.some.injEq] at e; subst e; exact PS_imp ps_break fun D σ H q => rs_brk q
  | Continue pos => simp only [trS, Option.some.injEq] at e; subst e; exact PS_imp ps_continue fun D σ H q => rs_cont q
  | Pass pos => simp only [trS, Option.some.injEq] at e; subst e; exact PS_imp ps_pass fun D σ H q => rs_pass q
  | Raise a b pos => simp only [trS, Option.some.injEq] at e; subst e; exact PS_imp ps_never fun D σ H q => rs_never q
  | AugAssign t o v pos =>
    simp only [trS] at e
    split at e
    · rename_i x p
      simp only [Option.bind_eq_bind, Option.bind_eq_some_iff] at e
      obtain ⟨i, e1, io, e2, ie, e3, e⟩ := e
      split at e
      · cases e
      · rename_i hp
        cases e
        exact PS_imp (ps_aug hx.nodup (nm_ix h e1) (slotW_ok hx e1).2 (ihe.E hx e3) (iopD e2 hp) (.inl (h.fa x))) fun D σ H q => rs_aug q
    · cases e
  | Assign ts v pos =>
    simp only [trS] at e
    split at e
    · rename_i t
      split at e
      · cases e
      · rename_i hst
        have hst : starred t = false := by simpa using hst
        by_cases tt : ∃ ts k p vs k2 p2, t = .Tuple ts k p ∧ v = .Tuple vs k2 p2
        · obtain ⟨ts, k, p, vs, k2, p2, rfl, rfl⟩ := tt
          simp only at e
          split at e
          · cases e
          · rename_i hp
            simp only [Option.bind_eq_bind, Option.bind_eq_some_iff, Option.some.injEq] at e
            obtain ⟨g, e1, ie, e2, rfl⟩ := e
            exact snd_asg h hst e1 e2 (parOf_ok h hp)
          · rename_i xs hp
            simp only [Option.bind_eq_bind, Option.bind_eq_some_iff] at e
            obtain ⟨ies, e1, is, e2, e⟩ := e
            split at e
            · rename_i hd
              cases e
              have hw := parOf_ok (k := k) (k2 := k2) (p := p) (p2 := p2) h hp
              rcases par_parts hp with ⟨x, y, px, py, a, b, rfl, rfl, rfl, lx, ly⟩ | ⟨x, y, z, px, py, pz, a, b, d, rfl, rfl, rfl, lx, ly, lz⟩
              · simp only [List.mapM_cons, List.mapM_nil, Option.bind_eq_bind, Option.bind_eq_some_iff, Option.pure_def, Option.some.injEq] at e2
                obtain ⟨i, hi, r, ⟨j, hj, r', rfl, rfl⟩, rfl⟩ := e2
                exact PS_imp (ps_par hx.calm hx.nodup (nm_ix h hi) (nm_ix h hj) (dups2 hd) (loc_of h lx) (loc_of h ly) (ihe.Es hx e1) hw) fun D σ H q => rs_par2 q
              · simp only [List.mapM_cons, List.mapM_nil, Option.bind_eq_bind, Option.bind_eq_some_iff, Option.pure_def, Option.some.injEq] at e2
                obtain ⟨i, hi, r, ⟨j, hj, r', ⟨l, hl, r'', rfl, rfl⟩, rfl⟩, rfl⟩ := e2
                obtain ⟨n1, n2, n3⟩ := dups3 hd
                exact PS_imp (ps_par3 hx.calm hx.nodup (nm_ix h hi) (nm_ix h hj) (nm_ix h hl) n1 n2 n3 (loc_of h lx) (loc_of h ly) (loc_of h lz) (ihe.Es hx e1) hw) fun D σ H q => rs_par3 q
            · cases e
        · have e' : (do let g ← trG n c t; let e ← trE n c v; some (IS.asg g e)) = some i := by
            split at e
            · exact absurd ⟨_, _, _, _, _, _, rfl, rfl⟩ tt
            · exact e
          simp only [Option.bind_eq_bind, Option.bind_eq_some_iff, Option.some.injEq] at e'
          obtain ⟨g, e1, ie, e2, rfl⟩ := e'
          refine snd_asg h hst e1 e2 (one_store (fun ts k p vs k2 p2 z => tt ⟨ts, k, p, vs, k2, p2, z⟩) fun ts p z => ?_)
          subst z
          cases n <;> simp [trG] at e1
    · cases e
  | _ => simp [trS] at e
theorem sndS_Ss (ih : SndS C T n) (h : CtxS C T X c W) {s : List Stmt} {i : ISs} (e : trSs (n + 1) c s = some i) : PSs X s (RS X.K T W (evSs C i)) := by
  cases s with
  | nil => simp only [trSs, Option.some.injEq] at e; subst e; exact PSs_imp pss_nil fun D σ H q => rs_nil q
  | cons s ss =>
    simp only [trSs, Option.bind_eq_bind, Option.bind_eq_some_iff, Option.some.injEq] at e
    obtain ⟨is, e1, iss, e2, rfl⟩ := e
    exact PSs_imp (pss_cons (ih.S h e1) (ih.Ss h e2)) fun D σ H q => rs_cons q
theorem sndS : ∀ n, SndS C T n
  | 0 => { S := by intro X c W h; intros; rename_i e; simp [trS] at e
           Ss := by intro X c W h; intros; rename_i e; simp [trSs] at e }
  | n + 1 => { S := by intro X c W h; intros; apply sndS_S (sndS n) h <;> assumption
               Ss := by intro X c W h; intros; apply sndS_Ss (sndS n) h <;> assumption }
end
end Ev
end
section
set_option maxRecDepth 10000
/-! Calls: what a def does is what the evaluator says. -/
namespace Ev
open PySem L2 PyProof.Rows
open PySem.W (Frag)

section
variable {K : Frag} {H H1 : Hp} {r r0 r1 r' : List Addr} {S S0 S1 : Sto}
/-! ### pure values stand anywhere -/
mutual
theorem RepV.any : ∀ (d : D) (x : V), pur d = true → RepV K H r d x → RepV K H r' d x
  | .non, _, _, h => by cases h; exact .non
  | .bl _, _, _, h => by cases h; exact .bl _
  | .int _, _, _, h => by cases h; exact .int _
  | .str _, _, _, h => by cases h; exact .str _
  | .ref _, _, p, _ => by simp [pur] at p
  | .tup ds, _, p, h => by cases h with | tup a b => exact .tup a (RepVs.any ds _ (by simpa [pur] using p) b)
  | .fl ds, _, p, h => by cases h with | fl a b => exact .fl a (RepVs.any ds _ (by simpa [pur] using p) b)
theorem RepVs.any : ∀ (ds : List D) (xs : List V), purs ds = true → RepVs K H r ds xs → RepVs K H r' ds xs
  | [], _, _, h => by cases h; exact .nil
  | d :: ds, _, p, h => by
    simp only [purs, Bool.and_eq_true] at p
    cases h with | cons a b => exact .cons (RepV.any d _ p.1 a) (RepVs.any ds _ p.2 b)
end
theorem RepK.pur : ∀ {kvs : List (D × D)} {ks : List (Key × V)}, kvs.all (fun p => pur p.2) = true → RepK K H r kvs ks → RepK K H r' kvs ks
  | _, _, _, .nil => .nil
  | _, _, p, .cons a b c => by
    simp only [List.all_cons, Bool.and_eq_true] at p
    exact .cons a (RepV.any _ _ p.1 b) (RepK.pur p.2 c)
theorem RepO.any {o : MO} {a : Addr} (p : purO o = true) (h : RepO K H r o a) : RepO K H r' o a := by
  cases o with
  | lst ds => obtain ⟨xs, e, t⟩ := h; exact ⟨xs, e, RepVs.any _ _ p t⟩
  | dct kvs => obtain ⟨xs, e, t⟩ := h; exact ⟨xs, e, RepK.pur p t⟩
  | fd kvs => cases p
/-! ### values told by other places -/
mutual
theorem RepV.ren {f : Nat → Nat} (hf : ∀ (n : Nat) (a : Addr), r[n]? = some a → r'[f n]? = some a) : ∀ (d : D) (x : V), RepV K H r d x → RepV K H r' (ren f d) x
  | .non, _, h => by cases h; exact .non
  | .bl _, _, h => by cases h; exact .bl _
  | .int _, _, h => by cases h; exact .int _
  | .str _, _, h => by cases h; exact .str _
  | .ref _, _, h => by cases h with | ref g => exact .ref (hf _ _ g)
  | .tup ds, _, h => by cases h with | tup a b => exact .tup a (RepVs.ren hf ds _ b)
  | .fl ds, _, h => by cases h with | fl a b => exact .fl a (RepVs.ren hf ds _ b)
theorem RepVs.ren {f : Nat → Nat} (hf : ∀ (n : Nat) (a : Addr), r[n]? = some a → r'[f n]? = some a) : ∀ (ds : List D) (xs : List V), RepVs K H r ds xs → RepVs K H r' (rens f ds) xs
  | [], _, h => by cases h; exact .nil
  | d :: ds, _, h => by cases h with | cons a b => exact .cons (RepV.ren hf d _ a) (RepVs.ren hf ds _ b)
end
theorem RepK.ren {f : Nat → Nat} (hf : ∀ (n : Nat) (a : Addr), r[n]? = some a → r'[f n]? = some a) : ∀ {kvs : List (D × D)} {ks : List (Key × V)}, RepK K H r kvs ks → RepK K H r' (kvs.map fun p => (p.1, ren f p.2)) ks
  | _, _, .nil => .nil
  | _, _, .cons a b c => .cons a (RepV.ren hf _ _ b) (RepK.ren hf c)
theorem RepO.ren {f : Nat → Nat} (hf : ∀ (n : Nat) (a : Addr), r[n]? = some a → r'[f n]? = some a) {o : MO} {a : Addr} (h : RepO K H r o a) : RepO K H r' (renO f o) a := by
  cases o with
  | lst ds => obtain ⟨xs, e, t⟩ := h; exact ⟨xs, e, RepVs.ren hf _ _ t⟩
  | dct kvs => obtain ⟨xs, e, t⟩ := h; exact ⟨xs, e, RepK.ren hf t⟩
  | fd kvs => obtain ⟨o, xs, e, t⟩ := h; exact ⟨o, xs, e, RepK.ren hf t⟩

/-! ### going in -/
/-- the places of the objects handed in -/
def Sel (r r0 : List Addr) (is : List Nat) : Prop := r0.length = is.length ∧ ∀ (j n : Nat), is[j]? = some n → r0[j]? = r[n]?
theorem argsIn_ok : ∀ {ds ds' : List D} {is is' : List Nat} {xs : List V}, argsIn ds is = some (ds', is') → is.Nodup → RepVs K H r ds xs → is'.Nodup ∧ (∃ l, is' = is ++ l) ∧ (∀ n ∈ is', n ∈ is ∨ n < r.length) ∧ ∀ r0, Sel r r0 is' → RepVs K H r0 ds' xs
  | [], _, is, _, _, h, nd, .nil => by
    simp only [argsIn, Option.some.injEq, Prod.mk.injEq] at h
    obtain ⟨rfl, rfl⟩ := h
    exact ⟨nd, ⟨[], by simp⟩, fun n hn => .inl hn, fun _ _ => .nil⟩
  | .ref n :: ds, _, is, _, _, h, nd, .cons a b => by
    simp only [argsIn] at h
    split at h
    · cases h
    · rename_i hn
      simp only [Option.map_eq_some_iff, Prod.mk.injEq] at h
      obtain ⟨⟨ds', is'⟩, h1, rfl, rfl⟩ := h
      have nd' : (is ++ [n]).Nodup := List.nodup_append.mpr ⟨nd, by simp, fun a ha b hb z => hn (by rw [List.mem_singleton.mp hb] at z; exact z ▸ ha)⟩
      obtain ⟨i1, ⟨l, rfl⟩, i2, i3⟩ := argsIn_ok h1 nd' b
      cases a with
      | ref g =>
        refine ⟨i1, ⟨[n] ++ l, by simp⟩, fun m hm => ?_, fun r0 hs => .cons (.ref ?_) (i3 r0 hs)⟩
        · rcases i2 m hm with z | z
          · rcases List.mem_append.mp z with z | z
            · exact .inl z
            · rw [List.mem_singleton.mp z]; exact .inr (List.getElem?_eq_some_iff.mp g).1
          · exact .inr z
        · have := hs.2 is.length n (by simp)
          rw [this]; exact g
  | .non :: ds, _, is, _, _, h, nd, .cons a b => by
    simp only [argsIn, pur, if_true, Option.map_eq_some_iff, Prod.mk.injEq] at h
    obtain ⟨⟨ds', is'⟩, h1, rfl, rfl⟩ := h
    obtain ⟨i1, i2, i3, i4⟩ := argsIn_ok h1 nd b
    exact ⟨i1, i2, i3, fun r0 hs => .cons (RepV.any _ _ rfl a) (i4 r0 hs)⟩
  | .bl _ :: ds, _, is, _, _, h, nd, .cons a b => by
    simp only [argsIn, pur, if_true, Option.map_eq_some_iff, Prod.mk.injEq] at h
    obtain ⟨⟨ds', is'⟩, h1, rfl, rfl⟩ := h
    obtain ⟨i1, i2, i3, i4⟩ := argsIn_ok h1 nd b
    exact ⟨i1, i2, i3, fun r0 hs => .cons (RepV.any _ _ rfl a) (i4 r0 hs)⟩
  | .int _ :: ds, _, is, _, _, h, nd, .cons a b => by
    simp only [argsIn, pur, if_true, Option.map_eq_some_iff, Prod.mk.injEq] at h
    obtain ⟨⟨ds', is'⟩, h1, rfl, rfl⟩ := h
    obtain ⟨i1, i2, i3, i4⟩ := argsIn_ok h1 nd b
    exact ⟨i1, i2, i3, fun r0 hs => .cons (RepV.any _ _ rfl a) (i4 r0 hs)⟩
  | .str _ :: ds, _, is, _, _, h, nd, .cons a b => by
    simp only [argsIn, pur, if_true, Option.map_eq_some_iff, Prod.mk.injEq] at h
    obtain ⟨⟨ds', is'⟩, h1, rfl, rfl⟩ := h
    obtain ⟨i1, i2, i3, i4⟩ := argsIn_ok h1 nd b
    exact ⟨i1, i2, i3, fun r0 hs => .cons (RepV.any _ _ rfl a) (i4 r0 hs)⟩
  | .tup _ :: ds, _, is, _, _, h, nd, .cons a b => by
    simp only [argsIn] at h
    split at h
    · rename_i hp
      simp only [Option.map_eq_some_iff, Prod.mk.injEq] at h
      obtain ⟨⟨ds', is'⟩, h1, rfl, rfl⟩ := h
      obtain ⟨i1, i2, i3, i4⟩ := argsIn_ok h1 nd b
      exact ⟨i1, i2, i3, fun r0 hs => .cons (RepV.any _ _ hp a) (i4 r0 hs)⟩
    · cases h
  | .fl _ :: ds, _, is, _, _, h, nd, .cons a b => by
    simp only [argsIn] at h
    split at h
    · rename_i hp
      simp only [Option.map_eq_some_iff, Prod.mk.injEq] at h
      obtain ⟨⟨ds', is'⟩, h1, rfl, rfl⟩ := h
      obtain ⟨i1, i2, i3, i4⟩ := argsIn_ok h1 nd b
      exact ⟨i1, i2, i3, fun r0 hs => .cons (RepV.any _ _ hp a) (i4 r0 hs)⟩
    · cases h
theorem objsIn_ok : ∀ {is : List Nat} {S0 : Sto}, objsIn S is = some S0 → S0.length = is.length ∧ ∀ (j n : Nat), is[j]? = some n → ∃ o, S[n]? = some o ∧ S0[j]? = some o ∧ purO o = true
  | [], _, h => by simp only [objsIn, Option.some.injEq] at h; subst h; exact ⟨rfl, by simp⟩
  | n :: is, _, h => by
    simp only [objsIn] at h
    split at h
    · rename_i o e
      split at h
      · rename_i hp
        simp only [Option.map_eq_some_iff] at h
        obtain ⟨S', h1, rfl⟩ := h
        obtain ⟨i1, i2⟩ := objsIn_ok h1
        refine ⟨by simp [i1], fun j m hj => ?_⟩
        cases j with
        | zero => simp at hj; subst hj; exact ⟨o, e, rfl, hp⟩
        | succ j => exact i2 j m (by simpa using hj)
      · cases h
    · cases h
/-- the places: chosen -/
def sel (r : List Addr) (is : List Nat) : List Addr := is.map fun i => r.getD i 0
theorem sel_ok {is : List Nat} (h : ∀ n ∈ is, n < r.length) : Sel r (sel r is) is := by
  refine ⟨by simp [sel], fun j n hj => ?_⟩
  have hn := h n (List.mem_of_getElem? hj)
  simp [sel, List.getElem?_map, hj, List.getElem?_eq_getElem hn]
theorem start_SI (si : SI K H r S) {is : List Nat} (nd : is.Nodup) (hi : ∀ n ∈ is, n < r.length) (ho : objsIn S is = some S0) : SI K H (sel r is) S0 := by
  obtain ⟨h1, h2⟩ := objsIn_ok ho
  have hs := sel_ok hi
  refine ⟨hs.1.trans h1.symm, ?_, fun j o a e1 e2 => ?_⟩
  · refine List.pairwise_map.mpr (List.Pairwise.imp_of_mem (fun {a b} ha hb hab z => hab ?_) nd)
    have la := hi a ha
    have lb := hi b hb
    have ea : r[a]? = some (r.getD a 0) := by simp [la]
    have eb : r[b]? = some (r.getD a 0) := by rw [z]; simp [lb]
    exact nodup_ix' si.nd ea eb
  · have hj : j < is.length := by rw [← h1]; exact (List.getElem?_eq_some_iff.mp e1).1
    have hij : is[j]? = some is[j] := List.getElem?_eq_getElem hj
    obtain ⟨o', q1, q2, q3⟩ := h2 j _ hij
    rw [e1] at q2; cases q2
    rw [hs.2 j _ hij] at e2
    exact RepO.any q3 (si.obj _ _ _ q1 e2)

/-! ### coming back -/
theorem back_len : ∀ (S : Sto) (is : List Nat) (os : Sto), (back S is os).length = S.length
  | S, [], _ => by unfold back; rfl
  | S, n :: is, [] => by unfold back; rfl
  | S, n :: is, o :: os => by unfold back; rw [back_len, List.length_set]
theorem back_out : ∀ (S : Sto) (is : List Nat) (os : Sto) (m : Nat), m ∉ is → (back S is os)[m]? = S[m]?
  | S, [], _, _, _ => by unfold back; rfl
  | S, n :: is, [], _, _ => by unfold back; rfl
  | S, n :: is, o :: os, m, h => by
    unfold back
    simp only [List.mem_cons, not_or] at h
    rw [back_out _ is os m h.2, List.getElem?_set_ne (Ne.symm h.1)]
theorem back_in : ∀ (S : Sto) (is : List Nat) (os : Sto) (j m : Nat), is.Nodup → is.length = os.length → is[j]? = some m → m < S.length → (back S is os)[m]? = os[j]?
  | S, [], _, j, _, _, _, h, _ => by simp at h
  | S, n :: is, [], j, _, _, hl, _, _ => by simp at hl
  | S, n :: is, o :: os, j, m, nd, hl, h, hm => by
    unfold back
    have nd' := List.nodup_cons.mp nd
    cases j with
    | zero =>
      simp at h; subst h
      rw [back_out _ is os n nd'.1, List.getElem?_set_self hm]; rfl
    | succ j =>
      exact back_in _ is os j m nd'.2 (by simpa using hl) (by simpa using h) (by rw [List.length_set]; exact hm)
theorem mem_sel {is : List Nat} (hi : ∀ n ∈ is, n < r.length) {a : Addr} (h : a ∈ sel r is) : a ∈ r := by
  obtain ⟨n, hn, rfl⟩ := List.mem_map.mp h
  have := hi n hn
  simp [this]
/-- what is known after the callee's run -/
structure Ret (K : Frag) (H : Hp) (r : List Addr) (S : Sto) (is : List Nat) (r1 : List Addr) (H1 : Hp) (S1 : Sto) : Prop where
  nd : is.Nodup
  lt : ∀ n ∈ is, n < r.length
  si : SI K H r S
  xt : Xt (sel r is) H r1 H1
  s1 : SI K H1 r1 S1
  pu : (S1.take is.length).all purO = true
variable {is : List Nat}
theorem Ret.len (h : Ret K H r S is r1 H1 S1) : is.length ≤ S1.length := by
  rw [← h.s1.len]
  obtain ⟨l, e, _⟩ := h.xt.new
  rw [e, List.length_append, (sel_ok h.lt).1]; omega
/-- nothing else has changed -/
theorem Ret.out (h : Ret K H r S is r1 H1 S1) : Xt r H r H1 :=
  ⟨⟨[], by simp, by simp⟩, fun a o e na nt => h.xt.keep a o e (fun m => na (mem_sel h.lt m)) nt, h.xt.there⟩
theorem Ret.ext (h : Ret K H r S is r1 H1 S1) {l : List Addr} (hl : ∀ a ∈ l, H a = none) : Xt r H (r ++ l) H1 := ⟨⟨l, rfl, hl⟩, h.out.keep, h.xt.there⟩
theorem Ret.place (h : Ret K H r S is r1 H1 S1) {j n : Nat} (e : is[j]? = some n) : r1[j]? = r[n]? := by
  rw [← (sel_ok h.lt).2 j n e]
  have hj : j < (sel r is).length := by rw [(sel_ok h.lt).1]; exact (List.getElem?_eq_some_iff.mp e).1
  obtain ⟨l, e', _⟩ := h.xt.new
  rw [e', List.getElem?_append_left hj]
/-- the caller's objects behind the call -/
theorem Ret.obj (h : Ret K H r S is r1 H1 S1) {l : List Addr} (hl : ∀ a ∈ l, H a = none) {n : Nat} {o : MO} {a : Addr} (e1 : (back S is (S1.take is.length))[n]? = some o) (e2 : r[n]? = some a) : RepO K H1 (r ++ l) o a := by
  have hn : n < S.length := by rw [← h.si.len]; exact (List.getElem?_eq_some_iff.mp e2).1
  by_cases hm : n ∈ is
  · obtain ⟨j, hj, ej⟩ := List.getElem_of_mem hm
    have ej' : is[j]? = some n := by rw [List.getElem?_eq_getElem hj, ej]
    have lt : is.length = (S1.take is.length).length := by rw [List.length_take]; have := h.len; omega
    rw [back_in S is _ j n h.nd lt ej' hn] at e1
    have e3 : S1[j]? = some o := by rw [List.getElem?_take_of_lt hj] at e1; exact e1
    have hp : purO o = true := List.all_eq_true.mp h.pu o (List.mem_of_getElem? e1)
    exact RepO.any hp (h.s1.obj j o a e3 (by rw [h.place ej']; exact e2))
  · rw [back_out _ _ _ _ hm] at e1
    have ha : a ∉ sel r is := fun m => by
      obtain ⟨k, hk, ek⟩ := List.mem_map.mp m
      have lk := h.lt k hk
      have : r[k]? = some a := by rw [← ek]; simp [lk]
      exact hm (nodup_ix' h.si.nd e2 this ▸ hk)
    have ro := h.si.obj n o a e1 e2
    have nt := ro.noTup
    have same : H1 a = H a := by
      cases q : H a with
      | none => exact absurd q nt.1
      | some u =>
        refine h.xt.keep a u q ha fun ps z => ?_
        subst z
        cases o with
        | lst ds => obtain ⟨_, e, _⟩ := ro; rw [q] at e; cases e
        | dct ds => obtain ⟨_, e, _⟩ := ro; rw [q] at e; cases e
        | fd ds => obtain ⟨_, _, e, _⟩ := ro; rw [q] at e; cases e
    exact ro.at (h.ext hl) h.si.noTup same
theorem Ret.back (h : Ret K H r S is r1 H1 S1) : SI K H1 r (back S is (S1.take is.length)) :=
  ⟨by rw [back_len]; exact h.si.len, h.si.nd, fun n o a e1 e2 => by have := h.obj (l := []) (by simp) e1 e2; rwa [List.append_nil] at this⟩
/-- the new places -/
theorem Ret.fresh (h : Ret K H r S is r1 H1 S1) : ∃ l, r1 = sel r is ++ l ∧ l.Nodup ∧ (∀ a ∈ l, H a = none) ∧ (∀ a ∈ l, a ∉ r) ∧ l.length = S1.length - is.length := by
  obtain ⟨l, e, hn⟩ := h.xt.new
  have nd := h.s1.nd
  rw [e] at nd
  have len := h.s1.len
  rw [e, List.length_append, (sel_ok h.lt).1] at len
  exact ⟨l, e, (List.nodup_append.mp nd).2.1, hn, fun a ha hr => (h.si.noTup a hr).1 (hn a ha), by omega⟩
theorem leave_ok (h : Ret K H r S is r1 H1 S1) {v : D} {x : V} (hv : RepV K H1 r1 v x) {d : D} {S' : Sto} (e : leave S is v S1 = .ok d S') : ∃ r', Xt r H r' H1 ∧ RepV K H1 r' d x ∧ SI K H1 r' S' := by
  obtain ⟨l, el, ndl, hn, hr, ll⟩ := h.fresh
  have len := h.len
  have sl := (sel_ok h.lt).1
  unfold leave at e
  rw [if_pos h.pu] at e
  split at e
  · rename_i hp
    cases e
    exact ⟨r, h.out, RepV.any _ _ hp hv, h.back⟩
  · -- all new objects stay
    have whole : ∀ {v : D}, RepV K H1 r1 v x → RepV K H1 (r ++ l) (ren (fun j => if j < is.length then is.getD j 0 else S.length + (j - is.length)) v) x ∧
        SI K H1 (r ++ l) (back S is (S1.take is.length) ++ (S1.drop is.length).map (renO (fun j => if j < is.length then is.getD j 0 else S.length + (j - is.length)))) := fun {v} hv => by
      have hf : ∀ (n : Nat) (a : Addr), r1[n]? = some a → (r ++ l)[(fun j => if j < is.length then is.getD j 0 else S.length + (j - is.length)) n]? = some a := fun n a ea => by
        dsimp only
        split
        · rename_i hlt
          have ei : is[n]? = some (is.getD n 0) := by simp [hlt]
          have lt := h.lt _ (List.mem_of_getElem? ei)
          rw [List.getElem?_append_left lt, ← h.place ei]; exact ea
        · rename_i hlt
          rw [← h.si.len, List.getElem?_append_right (by omega)]
          rw [el, List.getElem?_append_right (by omega), sl] at ea
          rw [show r.length + (n - is.length) - r.length = n - is.length from by omega]
          exact ea
      refine ⟨RepV.ren hf v x hv, ?_, ?_, fun n o a e1 e2 => ?_⟩
      · rw [List.length_append, List.length_append, back_len, List.length_map, List.length_drop, h.si.len, ll]
      · exact List.nodup_append.mpr ⟨h.si.nd, ndl, fun a ha b hb z => hr b hb (z ▸ ha)⟩
      · by_cases hlt : n < r.length
        · rw [List.getElem?_append_left hlt] at e2
          rw [List.getElem?_append_left (by rw [back_len, ← h.si.len]; exact hlt)] at e1
          exact h.obj hn e1 e2
        · rw [List.getElem?_append_right (by omega)] at e2
          rw [List.getElem?_append_right (by rw [back_len, ← h.si.len]; omega), back_len, List.getElem?_map, Option.map_eq_some_iff] at e1
          obtain ⟨o', e3, rfl⟩ := e1
          rw [List.getElem?_drop] at e3
          refine RepO.ren hf (h.s1.obj _ o' a e3 ?_)
          rw [el, List.getElem?_append_right (by omega), sl, ← h.si.len, show is.length + (n - r.length) - is.length = n - r.length from by omega]
          exact e2
    have X' := h.ext hn
    split at e
    · rename_i j _
      split at e
      · rename_i o eo
        split at e
        · rename_i hq
          simp only [Bool.and_eq_true, decide_eq_true_eq] at hq
          cases e
          cases hv with
          | ref ga =>
            rename_i a
            rw [el, List.getElem?_append_right (by omega), sl] at ga
            have hm := List.mem_of_getElem? ga
            have hna := hn a hm
            refine ⟨r ++ [a], h.ext (by simpa using hna), .ref ?_, ?_, ?_, fun n o' b e1 e2 => ?_⟩
            · rw [← h.si.len, List.getElem?_concat_length]
            · simp [back_len, h.si.len]
            · exact List.nodup_append.mpr ⟨h.si.nd, by simp, fun b hb c hc z => hr a hm (by rw [List.mem_singleton.mp hc] at z; exact z ▸ hb)⟩
            · by_cases hlt : n < r.length
              · rw [List.getElem?_append_left hlt] at e2
                rw [List.getElem?_append_left (by rw [back_len, ← h.si.len]; exact hlt)] at e1
                exact h.obj (by simpa using hna) e1 e2
              · have hn' : n = r.length := by have := (List.getElem?_eq_some_iff.mp e2).1; simp at this; omega
                subst hn'
                rw [List.getElem?_concat_length] at e2
                cases e2
                rw [show r.length = (Ev.back S is (S1.take is.length)).length by rw [back_len]; exact h.si.len, List.getElem?_concat_length] at e1
                cases e1
                refine RepO.any hq.1 (h.s1.obj j o a eo ?_)
                rw [el, List.getElem?_append_right (by omega), sl]; exact ga
        · cases e
          exact ⟨r ++ l, X', (whole hv).1, (whole hv).2⟩
      · cases e
    · cases e
      exact ⟨r ++ l, X', (whole hv).1, (whole hv).2⟩
end
end Ev
end
section
set_option maxRecDepth 10000
/-! All defs of a text. -/
namespace Ev
open PySem L2 PyProof.Rows
open PySem.W (Frag)

section
variable {K : Frag} {T : List Addr}
theorem start_RepE {H : Hp} {r : List Addr} {N : List Str} {df : Def} {ds : List D} {vs : List V} (h : RepVs K H r ds vs) (hn : ds.length = df.np) (hs : df.ns = N.length) : RepE K H r (startE df ds) (L2.start N vs) := by
  have hl := h.length
  refine ⟨by unfold startE L2.start; simp; omega, fun i d e => ?_⟩
  unfold startE at e
  unfold L2.start
  by_cases hi : i < ds.length
  · rw [List.getElem?_append_left (by simpa using hi), List.getElem?_map, Option.map_eq_some_iff] at e
    obtain ⟨d', e1, e2⟩ := e
    cases e2
    obtain ⟨x, h1, h2⟩ := h.get e1
    exact ⟨x, by rw [List.getElem?_append_left (by simpa using (List.getElem?_eq_some_iff.mp h1).1), List.getElem?_map, h1]; rfl, h2⟩
  · rw [List.getElem?_append_right (by simpa using hi), List.getElem?_replicate] at e
    split at e <;> cases e
/-- what the body is to do for the call to do what callD says -/
theorem call_body {df : Def} {C : CallS} {N : List Str} {H : Hp} {r : List Addr} {S : Sto} {ds : List D} {vs : List V} {Q : VK} {W W' : WX} {σ : L2.St} (hv : RepVs K H r ds vs) (si : SI K H r S) (hs : df.ns = N.length)
    (g : GoodG (RV K) K T W' r σ H (callD df C ds S) Q) : RS K T W (evSs C df.body) { nx := fun _ H' => Q .non H', rt := Q } (L2.start N vs) H := by
  unfold callD at g
  split at g
  · rename_i hn
    split at g
    · rename_i args is ea
      split at g
      · rename_i S0 eo
        obtain ⟨nd, _, i3, i4⟩ := argsIn_ok ea List.nodup_nil hv
        have lt : ∀ n ∈ is, n < r.length := fun n hn => (i3 n hn).resolve_left (by simp)
        have hv0 := i4 _ (sel_ok lt)
        refine ⟨sel r is, startE df args, S0, start_RepE hv0 (by rw [hv0.length, ← hv.length]; exact hn) hs, start_SI si nd lt eo, ?_⟩
        have fin : ∀ {v : D} {x : V} {r1 : List Addr} {H1 : Hp} {S1 : Sto}, GoodG (RV K) K T W' r σ H (leave S is v S1) Q → Xt (sel r is) H r1 H1 → RepV K H1 r1 v x → SI K H1 r1 S1 → Q x H1 := fun {v x r1 H1 S1} g xt rv s1 => by
          cases el : leave S is v S1 with
          | bad => rw [el] at g; exact False.elim g
          | exc _ _ => unfold leave at el; repeat' split at el
                       all_goals cases el
          | ok d S' =>
            rw [el] at g
            have pu : (S1.take is.length).all purO = true := by
              cases q : (S1.take is.length).all purO with
              | true => rfl
              | false => unfold leave at el; rw [q] at el; cases el
            obtain ⟨r', a, b, c⟩ := leave_ok ⟨nd, lt, si, xt, s1, pu⟩ rv el
            exact g r' x H1 a b c
        cases hb : evSs C df.body (startE df args) S0 with
        | bad => rw [hb] at g; exact g
        | exc e env S1 => rw [hb] at g; exact False.elim g
        | ok f env S1 =>
          rw [hb] at g
          cases f with
          | nx => exact fun r1 σ1 H1 xt he s1 => fin g xt .non s1
          | brk => exact False.elim g
          | ct => exact False.elim g
          | rt v => exact fun r1 x H1 xt rv s1 => fin g xt rv s1
      · exact False.elim g
    · exact False.elim g
  · exact False.elim g
theorem callD_len {df : Def} {C : CallS} {ds : List D} {S : Sto} (h : callD df C ds S ≠ .bad) : ds.length = df.np := by
  unfold callD at h
  split at h
  · assumption
  · exact absurd rfl h

/-! ### the text's defs -/
/-- what the head tells of a def -/
structure FnFact (K : Frag) (mg : Str → Option Value) (fns : List Str) (d : DefT) (df : Def) : Prop where
  sc : FnScope d.N d.ps (scopeOf d.st)
  tr : ∃ m, trSs m ⟨d.N, scopeOf d.st, fns⟩ (bodyOf d.st) = some df.body
  np : df.np = d.ps.length
  ns : df.ns = d.N.length
  fn : ∃ f fd prm, mg d.name = some (.ref f) ∧ FunD K d.name d.name prm (bodyOf d.st) (scopeOf d.st) [] [] f fd ∧ Binds K fd d.ps []
structure Facts (K : Frag) (mg : Str → Option Value) (ds : List DefT) (P : List Def) : Prop where
  len : P.length = ds.length
  bn : ∀ x ∈ bnames, mg x = none
  fact : ∀ (i : Nat) (d : DefT) (df : Def), ds[i]? = some d → P[i]? = some df → FnFact K mg (ds.map (·.name)) d df
variable {Pg : Program} {w : World} {mg : Str → Option Value} {base : Heap} {ds : List DefT} {P : List Def}
theorem all_ok (F : Facts K mg ds P) : ∀ (n i : Nat) (d : DefT), ds[i]? = some d → ∀ (f : Addr) (fd : FuncData) (prm : Arguments), FunD K d.name d.name prm (bodyOf d.st) (scopeOf d.st) [] [] f fd →
    FnOk Pg w K mg base (L2.CX Pg w) n f fd d.ps (spD K T d.ps.length (callSem P n i))
  | 0, i, d, hd, f, fd, prm, fun_ => ⟨fun vs H Q E ⟨r, S, ds, hv, _, hl, _⟩ => by rw [← hv.length]; exact hl, fun A outer s H args us vs Q E _ _ _ _ ⟨_, _, _, _, _, _, g⟩ => False.elim g⟩
  | n + 1, i, d, hd, f, fd, prm, fun_ => by
    have hp : ∃ df, P[i]? = some df := by
      have : i < P.length := by rw [F.len]; exact (List.getElem?_eq_some_iff.mp hd).1
      exact ⟨_, List.getElem?_eq_getElem this⟩
    obtain ⟨df, hp⟩ := hp
    have ff := F.fact i d df hd hp
    refine fun_.ok ff.sc (fun vs H Q E ⟨r, S, ds, hv, _, hl, _⟩ => by rw [← hv.length]; exact hl) fun cdv A outer s H vs Q E hr hsp => ?_
    refine ⟨RS K T (fun cls dd _ H' => E cls dd H') (evSs (callSem P n) df.body), ?_, ?_⟩
    · obtain ⟨m, htr⟩ := ff.tr
      have hctx : CtxS (callSem P n) T (cxOf (L2.CX Pg w) Pg w K mg base d.N d.name (scopeOf d.st) f cdv A outer s H E) ⟨d.N, scopeOf d.st, ds.map (·.name)⟩ (fun cls dd _ H' => E cls dd H') := by
        refine ⟨⟨rfl, ff.sc.nd, rfl, rfl, ?_, takes_of rfl rfl rfl rfl, F.bn, ?_⟩, ff.sc.kind, fun _ => rfl, passes_of rfl⟩
        · have := hr.un
          show (A.deeper _).units + 64 < cLine
          omega
        · intro x k hx
          have hk := ixOf_get hx
          simp only [List.getElem?_map, Option.map_eq_some_iff] at hk
          obtain ⟨d', hd', rfl⟩ := hk
          have hp' : ∃ df, P[k]? = some df := by
            have : k < P.length := by rw [F.len]; exact (List.getElem?_eq_some_iff.mp hd').1
            exact ⟨_, List.getElem?_eq_getElem this⟩
          obtain ⟨df', hp'⟩ := hp'
          have ff' := F.fact k d' df' hd' hp'
          obtain ⟨f', fd', prm', g1, g2, g3⟩ := ff'.fn
          refine ⟨f', fd', d'.ps, n, g1, g2.kp, g3, hr, all_ok F n k d' hd' f' fd' prm' g2, fun ds S hb => ?_⟩
          cases n with
          | zero => exact absurd rfl hb
          | succ m =>
            have : callSem P (m + 1) k ds S = callD df' (callSem P m) ds S := by simp only [callSem, hp']
            rw [this] at hb
            rw [callD_len hb, ff'.np]
      exact (sndS m).Ss hctx htr
    · obtain ⟨r, S, ds', hv, si, hl, g⟩ := hsp
      have : callSem P (n + 1) i ds' S = callD df (callSem P n) ds' S := by simp only [callSem, hp]
      rw [this] at g
      exact call_body hv si ff.ns g
end
end Ev
end
section
set_option maxRecDepth 10000
/-! From the head's facts to the law's walk. -/
namespace Ev
open PySem L2 PyProof.Rows
open PySem.W (Frag)

def toD (d : DefT) : He.DefD := ⟨(d.name, none), d.name, d.name, defArgs d.st, bodyOf d.st, scopeOf d.st, [], []⟩
def fnOf (ds : List DefT) : List He.DefD := ds.map toD
def faOf (ds : List DefT) : List He.Fa := ds.map (fun d => He.Fa.glo d.name) ++ bnames.map He.Fa.free
structure DefOk (fns : List Str) (d : DefT) (df : Def) : Prop where
  sc : FnScope d.N d.ps (scopeOf d.st)
  tr : trSs 200 ⟨d.N, scopeOf d.st, fns⟩ (bodyOf d.st) = some df.body
  np : df.np = d.ps.length
  ns : df.ns = d.N.length
  bi : ∀ (K : Frag) (f : Addr) (fd : FuncData), FunD K d.name d.name (defArgs d.st) (bodyOf d.st) (scopeOf d.st) [] [] f fd → Binds K fd d.ps []
def Oks (fns : List Str) : List DefT → List Def → Prop
  | [], [] => True
  | d :: ds, f :: fs => DefOk fns d f ∧ Oks fns ds fs
  | _, _ => False
theorem Oks.len {fns : List Str} : ∀ {ds : List DefT} {fs : List Def}, Oks fns ds fs → fs.length = ds.length
  | [], [], _ => rfl
  | _ :: _, _ :: _, h => by rw [List.length_cons, List.length_cons, Oks.len h.2]
  | [], _ :: _, h => h.elim
  | _ :: _, [], h => h.elim
theorem Oks.get {fns : List Str} : ∀ {ds : List DefT} {fs : List Def}, Oks fns ds fs → ∀ (i : Nat) (d : DefT) (f : Def), ds[i]? = some d → fs[i]? = some f → DefOk fns d f
  | [], [], _, i, _, _, h, _ => by simp at h
  | _ :: _, _ :: _, h, 0, _, _, e1, e2 => by simp at e1 e2; subst e1 e2; exact h.1
  | _ :: _, _ :: _, h, i + 1, _, _, e1, e2 => Oks.get h.2 i _ _ (by simpa using e1) (by simpa using e2)
  | [], _ :: _, h, _, _, _, _, _ => h.elim
  | _ :: _, [], h, _, _, _, _, _ => h.elim
section
variable {K : Frag} {h : Heap} {mg : Str → Option Value} {ds : List DefT} {P : List Def}
theorem free_of (X : K.In h) (G : h.Ns mainGlobals mg) (c : He.SaysD (faOf ds) (fnOf ds) K) (x : Str) (hx : x ∈ bnames) : mg x = none := by
  obtain ⟨j, hj, e⟩ := List.getElem_of_mem hx
  refine He.free_ok X G (c.fact (ds.length + j) (f := .free x) ?_)
  unfold faOf
  rw [List.getElem?_append_right (by simp), List.length_map, Nat.add_sub_cancel_left, List.getElem?_map, List.getElem?_eq_getElem hj, e]
  rfl
theorem def_of (X : K.In h) (G : h.Ns mainGlobals mg) (c : He.SaysD (faOf ds) (fnOf ds) K) {i : Nat} {d : DefT} (hd : ds[i]? = some d) :
    ∃ fd, mg d.name = some (.ref (He.ga K d.name)) ∧ FunD K d.name d.name (defArgs d.st) (bodyOf d.st) (scopeOf d.st) [] [] (He.ga K d.name) fd := by
  obtain ⟨fd, F⟩ := c.def_ i (d := toD d) (by unfold fnOf; rw [List.getElem?_map, hd]; rfl)
  refine ⟨fd, He.glo_ok X G (c.fact i (f := .glo d.name) ?_), F⟩
  unfold faOf
  rw [List.getElem?_append_left (by rw [List.length_map]; exact (List.getElem?_eq_some_iff.mp hd).1), List.getElem?_map, hd]
  rfl
theorem facts_of (X : K.In h) (G : h.Ns mainGlobals mg) (c : He.SaysD (faOf ds) (fnOf ds) K) (ok : Oks (ds.map (·.name)) ds P) : Facts K mg ds P where
  len := ok.len
  bn := free_of X G c
  fact := fun i d df hd hp => by
    have o := ok.get i d df hd hp
    obtain ⟨fd, g, F⟩ := def_of X G c hd
    exact ⟨o.sc, ⟨200, o.tr⟩, o.np, o.ns, _, fd, _, g, F, o.bi K _ fd F⟩
/-- the law's def, walked -/
theorem law_F {Pg : Program} {w : World} {fa : Addr} {lv li : Nat} {dl : DefT} {x : Str} (X : K.In h) (G : h.Ns mainGlobals mg) (c : He.SaysD (faOf ds) (fnOf ds) K) (ok : Oks (ds.map (·.name)) ds P) (hl : ds[li]? = some dl) (hps : dl.ps = [x]) (hfa : mg dl.name = some (.ref fa))
    (hb : ∀ (K : Frag) (f : Addr) (fd : FuncData), FunD K dl.name dl.name (defArgs dl.st) (bodyOf dl.st) (scopeOf dl.st) [] [] f fd → ∀ (s : Shared) (u : Value), BindsTo s fd ⟨[u], []⟩ [(x, u)])
    (law : ∀ ns : List Int, ns.length ≤ 63 → ∃ S, callSem P lv li [.fl (ns.map .int)] [] = .ok (.bl true) S) :
    ∃ (K : Frag) (fd : FuncData) (sp : Sp), K.In h ∧ (∀ (s : Shared) (u : Value), BindsTo s fd ⟨[u], []⟩ [(x, u)]) ∧
      (∀ (H : Hp) (a : Addr) (ns : List Int), ns.length ≤ 63 → Only H → SqL K H a (ns.map V.int) → sp [.ref a] H (fun v _ => v = .bl true) fun _ _ _ => False) ∧
      ∀ base : Heap, K.In base → base.Ns mainGlobals mg → FnOk Pg w K mg base (L2.CX Pg w) lv fa fd [x] sp := by
  obtain ⟨fd, g, F⟩ := def_of X G c hl
  rw [hfa] at g
  have ef : fa = He.ga K dl.name := by injection g with g; injection g
  rw [← ef] at F
  refine ⟨K, fd, spD K [] 1 (callSem P lv li), X, hb K fa fd F, fun H a ns hn ho hs => ?_, fun base _ _ => ?_⟩
  · obtain ⟨S', e⟩ := law ns hn
    have hf : SqF K H a (ns.map V.int) := by
      rcases hs with (z | z) | z
      · rcases ho a with q | ⟨o, xs, q⟩ <;> rw [q] at z <;> cases z
      · exact .inl z
      · exact .inr z
    refine ⟨[], [], [.fl (ns.map .int)], .cons (.fl hf (V_ints ns)) .nil, ⟨rfl, List.nodup_nil, by simp⟩, rfl, ?_⟩
    rw [e]
    intro r' v H' _ rv _
    cases rv; rfl
  · have := all_ok (Pg := Pg) (w := w) (base := base) (T := []) (facts_of X G c ok) lv li dl hl fa fd _ F
    rw [hps] at this
    exact this
end
/-- the head's last step, where what may be let out is the raised exceptions -/
theorem walk_ev {l : PySem.W.OpenLaw} {n k : Nat} {q : Program} {loose : List Str} {XP : (Str → Option Value) → Heap → Prop} {YP : World → Heap → Prop} {d : DefRec} {x : Str} (hn : l.most = some n) (hz : n ≤ sizeLine) (hdf : d.params.defaults = []) (room : Room k callerA)
    (F : ∀ (w : World) (mg : Str → Option Value) (fa : Addr) (h : Heap), YP w h → h.Ns mainGlobals mg → mg d.name = some (.ref fa) →
      ∃ (K : Frag) (fd : FuncData) (sp : Sp), K.In h ∧ (∀ (s : Shared) (u : Value), BindsTo s fd ⟨[u], []⟩ [(x, u)]) ∧
        (∀ (H : Hp) (a : Addr) (ns : List Int), ns.length ≤ n → Only H → SqL K H a (ns.map V.int) → sp [.ref a] H (fun v _ => v = .bl true) fun _ _ _ => False) ∧
        ∀ base : Heap, K.In base → base.Ns mainGlobals mg → FnOk l.prog w K mg base (L2.CX l.prog w) k fa fd [x] sp) :
    PySem.W.WalkO q loose XP YP l.row.toRowW d [] (fun f vs => PySem.call f vs) := by
  refine Att.attach_call hn hdf fun w s0 s1 mg mb fa o pm cd doc a vs ns G Y ho hd hcd hmg hobj hints hlen hg => ?_
  obtain ⟨K, fd, sp, KX, hb, hsp, hF⟩ := F w mg fa _ Y G.T.g hmg
  exact law_call KX G.T.g G.T.b G.T.builtins G.T.nolimit hg hobj hints (Nat.le_trans hlen hz) room hF hb (fun H hO hS => hsp H a ns hlen hO hS) fun _ _ _ ⟨_, _, _, _, _, _, _, _, _, _, _, _, z⟩ => z
end Ev
end
section
set_option maxRecDepth 100000
namespace K06
open Ev
def Btwos_L0 : ISs := .cons (.aug 1 .add (.var 1)) (.nil)
def Btwos : ISs := .cons (.asg (.var 1) (.int (1))) (.cons (.fori (.var 2) (.rng1 (.var 0)) Btwos_L0) (.cons (.ret (.var 1)) (.nil)))
def Bnames_of : ISs := .cons (.ite (.cmp .eq (.ix (.var 0) (.int (0))) (.str [118, 97, 114])) (.cons (.ret (.tup (.cons (.ix (.var 0) (.int (1))) (.nil)))) (.nil)) (.nil)) (.cons (.ite (.cmp .eq (.ix (.var 0) (.int (0))) (.str [99, 111, 110, 115, 116])) (.cons (.ret (.tup (.nil))) (.nil)) (.nil)) (.cons (.asg (.var 1) (.dc2 [2, 3] (.var 2) (.val (.sl (.var 0) (.some (.int (1))) (.none))) (.nil) [3] (.var 3) (.val (.call 1 (.cons (.var 2) (.nil)))) (.nil) (.var 3) (.bl true))) (.cons (.ret (.bi .tuple (.cons (.bi .sorted (.cons (.var 1) (.nil))) (.nil)))) (.nil))))
def Bvalued : ISs := .cons (.ite (.cmp .eq (.ix (.var 0) (.int (0))) (.str [99, 111, 110, 115, 116])) (.cons (.ret (.ix (.var 0) (.int (1)))) (.nil)) (.nil)) (.cons (.ite (.cmp .eq (.ix (.var 0) (.int (0))) (.str [118, 97, 114])) (.cons (.ret (.ix (.var 1) (.ix (.var 0) (.int (1))))) (.nil)) (.nil)) (.cons (.ite (.cmp .eq (.ix (.var 0) (.int (0))) (.str [110, 111, 116])) (.cons (.ret (.bin .sub (.int (1)) (.call 2 (.cons (.ix (.var 0) (.int (1))) (.cons (.var 1) (.nil)))))) (.nil)) (.nil)) (.cons (.par [2, 3] (.cons (.call 2 (.cons (.ix (.var 0) (.int (1))) (.cons (.var 1) (.nil)))) (.cons (.call 2 (.cons (.ix (.var 0) (.int (2))) (.cons (.var 1) (.nil)))) (.nil)))) (.cons (.ret (.ix (.dct (.cons (.str [97, 110, 100]) (.bin .mul (.var 2) (.var 3)) (.cons (.str [111, 114]) (.bi .max2 (.cons (.var 2) (.cons (.var 3) (.nil)))) (.cons (.str [120, 111, 114]) (.bin .mod (.bin .add (.var 2) (.var 3)) (.int (2))) (.nil))))) (.ix (.var 0) (.int (0))))) (.nil)))))
def Bput : ISs := .cons (.ite (.cmp .eq (.ix (.var 0) (.int (0))) (.str [118, 97, 114])) (.cons (.ret (.ife (.cmp .eq (.ix (.var 0) (.int (1))) (.var 1)) (.var 2) (.var 0))) (.nil)) (.nil)) (.cons (.ite (.cmp .eq (.ix (.var 0) (.int (0))) (.str [99, 111, 110, 115, 116])) (.cons (.ret (.var 0)) (.nil)) (.nil)) (.cons (.ret (.bin .add (.tup (.cons (.ix (.var 0) (.int (0))) (.nil))) (.bi .tuple (.cons (.lc [3] (.var 3) (.val (.sl (.var 0) (.some (.int (1))) (.none))) (.nil) (.call 3 (.cons (.var 3) (.cons (.var 1) (.cons (.var 2) (.nil)))))) (.nil))))) (.nil)))
def Bplain : ISs := .cons (.ite (.cmp .isin (.ix (.var 0) (.int (0))) (.tup (.cons (.str [99, 111, 110, 115, 116]) (.cons (.str [118, 97, 114]) (.nil))))) (.cons (.ret (.var 0)) (.nil)) (.nil)) (.cons (.ite (.cmp .eq (.ix (.var 0) (.int (0))) (.str [110, 111, 116])) (.cons (.asg (.var 1) (.call 4 (.cons (.ix (.var 0) (.int (1))) (.nil)))) (.cons (.ite (.cmp .eq (.ix (.var 1) (.int (0))) (.str [99, 111, 110, 115, 116])) (.cons (.ret (.tup (.cons (.str [99, 111, 110, 115, 116]) (.cons (.bin .sub (.int (1)) (.ix (.var 1) (.int (1)))) (.nil))))) (.nil)) (.nil)) (.cons (.ret (.ife (.cmp .eq (.ix (.var 1) (.int (0))) (.str [110, 111, 116])) (.ix (.var 1) (.int (1))) (.tup (.cons (.str [110, 111, 116]) (.cons (.var 1) (.nil)))))) (.nil)))) (.nil)) (.cons (.par [1, 2] (.cons (.call 4 (.cons (.ix (.var 0) (.int (1))) (.nil))) (.cons (.call 4 (.cons (.ix (.var 0) (.int (2))) (.nil))) (.nil)))) (.cons (.ite (.cmp .eq (.ix (.var 1) (.int (0))) (.str [99, 111, 110, 115, 116])) (.cons (.par [1, 2] (.cons (.var 2) (.cons (.var 1) (.nil)))) (.nil)) (.nil)) (.cons (.ite (.cmp .eq (.ix (.var 2) (.int (0))) (.str [99, 111, 110, 115, 116])) (.cons (.ret (.call 5 (.cons (.ix (.var 0) (.int (0))) (.cons (.var 1) (.cons (.ix (.var 2) (.int (1))) (.nil)))))) (.nil)) (.nil)) (.cons (.ite (.cmp .eq (.var 1) (.var 2)) (.cons (.ret (.ife (.cmp .eq (.ix (.var 0) (.int (0))) (.str [120, 111, 114])) (.tup (.cons (.str [99, 111, 110, 115, 116]) (.cons (.int (0)) (.nil)))) (.var 1))) (.nil)) (.nil)) (.cons (.ret (.tup (.cons (.ix (.var 0) (.int (0))) (.cons (.var 1) (.cons (.var 2) (.nil)))))) (.nil)))))))
def Bwith_const : ISs := .cons (.ite (.cmp .eq (.var 0) (.str [97, 110, 100])) (.cons (.ret (.ife (.cmp .eq (.var 2) (.int (1))) (.var 1) (.tup (.cons (.str [99, 111, 110, 115, 116]) (.cons (.int (0)) (.nil)))))) (.nil)) (.nil)) (.cons (.ite (.cmp .eq (.var 0) (.str [111, 114])) (.cons (.ret (.ife (.cmp .eq (.var 2) (.int (0))) (.var 1) (.tup (.cons (.str [99, 111, 110, 115, 116]) (.cons (.int (1)) (.nil)))))) (.nil)) (.nil)) (.cons (.ite (.cmp .eq (.var 2) (.int (0))) (.cons (.ret (.var 1)) (.nil)) (.nil)) (.cons (.ret (.call 4 (.cons (.tup (.cons (.str [110, 111, 116]) (.cons (.var 1) (.nil)))) (.nil)))) (.nil))))
def Binward : ISs := .cons (.asg (.var 2) (.ix (.var 0) (.int (0)))) (.cons (.ite (.cmp .eq (.var 2) (.str [99, 111, 110, 115, 116])) (.cons (.ret (.ife (.var 1) (.tup (.cons (.str [99, 111, 110, 115, 116]) (.cons (.bin .sub (.int (1)) (.ix (.var 0) (.int (1)))) (.nil)))) (.var 0))) (.nil)) (.nil)) (.cons (.ite (.cmp .eq (.var 2) (.str [118, 97, 114])) (.cons (.ret (.ife (.var 1) (.tup (.cons (.str [110, 111, 116]) (.cons (.var 0) (.nil)))) (.var 0))) (.nil)) (.nil)) (.cons (.ite (.cmp .eq (.var 2) (.str [110, 111, 116])) (.cons (.ret (.call 6 (.cons (.ix (.var 0) (.int (1))) (.cons (.inot (.var 1)) (.nil))))) (.nil)) (.nil)) (.cons (.ite (.cmp .eq (.var 2) (.str [120, 111, 114])) (.cons (.par [3, 4] (.cons (.ix (.var 0) (.int (1))) (.cons (.ix (.var 0) (.int (2))) (.nil)))) (.cons (.asg (.var 5) (.tup (.cons (.str [97, 110, 100]) (.cons (.call 6 (.cons (.var 3) (.cons (.bl false) (.nil)))) (.cons (.call 6 (.cons (.var 4) (.cons (.inot (.var 1)) (.nil)))) (.nil)))))) (.cons (.ret (.tup (.cons (.str [111, 114]) (.cons (.var 5) (.cons (.tup (.cons (.str [97, 110, 100]) (.cons (.call 6 (.cons (.var 3) (.cons (.bl true) (.nil)))) (.cons (.call 6 (.cons (.var 4) (.cons (.var 1) (.nil)))) (.nil))))) (.nil)))))) (.nil)))) (.nil)) (.cons (.asg (.var 4) (.ife (.var 1) (.ix (.dct (.cons (.str [97, 110, 100]) (.str [111, 114]) (.cons (.str [111, 114]) (.str [97, 110, 100]) (.nil)))) (.var 2)) (.var 2))) (.cons (.ret (.tup (.cons (.var 4) (.cons (.call 6 (.cons (.ix (.var 0) (.int (1))) (.cons (.var 1) (.nil)))) (.cons (.call 6 (.cons (.ix (.var 0) (.int (2))) (.cons (.var 1) (.nil)))) (.nil)))))) (.nil)))))))
def Brows_of_L0 : ISs := .cons (.expr (.me .append (.var 1) (.cons (.dc [3, 4] (.tup (.cons (.var 3) (.cons (.var 4) (.nil)))) (.enum (.var 0)) (.nil) (.var 4) (.bin .mod (.bin .fdiv (.var 2) (.call 0 (.cons (.var 3) (.nil)))) (.int (2)))) (.nil)))) (.nil)
def Brows_of : ISs := .cons (.ite (.cmp .gt (.bi .len (.cons (.var 0) (.nil))) (.int (8))) (.cons (.never) (.nil)) (.nil)) (.cons (.asg (.var 1) (.lst (.nil))) (.cons (.fori (.var 2) (.rng1 (.call 0 (.cons (.bi .len (.cons (.var 0) (.nil))) (.nil)))) Brows_of_L0) (.cons (.ret (.var 1)) (.nil))))
def Btable_of : ISs := .cons (.ret (.bi .tuple (.cons (.lc [2] (.var 2) (.val (.call 7 (.cons (.var 1) (.nil)))) (.nil) (.call 2 (.cons (.var 0) (.cons (.var 2) (.nil))))) (.nil)))) (.nil)
def Balike : ISs := .cons (.asg (.var 2) (.bi .tuple (.cons (.bi .sorted (.cons (.dc2 [3, 4] (.var 3) (.val (.tup (.cons (.var 0) (.cons (.var 1) (.nil))))) (.nil) [4] (.var 4) (.val (.call 1 (.cons (.var 3) (.nil)))) (.nil) (.var 4) (.bl true)) (.nil))) (.nil)))) (.cons (.ret (.cmp .eq (.call 8 (.cons (.var 0) (.cons (.var 2) (.nil)))) (.call 8 (.cons (.var 1) (.cons (.var 2) (.nil)))))) (.nil))
def B_law_dice : ISs := .cons (.ite (.cmp2 .lt .lt (.bin .sub (.int (0)) (.int (10))) (.var 0) (.int (10))) (.cons (.ret (.lst (.cons (.bi .abs (.cons (.var 0) (.nil))) (.cons (.int (0)) (.cons (.int (2)) (.nil)))))) (.nil)) (.nil)) (.cons (.ret (.lst (.cons (.var 0) (.cons (.bin .add (.int (1)) (.bin .mod (.bi .int (.cons (.var 0) (.nil))) (.int (1009)))) (.cons (.bi .int (.cons (.cmp .ge (.var 0) (.bin .pow (.int (10)) (.int (18)))) (.nil))) (.nil)))))) (.nil))
def B_law_roll : ISs := .cons (.ite (.ior (.cmp .eq (.ix (.var 0) (.int (2))) (.int (2))) (.iand (.cmp .eq (.ix (.var 0) (.int (2))) (.int (1))) (.cmp .gt (.ix (.var 0) (.int (0))) (.int (0))))) (.cons (.asg (.var 2) (.bin .mod (.bi .int (.cons (.ix (.var 0) (.int (0))) (.nil))) (.var 1))) (.cons (.asg (.sub (.var 0) (.int (0))) (.bin .fdiv (.ix (.var 0) (.int (0))) (.var 1))) (.cons (.ret (.var 2)) (.nil)))) (.nil)) (.cons (.asg (.sub (.var 0) (.int (2))) (.int (0))) (.cons (.asg (.sub (.var 0) (.int (0))) (.bin .mod (.bi .int (.cons (.bin .add (.bin .add (.bin .mul (.ix (.var 0) (.int (0))) (.int (48271))) (.bin .mul (.ix (.var 0) (.int (1))) (.int (69621)))) (.int (11))) (.nil))) (.int (2147483647)))) (.cons (.asg (.sub (.var 0) (.int (1))) (.bin .add (.ix (.var 0) (.int (1))) (.int (1)))) (.cons (.ret (.bin .mod (.bi .int (.cons (.bin .add (.bin .fdiv (.ix (.var 0) (.int (0))) (.int (7))) (.ix (.var 0) (.int (0)))) (.nil))) (.var 1))) (.nil)))))
def B_law_rounds : ISs := .cons (.asg (.var 2) (.sl (.var 0) (.none) (.some (.var 1)))) (.cons (.ite (.cmp .eq (.var 2) (.lst (.nil))) (.cons (.asg (.var 2) (.lst (.cons (.int (0)) (.nil)))) (.nil)) (.nil)) (.cons (.ret (.lc [3] (.var 3) (.val (.var 2)) (.nil) (.call 10 (.cons (.var 3) (.nil))))) (.nil)))
def B_law_formula : ISs := .cons (.asg (.var 2) (.call 11 (.cons (.var 0) (.cons (.int (8)) (.nil))))) (.cons (.ite (.ior (.cmp .eq (.var 1) (.int (0))) (.cmp .lt (.var 2) (.int (2)))) (.cons (.ret (.ix (.lst (.cons (.tup (.cons (.str [118, 97, 114]) (.cons (.str [97]) (.nil)))) (.cons (.tup (.cons (.str [118, 97, 114]) (.cons (.str [98]) (.nil)))) (.cons (.tup (.cons (.str [118, 97, 114]) (.cons (.str [99]) (.nil)))) (.cons (.tup (.cons (.str [99, 111, 110, 115, 116]) (.cons (.int (0)) (.nil)))) (.cons (.tup (.cons (.str [99, 111, 110, 115, 116]) (.cons (.int (1)) (.nil)))) (.nil))))))) (.call 11 (.cons (.var 0) (.cons (.int (5)) (.nil)))))) (.nil)) (.nil)) (.cons (.ite (.cmp .eq (.var 2) (.int (2))) (.cons (.ret (.tup (.cons (.str [110, 111, 116]) (.cons (.call 13 (.cons (.var 0) (.cons (.bin .sub (.var 1) (.int (1))) (.nil)))) (.nil))))) (.nil)) (.nil)) (.cons (.ret (.tup (.cons (.ix (.lst (.cons (.str [97, 110, 100]) (.cons (.str [111, 114]) (.cons (.str [120, 111, 114]) (.nil))))) (.call 11 (.cons (.var 0) (.cons (.int (3)) (.nil))))) (.cons (.call 13 (.cons (.var 0) (.cons (.bin .sub (.var 1) (.int (1))) (.nil)))) (.cons (.call 13 (.cons (.var 0) (.cons (.bin .sub (.var 1) (.int (1))) (.nil)))) (.nil)))))) (.nil))))
def B_law_bit : ISs := .cons (.ite (.cmp .eq (.ix (.var 0) (.int (0))) (.str [99, 111, 110, 115, 116])) (.cons (.ret (.ix (.var 0) (.int (1)))) (.nil)) (.nil)) (.cons (.ite (.cmp .eq (.ix (.var 0) (.int (0))) (.str [118, 97, 114])) (.cons (.ret (.ix (.var 1) (.me .index (.str [97, 98, 99]) (.cons (.ix (.var 0) (.int (1))) (.nil))))) (.nil)) (.nil)) (.cons (.ite (.cmp .eq (.ix (.var 0) (.int (0))) (.str [110, 111, 116])) (.cons (.ret (.bin .sub (.int (1)) (.call 14 (.cons (.ix (.var 0) (.int (1))) (.cons (.var 1) (.nil)))))) (.nil)) (.nil)) (.cons (.par [2, 3] (.cons (.call 14 (.cons (.ix (.var 0) (.int (1))) (.cons (.var 1) (.nil)))) (.cons (.call 14 (.cons (.ix (.var 0) (.int (2))) (.cons (.var 1) (.nil)))) (.nil)))) (.cons (.ite (.cmp .eq (.ix (.var 0) (.int (0))) (.str [97, 110, 100])) (.cons (.ret (.bin .mul (.var 2) (.var 3))) (.nil)) (.nil)) (.cons (.ret (.ife (.cmp .eq (.ix (.var 0) (.int (0))) (.str [111, 114])) (.bi .max2 (.cons (.var 2) (.cons (.var 3) (.nil)))) (.bin .mod (.bin .add (.var 2) (.var 3)) (.int (2))))) (.nil))))))
def B_law_rows_L0 : ISs := .cons (.asg (.var 1) (.bin .add (.lc [3] (.var 3) (.val (.var 1)) (.nil) (.bin .add (.var 3) (.tup (.cons (.int (0)) (.nil))))) (.lc [3] (.var 3) (.val (.var 1)) (.nil) (.bin .add (.var 3) (.tup (.cons (.int (1)) (.nil))))))) (.nil)
def B_law_rows : ISs := .cons (.asg (.var 1) (.lst (.cons (.tup (.nil)) (.nil)))) (.cons (.fori (.var 2) (.rng1 (.var 0)) B_law_rows_L0) (.cons (.ret (.var 1)) (.nil)))
def B_law_kinds : ISs := .cons (.ite (.cmp .isin (.ix (.var 0) (.int (0))) (.lst (.cons (.str [99, 111, 110, 115, 116]) (.cons (.str [118, 97, 114]) (.nil))))) (.cons (.ret (.lst (.cons (.ix (.var 0) (.int (0))) (.nil)))) (.nil)) (.nil)) (.cons (.ite (.cmp .eq (.ix (.var 0) (.int (0))) (.str [110, 111, 116])) (.cons (.ret (.bin .add (.lst (.cons (.bin .add (.str [110, 111, 116, 32]) (.ix (.ix (.var 0) (.int (1))) (.int (0)))) (.nil))) (.call 16 (.cons (.ix (.var 0) (.int (1))) (.nil))))) (.nil)) (.nil)) (.cons (.ret (.bin .add (.bin .add (.lst (.cons (.ix (.var 0) (.int (0))) (.nil))) (.call 16 (.cons (.ix (.var 0) (.int (1))) (.nil)))) (.call 16 (.cons (.ix (.var 0) (.int (2))) (.nil))))) (.nil)))
def Blaw_L0 : ISs := .cons (.ite (.cmp .ne (.call 14 (.cons (.var 7) (.cons (.var 5) (.nil)))) (.call 14 (.cons (.var 3) (.cons (.tup (.cons (.ix (.var 5) (.int (0))) (.cons (.call 14 (.cons (.var 4) (.cons (.var 5) (.nil)))) (.cons (.ix (.var 5) (.int (2))) (.nil))))) (.nil))))) (.cons (.ret (.bl false)) (.nil)) (.nil)) (.nil)
def Blaw_L1 : ISs := .cons (.asg (.var 11) (.call 6 (.cons (.var 3) (.cons (.var 10) (.nil))))) (.cons (.ite (.cmp .ne (.lc [5] (.var 5) (.val (.var 1)) (.nil) (.call 14 (.cons (.var 11) (.cons (.var 5) (.nil))))) (.lc [12] (.var 12) (.val (.var 6)) (.nil) (.ife (.var 10) (.bin .sub (.int (1)) (.var 12)) (.var 12)))) (.cons (.ret (.bl false)) (.nil)) (.nil)) (.cons (.ite (.cmp .ne (.lc [13] (.var 13) (.val (.call 16 (.cons (.var 11) (.nil)))) (.cons (.cmp .notin (.var 13) (.lst (.cons (.str [99, 111, 110, 115, 116]) (.cons (.str [118, 97, 114]) (.cons (.str [97, 110, 100]) (.cons (.str [111, 114]) (.cons (.str [110, 111, 116, 32, 118, 97, 114]) (.nil)))))))) (.nil)) (.var 13)) (.lst (.nil))) (.cons (.ret (.bl false)) (.nil)) (.nil)) (.nil)))
def Blaw_L2 : ISs := .cons (.asg (.tup (.cons (.var 3) (.cons (.var 4) (.nil)))) (.tup (.cons (.call 13 (.cons (.var 2) (.cons (.int (3)) (.nil)))) (.cons (.call 13 (.cons (.var 2) (.cons (.int (3)) (.nil)))) (.nil))))) (.cons (.asg (.var 6) (.lc [5] (.var 5) (.val (.var 1)) (.nil) (.call 14 (.cons (.var 3) (.cons (.var 5) (.nil)))))) (.cons (.asg (.var 7) (.call 3 (.cons (.var 3) (.cons (.str [98]) (.cons (.var 4) (.nil)))))) (.cons (.fori (.var 5) (.val (.var 1)) Blaw_L0) (.cons (.asg (.var 8) (.call 4 (.cons (.var 3) (.nil)))) (.cons (.ite (.cmp .ne (.lc [5] (.var 5) (.val (.var 1)) (.nil) (.call 14 (.cons (.var 8) (.cons (.var 5) (.nil))))) (.var 6)) (.cons (.ret (.bl false)) (.nil)) (.nil)) (.cons (.asg (.var 9) (.call 16 (.cons (.var 8) (.nil)))) (.cons (.ite (.ior (.cmp .isin (.str [110, 111, 116, 32, 110, 111, 116]) (.var 9)) (.ior (.cmp .isin (.str [110, 111, 116, 32, 99, 111, 110, 115, 116]) (.var 9)) (.iand (.cmp .isin (.str [99, 111, 110, 115, 116]) (.var 9)) (.cmp .ne (.ix (.var 8) (.int (0))) (.str [99, 111, 110, 115, 116]))))) (.cons (.ret (.bl false)) (.nil)) (.nil)) (.cons (.ite (.cmp .ne (.call 4 (.cons (.var 8) (.nil))) (.var 8)) (.cons (.ret (.bl false)) (.nil)) (.nil)) (.cons (.fori (.var 10) (.val (.lst (.cons (.bl false) (.cons (.bl true) (.nil))))) Blaw_L1) (.cons (.ite (.ior (.cmp .ne (.call 9 (.cons (.var 3) (.cons (.var 4) (.nil)))) (.cmp .eq (.var 6) (.lc [5] (.var 5) (.val (.var 1)) (.nil) (.call 14 (.cons (.var 4) (.cons (.var 5) (.nil))))))) (.inot (.call 9 (.cons (.var 3) (.cons (.var 8) (.nil)))))) (.cons (.ret (.bl false)) (.nil)) (.nil)) (.cons (.ite (.call 9 (.cons (.var 3) (.cons (.tup (.cons (.str [110, 111, 116]) (.cons (.var 3) (.nil)))) (.nil)))) (.cons (.ret (.bl false)) (.nil)) (.nil)) (.nil))))))))))))
def Blaw : ISs := .cons (.asg (.var 1) (.call 15 (.cons (.int (3)) (.nil)))) (.cons (.fori (.var 2) (.val (.call 12 (.cons (.var 0) (.cons (.int (4)) (.nil))))) Blaw_L2) (.cons (.ret (.bl true)) (.nil)))
def P : List Ev.Def := [⟨1, 3, Btwos⟩, ⟨1, 4, Bnames_of⟩, ⟨2, 4, Bvalued⟩, ⟨3, 4, Bput⟩, ⟨1, 3, Bplain⟩, ⟨3, 3, Bwith_const⟩, ⟨2, 6, Binward⟩, ⟨1, 5, Brows_of⟩, ⟨2, 3, Btable_of⟩, ⟨2, 5, Balike⟩, ⟨1, 1, B_law_dice⟩, ⟨2, 3, B_law_roll⟩, ⟨2, 4, B_law_rounds⟩, ⟨2, 3, B_law_formula⟩, ⟨2, 4, B_law_bit⟩, ⟨1, 4, B_law_rows⟩, ⟨1, 1, B_law_kinds⟩, ⟨1, 14, Blaw⟩]
end K06
end
section
set_option maxRecDepth 100000
set_option maxHeartbeats 0
namespace K06
open PySem PySem.Spec PyProof.Rows L2 Ev
abbrev prog : Program := PySem.Challenge.pw_circuithall_k06_formulas_made_plain
def top (i : Nat) : Stmt := prog.main.body.getD i (.Pass ⟨0, 0, 0, 0⟩)
def d0 : DefT := ⟨"twos", ["many", "found", "k"], ["many"], top 4⟩
def d1 : DefT := ⟨"names_of", ["formula", "found", "part", "name"], ["formula"], top 6⟩
def d2 : DefT := ⟨"valued", ["formula", "table", "a", "b"], ["formula", "table"], top 7⟩
def d3 : DefT := ⟨"put", ["formula", "name", "other", "part"], ["formula", "name", "other"], top 8⟩
def d4 : DefT := ⟨"plain", ["formula", "one", "other"], ["formula"], top 9⟩
def d5 : DefT := ⟨"with_const", ["kind", "one", "bit"], ["kind", "one", "bit"], top 10⟩
def d6 : DefT := ⟨"inward", ["formula", "flip", "kind", "one", "other", "left"], ["formula", "flip"], top 11⟩
def d7 : DefT := ⟨"rows_of", ["names", "found", "number", "k", "name"], ["names"], top 12⟩
def d8 : DefT := ⟨"table_of", ["formula", "names", "row"], ["formula", "names"], top 13⟩
def d9 : DefT := ⟨"alike", ["one", "other", "names", "part", "name"], ["one", "other"], top 14⟩
def d10 : DefT := ⟨"_law_dice", ["cell"], ["cell"], top 16⟩
def d11 : DefT := ⟨"_law_roll", ["dice", "many", "found"], ["dice", "many"], top 17⟩
def d12 : DefT := ⟨"_law_rounds", ["script", "most", "cells", "cell"], ["script", "most"], top 18⟩
def d13 : DefT := ⟨"_law_formula", ["dice", "deep", "kind"], ["dice", "deep"], top 19⟩
def d14 : DefT := ⟨"_law_bit", ["formula", "row", "one", "two"], ["formula", "row"], top 20⟩
def d15 : DefT := ⟨"_law_rows", ["many", "found", "k", "row"], ["many"], top 21⟩
def d16 : DefT := ⟨"_law_kinds", ["formula"], ["formula"], top 22⟩
def d17 : DefT := ⟨"law", ["script", "rows", "dice", "one", "two", "row", "table", "laid", "simple", "kinds", "flip", "inside", "bit", "kind"], ["script"], top 23⟩
def ds : List DefT := [d0, d1, d2, d3, d4, d5, d6, d7, d8, d9, d10, d11, d12, d13, d14, d15, d16, d17]
theorem ok0 : DefOk (ds.map (·.name)) d0 ⟨1, 3, Btwos⟩ := ⟨⟨rfl, rfl, rfl, by decide +kernel, rfl, by decide +kernel, by decide +kernel⟩, by kernel_rfl, rfl, rfl, fun K f fd F => F.bindsN fun _ _ _ _ _ _ us hl => match us, hl with | [_], _ => rfl⟩
theorem ok1 : DefOk (ds.map (·.name)) d1 ⟨1, 4, Bnames_of⟩ := ⟨⟨rfl, rfl, rfl, by decide +kernel, rfl, by decide +kernel, by decide +kernel⟩, by kernel_rfl, rfl, rfl, fun K f fd F => F.bindsN fun _ _ _ _ _ _ us hl => match us, hl with | [_], _ => rfl⟩
theorem ok2 : DefOk (ds.map (·.name)) d2 ⟨2, 4, Bvalued⟩ := ⟨⟨rfl, rfl, rfl, by decide +kernel, rfl, by decide +kernel, by decide +kernel⟩, by kernel_rfl, rfl, rfl, fun K f fd F => F.bindsN fun _ _ _ _ _ _ us hl => match us, hl with | [_, _], _ => rfl⟩
theorem ok3 : DefOk (ds.map (·.name)) d3 ⟨3, 4, Bput⟩ := ⟨⟨rfl, rfl, rfl, by decide +kernel, rfl, by decide +kernel, by decide +kernel⟩, by kernel_rfl, rfl, rfl, fun K f fd F => F.bindsN fun _ _ _ _ _ _ us hl => match us, hl with | [_, _, _], _ => rfl⟩
theorem ok4 : DefOk (ds.map (·.name)) d4 ⟨1, 3, Bplain⟩ := ⟨⟨rfl, rfl, rfl, by decide +kernel, rfl, by decide +kernel, by decide +kernel⟩, by kernel_rfl, rfl, rfl, fun K f fd F => F.bindsN fun _ _ _ _ _ _ us hl => match us, hl with | [_], _ => rfl⟩
theorem ok5 : DefOk (ds.map (·.name)) d5 ⟨3, 3, Bwith_const⟩ := ⟨⟨rfl, rfl, rfl, by decide +kernel, rfl, by decide +kernel, by decide +kernel⟩, by kernel_rfl, rfl, rfl, fun K f fd F => F.bindsN fun _ _ _ _ _ _ us hl => match us, hl with | [_, _, _], _ => rfl⟩
theorem ok6 : DefOk (ds.map (·.name)) d6 ⟨2, 6, Binward⟩ := ⟨⟨rfl, rfl, rfl, by decide +kernel, rfl, by decide +kernel, by decide +kernel⟩, by kernel_rfl, rfl, rfl, fun K f fd F => F.bindsN fun _ _ _ _ _ _ us hl => match us, hl with | [_, _], _ => rfl⟩
theorem ok7 : DefOk (ds.map (·.name)) d7 ⟨1, 5, Brows_of⟩ := ⟨⟨rfl, rfl, rfl, by decide +kernel, rfl, by decide +kernel, by decide +kernel⟩, by kernel_rfl, rfl, rfl, fun K f fd F => F.bindsN fun _ _ _ _ _ _ us hl => match us, hl with | [_], _ => rfl⟩
theorem ok8 : DefOk (ds.map (·.name)) d8 ⟨2, 3, Btable_of⟩ := ⟨⟨rfl, rfl, rfl, by decide +kernel, rfl, by decide +kernel, by decide +kernel⟩, by kernel_rfl, rfl, rfl, fun K f fd F => F.bindsN fun _ _ _ _ _ _ us hl => match us, hl with | [_, _], _ => rfl⟩
theorem ok9 : DefOk (ds.map (·.name)) d9 ⟨2, 5, Balike⟩ := ⟨⟨rfl, rfl, rfl, by decide +kernel, rfl, by decide +kernel, by decide +kernel⟩, by kernel_rfl, rfl, rfl, fun K f fd F => F.bindsN fun _ _ _ _ _ _ us hl => match us, hl with | [_, _], _ => rfl⟩
theorem ok10 : DefOk (ds.map (·.name)) d10 ⟨1, 1, B_law_dice⟩ := ⟨⟨rfl, rfl, rfl, by decide +kernel, rfl, by decide +kernel, by decide +kernel⟩, by kernel_rfl, rfl, rfl, fun K f fd F => F.bindsN fun _ _ _ _ _ _ us hl => match us, hl with | [_], _ => rfl⟩
theorem ok11 : DefOk (ds.map (·.name)) d11 ⟨2, 3, B_law_roll⟩ := ⟨⟨rfl, rfl, rfl, by decide +kernel, rfl, by decide +kernel, by decide +kernel⟩, by kernel_rfl, rfl, rfl, fun K f fd F => F.bindsN fun _ _ _ _ _ _ us hl => match us, hl with | [_, _], _ => rfl⟩
theorem ok12 : DefOk (ds.map (·.name)) d12 ⟨2, 4, B_law_rounds⟩ := ⟨⟨rfl, rfl, rfl, by decide +kernel, rfl, by decide +kernel, by decide +kernel⟩, by kernel_rfl, rfl, rfl, fun K f fd F => F.bindsN fun _ _ _ _ _ _ us hl => match us, hl with | [_, _], _ => rfl⟩
theorem ok13 : DefOk (ds.map (·.name)) d13 ⟨2, 3, B_law_formula⟩ := ⟨⟨rfl, rfl, rfl, by decide +kernel, rfl, by decide +kernel, by decide +kernel⟩, by kernel_rfl, rfl, rfl, fun K f fd F => F.bindsN fun _ _ _ _ _ _ us hl => match us, hl with | [_, _], _ => rfl⟩
theorem ok14 : DefOk (ds.map (·.name)) d14 ⟨2, 4, B_law_bit⟩ := ⟨⟨rfl, rfl, rfl, by decide +kernel, rfl, by decide +kernel, by decide +kernel⟩, by kernel_rfl, rfl, rfl, fun K f fd F => F.bindsN fun _ _ _ _ _ _ us hl => match us, hl with | [_, _], _ => rfl⟩
theorem ok15 : DefOk (ds.map (·.name)) d15 ⟨1, 4, B_law_rows⟩ := ⟨⟨rfl, rfl, rfl, by decide +kernel, rfl, by decide +kernel, by decide +kernel⟩, by kernel_rfl, rfl, rfl, fun K f fd F => F.bindsN fun _ _ _ _ _ _ us hl => match us, hl with | [_], _ => rfl⟩
theorem ok16 : DefOk (ds.map (·.name)) d16 ⟨1, 1, B_law_kinds⟩ := ⟨⟨rfl, rfl, rfl, by decide +kernel, rfl, by decide +kernel, by decide +kernel⟩, by kernel_rfl, rfl, rfl, fun K f fd F => F.bindsN fun _ _ _ _ _ _ us hl => match us, hl with | [_], _ => rfl⟩
theorem ok17 : DefOk (ds.map (·.name)) d17 ⟨1, 14, Blaw⟩ := ⟨⟨rfl, rfl, rfl, by decide +kernel, rfl, by decide +kernel, by decide +kernel⟩, by kernel_rfl, rfl, rfl, fun K f fd F => F.bindsN fun _ _ _ _ _ _ us hl => match us, hl with | [_], _ => rfl⟩
theorem oks : Oks (ds.map (·.name)) ds P := ⟨ok0, ok1, ok2, ok3, ok4, ok5, ok6, ok7, ok8, ok9, ok10, ok11, ok12, ok13, ok14, ok15, ok16, ok17, trivial⟩
theorem bl (K : PySem.W.Frag) (f : Addr) (fd : FuncData) (F : FunD K d17.name d17.name (defArgs d17.st) (bodyOf d17.st) (scopeOf d17.st) [] [] f fd) (s : Shared) (u : Value) : BindsTo s fd ⟨[u], []⟩ [("script", u)] :=
  F.bindsA (ps := ["script"]) (fun _ _ _ _ _ _ us hl => match us, hl with | [_], _ => rfl) s [u] rfl
abbrev R : PySem.W.OpenRow := PySem.W.OpenLaw.row PySem.Challenge.rw_circuithall_k06_formulas_made_plain
abbrev hk : PySem.W.Hook := He.hookD 4 (faOf ds) (fnOf ds)
def ob (s : PySem.W.SharedT) : He.AlD := He.obsDG 4 (faOf ds) (fnOf ds) (HandSHeadRun.getT s)
theorem ob_eq (s : PySem.W.SharedT) : ob s = hk.obs s.abs := He.obsDG_eq (HandSHeadRun.getT_eq s)
def loose : List PySem.Str := (["CircuitFault", "TooLarge", "twos", "names_of", "valued", "put", "plain", "with_const", "inward", "rows_of", "table_of", "alike", "_law_dice", "_law_roll", "_law_rounds", "_law_formula", "_law_bit", "_law_rows", "_law_kinds"] : List PySem.Str)
theorem run (w : World) : HandSHeadRun.RunEq R (PySem.W.view R.prog [23]) hk ob 4000 loose w := by
  intro os
  kernel_rfl
end K06
open PySem PySem.W PySem.Calls PyProof.Rows
theorem K06.holds (lv : Nat) (room : L2.Room lv PySem.callerA) (law : ∀ ns : List Int, ns.length ≤ 63 → ∃ S, Ev.callSem K06.P lv 17 [.fl (ns.map .int)] [] = .ok (.bl true) S) : PySem.Challenge.rw_circuithall_k06_formulas_made_plain.Holds := by
  w_on; o_law
  refine HandSHeadRun.head_any (r := K06.R) (q := view K06.R.prog [23]) (H := K06.hk) (ob := K06.ob) (M := 4000) (loose := K06.loose) (d := HandSHeadRun.topDef K06.R.prog 23) (kwd := []) K06.ob_eq
    (by kernel_rfl) (fun s => by kernel_rfl) K06.run (by kernel_rfl) (by kernel_rfl) (by kernel_rfl) (by rfl) (by first | assumption | decide +kernel) (by decide +kernel) ⟨rfl, rfl, rfl, rfl, rfl, by decide +kernel⟩ ?hw ?hc
  case hw => w_witness2
  case hc =>
    refine Ev.walk_ev (l := PySem.Challenge.rw_circuithall_k06_formulas_made_plain) (n := 63) (k := lv) (x := "script") rfl (by decide) (by kernel_rfl) room ?F
    case F =>
      intro w mg fa h Y G hmg0
      obtain ⟨K, KX, c⟩ := Y
      have hmg : mg ("law" : PySem.Str) = some (.ref fa) := by
        have e : (HandSHeadRun.topDef K06.R.prog 23).name = ("law" : PySem.Str) := by kernel_rfl
        rw [← e]
        exact hmg0
      exact Ev.law_F (li := 17) (dl := K06.d17) KX G c K06.oks rfl rfl hmg K06.bl law
end
section
/-! Laws about the evaluator: tools. -/
namespace Ev

/-- a run with nothing that is changed in place handed in: its value -/
def runP (C : CallS) (d : Def) (args : List D) : Option D := match evSs C d.body (startE d args) [] with
  | .ok .nx _ _ => some .non
  | .ok (.rt v) _ _ => if pur v then some v else none
  | _ => none
theorem argsIn_pure : ∀ {ds : List D} {is : List Nat}, purs ds = true → argsIn ds is = some (ds, is)
  | [], _, _ => rfl
  | d :: ds, is, h => by
    simp only [purs, Bool.and_eq_true] at h
    have h2 := fun is => argsIn_pure (is := is) h.2
    have h1 := h.1
    cases d <;> first | (simp [pur] at h1; done) | simp [argsIn, h1, h2]
theorem call_pure {P : List Def} {n f : Nat} {d : Def} {args : List D} {v : D} {S : Sto} (hP : P[f]? = some d) (hl : args.length = d.np) (hp : purs args = true) (hr : runP (callSem P n) d args = some v) : callSem P (n + 1) f args S = .ok v S := by
  unfold runP at hr
  simp only [callSem, hP, callD, hl, if_true, argsIn_pure hp, objsIn]
  split at hr
  · rename_i e; cases hr
    (try rw [e]); simp [leave, pur, back]
  · rename_i v' env S1 e
    split at hr
    · rename_i hv; cases hr
      (try rw [e]); simp [leave, hv, back]
    · cases hr
  · cases hr

/-! ### stores that grow -/
theorem app_old {S X : Sto} {n : Nat} (h : n < S.length) : (S ++ X)[n]? = S[n]? := List.getElem?_append_left h
theorem lt_of_some {S : Sto} {n : Nat} {o : MO} (h : S[n]? = some o) : n < S.length := (List.getElem?_eq_some_iff.mp h).1
theorem items_app {S X : Sto} {n : Nat} {ds : List D} (h : items S n = some ds) : items (S ++ X) n = some ds := by
  unfold items at *
  split at h
  · rename_i xs e; rw [app_old (lt_of_some e), e]; exact h
  · cases h
theorem items_new (S : Sto) (ds : List D) : items (S ++ [.lst ds]) S.length = some ds := by unfold items; rw [List.getElem?_concat_length]
theorem addL_new (S : Sto) (acc : List D) (d : D) (h : acc.length < big) : addL S.length d (S ++ [.lst acc]) = some (S ++ [.lst (acc ++ [d])]) := by
  unfold addL
  rw [List.getElem?_concat_length]
  simp only [h, if_true]
  rw [List.set_append_right _ _ (Nat.le_refl _)]
  simp
/-- a comprehension of pure values over what stays -/
theorem compL_lst {v : ItV} {ds : List D} {g : D → Sto → Option (Env × Sto)} {t : Env → Sto → TRes} {b : Env → Sto → Option Sto} {S : Sto} {p : D → Bool} {h : D → D}
    (hv : ∀ i acc, turn v i (S ++ [.lst acc]) = some ds[i]?)
    (hb : ∀ d ∈ ds, ∀ acc, ∃ env1, g d (S ++ [.lst acc]) = some (env1, S ++ [.lst acc]) ∧ t env1 (S ++ [.lst acc]) = .ok (p d) (S ++ [.lst acc]) ∧ (p d = true → b env1 (S ++ [.lst acc]) = addL S.length (h d) (S ++ [.lst acc]))) :
    ∀ (n i : Nat) (acc : List D), ds.length - i < n → acc.length + (ds.length - i) ≤ big → compL v g t b n i (S ++ [.lst acc]) = some (S ++ [.lst (acc ++ ((ds.drop i).filter p).map h)])
  | 0, _, _, hn, _ => by omega
  | n + 1, i, acc, hn, hz => by
    unfold compL
    rw [hv]
    cases e : ds[i]? with
    | none =>
      have : ds.length ≤ i := List.getElem?_eq_none_iff.mp e
      rw [List.drop_of_length_le this]; simp
    | some d =>
      have hi := (List.getElem?_eq_some_iff.mp e).1
      obtain ⟨env1, h1, h2, h3⟩ := hb d (List.mem_of_getElem? e) acc
      have hd : ds.drop i = d :: ds.drop (i + 1) := by
        rw [List.drop_eq_getElem_cons hi]; congr 1
        rw [List.getElem?_eq_getElem hi] at e; exact Option.some.inj e
      simp only [h1, h2]
      cases hp : p d with
      | false =>
        simp only
        rw [compL_lst hv hb n (i + 1) acc (by omega) (by omega), hd, List.filter_cons_of_neg (by simp [hp])]
      | true =>
        simp only
        rw [h3 hp, addL_new _ _ _ (by omega)]
        simp only
        rw [compL_lst hv hb n (i + 1) (acc ++ [h d]) (by omega) (by simp; omega), hd, List.filter_cons_of_pos (by simp [hp])]
        simp
/-- a loop with an invariant -/
theorem forL_inv {v : ItV} {ds : List D} {g : D → Env → Sto → SRes} {b : Env → Sto → SRes} (Inv : Nat → Env → Sto → Prop) (hv : ∀ i env S, Inv i env S → turn v i S = some ds[i]?)
    (hs : ∀ i d env S, Inv i env S → ds[i]? = some d → ∃ env1 S1 env2 S2, g d env S = .ok .nx env1 S1 ∧ (b env1 S1 = .ok .nx env2 S2 ∨ b env1 S1 = .ok .ct env2 S2) ∧ Inv (i + 1) env2 S2) :
    ∀ (n i : Nat) (env : Env) (S : Sto), ds.length - i < n → i ≤ ds.length → Inv i env S → ∃ env' S', forL v g b n i env S = .ok .nx env' S' ∧ Inv ds.length env' S'
  | 0, _, _, _, hn, _, _ => by omega
  | n + 1, i, env, S, hn, hi, hI => by
    unfold forL
    rw [hv i env S hI]
    cases e : ds[i]? with
    | none =>
      have : ds.length ≤ i := List.getElem?_eq_none_iff.mp e
      have : i = ds.length := by omega
      subst this
      exact ⟨env, S, rfl, hI⟩
    | some d =>
      have hlt := (List.getElem?_eq_some_iff.mp e).1
      obtain ⟨env1, S1, env2, S2, h1, h2, h3⟩ := hs i d env S hI e
      simp only [h1]
      rcases h2 with h2 | h2 <;> simp only [h2] <;> exact forL_inv Inv hv hs n (i + 1) env2 S2 (by omega) (by omega) h3
/-- a loop that ends early by return -/
theorem bind_okR {α β : Type} (a : α) (S : Sto) (f : α → Sto → Res β) : (Res.ok a S).bind f = f a S := rfl
/-- the value of a call that makes a new flat list -/
theorem call_list {P : List Def} {n f : Nat} {d : Def} {args : List D} {S S1 : Sto} {env : Env} {j : Nat} {xs : List D} (hP : P[f]? = some d) (hl : args.length = d.np) (hp : purs args = true)
    (hr : evSs (callSem P n) d.body (startE d args) [] = .ok (.rt (.ref j)) env S1) (hj : S1[j]? = some (.lst xs)) (hx : purs xs = true) : callSem P (n + 1) f args S = .ok (.ref S.length) (S ++ [.lst xs]) := by
  simp [callSem, hP, callD, hl, argsIn_pure hp, objsIn, hr, leave, pur, hj, purO, hx, back]

theorem eqv_tup (xs ys : List D) : eqv (.tup xs) (.tup ys) = eqvs xs ys := rfl
theorem eqvs_cons (x y : D) (xs ys : List D) : eqvs (x :: xs) (y :: ys) = (eqv x y && eqvs xs ys) := rfl
theorem eqvs_nil : eqvs [] [] = true := rfl
theorem eqv_str (x y : List Nat) : eqv (.str x) (.str y) = (x == y) := rfl
theorem eqv_int (x y : Int) : eqv (.int x) (.int y) = (x == y) := rfl
theorem ne_str {x y : List Nat} (h : x ≠ y) : eqv (.str x) (.str y) = false := by rw [eqv_str]; simpa using h

theorem set_same {S : Sto} {m : Nat} {o : MO} (h : S[m]? = some o) : S.set m o = S := by
  refine List.ext_getElem? fun i => ?_
  by_cases e : m = i
  · subst e; rw [List.getElem?_set_self (lt_of_some h), h]
  · rw [List.getElem?_set_ne e]
/-- a call with one object handed in, behind a pure value -/
theorem call_pr {P : List Def} {n f m : Nat} {d : Def} {a v : D} {o o' : MO} {S X : Sto} {env : Env} (hP : P[f]? = some d) (hl : d.np = 2) (ha : pur a = true) (hm : S[m]? = some o) (ho : purO o = true)
    (hr : evSs (callSem P n) d.body (startE d [a, .ref 0]) [o] = .ok (.rt v) env (o' :: X)) (hv : pur v = true) (ho' : purO o' = true) : callSem P (n + 1) f [a, .ref m] S = .ok v (S.set m o') := by
  have hi : argsIn [a, .ref m] [] = some ([a, .ref 0], [m]) := by cases a <;> first | (simp [pur] at ha; done) | simp [argsIn, ha]
  simp [callSem, hP, callD, hl, hi, objsIn, hm, ho, hr, leave, hv, ho', back]
theorem call_rp {P : List Def} {n f m : Nat} {d : Def} {a v : D} {o o' : MO} {S X : Sto} {env : Env} (hP : P[f]? = some d) (hl : d.np = 2) (ha : pur a = true) (hm : S[m]? = some o) (ho : purO o = true)
    (hr : evSs (callSem P n) d.body (startE d [.ref 0, a]) [o] = .ok (.rt v) env (o' :: X)) (hv : pur v = true) (ho' : purO o' = true) : callSem P (n + 1) f [.ref m, a] S = .ok v (S.set m o') := by
  have hi : argsIn [.ref m, a] [] = some ([.ref 0, a], [m]) := by cases a <;> first | (simp [pur] at ha; done) | simp [argsIn, ha]
  simp [callSem, hP, callD, hl, hi, objsIn, hm, ho, hr, leave, hv, ho', back]

/-- what a run returns, with the store -/
def retOf : SRes → Option (D × Sto)
  | .ok (.rt v) _ S => some (v, S)
  | _ => none
theorem of_retOf {r : SRes} {v : D} {S : Sto} (h : retOf r = some (v, S)) : ∃ env, r = .ok (.rt v) env S := by
  cases r with
  | ok f env S' => cases f <;> simp [retOf] at h; obtain ⟨rfl, rfl⟩ := h; exact ⟨env, rfl⟩
  | _ => cases h

end Ev
end
section
set_option maxRecDepth 100000
namespace K06
open Ev
inductive Nm where
  | a | b | c
deriving DecidableEq
inductive Op where
  | and | or | xor
deriving DecidableEq
inductive F where
  | var (c : Nm) | con (b : Bool) | not (f : F) | bin (o : Op) (f g : F)
deriving DecidableEq
def Nm.s : Nm → List Nat
  | .a => [97] | .b => [98] | .c => [99]
def Op.s : Op → List Nat
  | .and => [97, 110, 100] | .or => [111, 114] | .xor => [120, 111, 114]
def b2i (b : Bool) : Int := if b then 1 else 0
def bit (b : Bool) : D := .int (b2i b)
def enc : F → D
  | .var c => .tup [.str [118, 97, 114], .str c.s]
  | .con b => .tup [.str [99, 111, 110, 115, 116], bit b]
  | .not f => .tup [.str [110, 111, 116], enc f]
  | .bin o f g => .tup [.str o.s, enc f, enc g]
def Op.f : Op → Bool → Bool → Bool
  | .and, a, b => a && b | .or, a, b => a || b | .xor, a, b => a != b
abbrev Row := Nm → Bool
def ev (r : Row) : F → Bool
  | .var c => r c
  | .con b => b
  | .not f => !ev r f
  | .bin o f g => o.f (ev r f) (ev r g)
def ht : F → Nat
  | .var _ => 0
  | .con _ => 0
  | .not f => ht f + 1
  | .bin _ f g => max (ht f) (ht g) + 1
def rowD (r : Row) : D := .tup [bit (r .a), bit (r .b), bit (r .c)]
theorem enc_pur : ∀ f, pur (enc f) = true
  | .var c => rfl
  | .con b => rfl
  | .not f => by simp [enc, pur, purs, enc_pur f]
  | .bin o f g => by simp [enc, pur, purs, enc_pur f, enc_pur g]
theorem row_pur (r : Row) : pur (rowD r) = true := rfl
theorem b_not (b : Bool) : 1 - b2i b = b2i (!b) := by cases b <;> rfl
theorem b_and (a b : Bool) : b2i a * b2i b = b2i (a && b) := by cases a <;> cases b <;> rfl
theorem b_or (a b : Bool) : (if b2i b > b2i a then b2i b else b2i a) = b2i (a || b) := by cases a <;> cases b <;> rfl
theorem b_xor (a b : Bool) : (b2i a + b2i b) % 2 = b2i (a != b) := by cases a <;> cases b <;> rfl

/-! ### _law_bit -/
theorem bit_run (n : Nat) (r : Row) : ∀ (f : F), (∀ g S, ht g < ht f → callSem P n 14 [enc g, rowD r] S = .ok (bit (ev r g)) S) → runP (callSem P n) ⟨2, 4, B_law_bit⟩ [enc f, rowD r] = some (bit (ev r f))
  | .con b, _ => by rfl
  | .var .a, _ => by rfl
  | .var .b, _ => by rfl
  | .var .c, _ => by rfl
  | .not f, h => by
    simp [runP, startE, B_law_bit, ↓Res.bind, ↓evSs, ↓evS, ↓evE, ↓evEs, ↓ixD, atI, ixN, getD', ↓cmpD, ↓eqD, shal, dep, boolR, truth, eqv, pur, binD, enc, h f _ (show ht f < ht (.not f) by simp [ht]), small, bit, b_not, ev]
  | .bin o f g, h => by
    have hf := fun S => h f S (show ht f < ht (.bin o f g) by simp [ht]; omega)
    have hg := fun S => h g S (show ht g < ht (.bin o f g) by simp [ht]; omega)
    have s1 : ∀ b, small (b2i b) = true := fun b => by cases b <;> rfl
    cases o <;> simp [runP, startE, B_law_bit, ↓Res.bind, ↓evSs, ↓evS, ↓evE, ↓evEs, ↓ixD, atI, ixN, getD', ↓cmpD, ↓eqD, shal, dep, boolR, truth, eqv, pur, binD, enc, hf, hg, bit, ev, Op.f, Op.s, parEnv, biD, s1, b_and, b_xor, ← b_or]
theorem bit_ev (r : Row) : ∀ (n : Nat) (f : F) (S : Sto), ht f < n → callSem P n 14 [enc f, rowD r] S = .ok (bit (ev r f)) S
  | 0, _, _, h => by omega
  | n + 1, f, S, h => call_pure rfl rfl (by simp [purs, enc_pur, row_pur]) (bit_run n r f fun g S hg => bit_ev r n g S (by omega))

/-! ### put -/
def putF (g : F) : F → F
  | .var c => if c = .b then g else .var c
  | .con b => .con b
  | .not f => .not (putF g f)
  | .bin o f f' => .bin o (putF g f) (putF g f')
theorem put_run (n : Nat) (g : F) : ∀ (f : F), (∀ f' S, ht f' < ht f → callSem P n 3 [enc f', .str [98], enc g] S = .ok (enc (putF g f')) S) → runP (callSem P n) ⟨3, 4, Bput⟩ [enc f, .str [98], enc g] = some (enc (putF g f))
  | .con b, _ => by rfl
  | .var .a, _ => by rfl
  | .var .b, _ => by simp [runP, startE, Bput, ↓Res.bind, ↓evSs, ↓evS, ↓evE, ↓evEs, ↓ixD, atI, ixN, getD', ↓cmpD, ↓eqD, shal, dep, boolR, truth, eqv, enc, putF, Nm.s, enc_pur]
  | .var .c, _ => by rfl
  | .not f, h => by
    simp [runP, startE, Bput, ↓Res.bind, ↓evSs, ↓evS, ↓evE, ↓evEs, ↓evEo, ↓evI, ↓ixD, atI, ixN, getD', ↓cmpD, ↓eqD, shal, dep, boolR, truth, eqv, pur, purs, binD, enc, h f _ (show ht f < ht (.not f) by simp [ht]), putF, slD, cut, sIx, ↓compL, turn, ↓evG, ↓evT, wipe, addL, biD, items, enc_pur, big, alloc]
  | .bin o f f', h => by
    have hf := fun S => h f S (show ht f < ht (.bin o f f') by simp [ht]; omega)
    have hg := fun S => h f' S (show ht f' < ht (.bin o f f') by simp [ht]; omega)
    cases o <;> simp [runP, startE, Bput, ↓Res.bind, ↓evSs, ↓evS, ↓evE, ↓evEs, ↓evEo, ↓evI, ↓ixD, atI, ixN, getD', ↓cmpD, ↓eqD, shal, dep, boolR, truth, eqv, pur, purs, binD, enc, hf, hg, Op.s, putF, slD, cut, sIx, ↓compL, turn, ↓evG, ↓evT, wipe, addL, biD, items, enc_pur, big, alloc]
theorem put_ev (g : F) : ∀ (n : Nat) (f : F) (S : Sto), ht f < n → callSem P n 3 [enc f, .str [98], enc g] S = .ok (enc (putF g f)) S
  | 0, _, _, h => by omega
  | n + 1, f, S, h => call_pure rfl rfl (by simp [purs, enc_pur, pur]) (put_run n g f fun f' S hf => put_ev g n f' S (by omega))

/-! ### equality of formulas -/
theorem dep_enc : ∀ f, dep (enc f) = some (ht f + 1)
  | .var .a => rfl
  | .var .b => rfl
  | .var .c => rfl
  | .con b => rfl
  | .not f => by simp [enc, dep, deps, dep_enc f, ht]
  | .bin o f g => by cases o <;> simp [enc, dep, deps, dep_enc f, dep_enc g, ht, Op.s] <;> omega
theorem eqv_enc : ∀ f g, eqv (enc f) (enc g) = decide (f = g)
  | .var a, .var b => by cases a <;> cases b <;> rfl
  | .con a, .con b => by cases a <;> cases b <;> rfl
  | .not f, .not g => by simp only [enc, eqv_tup, eqvs_cons, eqvs_nil, eqv_str, eqv_enc f g]; simp
  | .bin o f g, .bin o' f' g' => by cases o <;> cases o' <;> simp only [enc, eqv_tup, eqvs_cons, eqvs_nil, eqv_str, eqv_enc f f', eqv_enc g g', Op.s] <;> simp [Bool.decide_and]
  | .var _, .con _ => by simp only [enc, eqv_tup, eqvs_cons, eqv_str]; simp
  | .var _, .not _ => by simp only [enc, eqv_tup, eqvs_cons, eqv_str]; simp
  | .var _, .bin o _ _ => by cases o <;> simp only [enc, eqv_tup, eqvs_cons, eqv_str, Op.s] <;> simp
  | .con _, .var _ => by simp only [enc, eqv_tup, eqvs_cons, eqv_str]; simp
  | .con _, .not _ => by simp only [enc, eqv_tup, eqvs_cons, eqv_str]; simp
  | .con _, .bin o _ _ => by cases o <;> simp only [enc, eqv_tup, eqvs_cons, eqv_str, Op.s] <;> simp
  | .not _, .var _ => by simp only [enc, eqv_tup, eqvs_cons, eqv_str]; simp
  | .not _, .con _ => by simp only [enc, eqv_tup, eqvs_cons, eqv_str]; simp
  | .not _, .bin o _ _ => by cases o <;> simp only [enc, eqv_tup, eqvs_cons, eqv_str, Op.s] <;> simp
  | .bin o _ _, .var _ => by cases o <;> simp only [enc, eqv_tup, eqvs_cons, eqv_str, Op.s] <;> simp
  | .bin o _ _, .con _ => by cases o <;> simp only [enc, eqv_tup, eqvs_cons, eqv_str, Op.s] <;> simp
  | .bin o _ _, .not _ => by cases o <;> simp only [enc, eqv_tup, eqvs_cons, eqv_str, Op.s] <;> simp
theorem eqD_enc (S : Sto) (f g : F) (hf : ht f < 60) (hg : ht g < 60) : eqD S (enc f) (enc g) = some (decide (f = g)) := by
  have h : (shal 60 (dep (enc f)) && shal 60 (dep (enc g))) = true := by simp [dep_enc, shal]; omega
  have e : ∀ f, (∃ ds, enc f = .tup ds) := fun f => by cases f <;> exact ⟨_, rfl⟩
  obtain ⟨xs, hx⟩ := e f
  obtain ⟨ys, hy⟩ := e g
  rw [← eqv_enc]
  rw [hx, hy] at h ⊢
  simp only [eqD, h, if_true]

/-! ### plain -/
def negF : F → F
  | .con b => .con (!b)
  | .not g => g
  | f => .not f
def wc (o : Op) (one : F) (b : Bool) : F := match o with
  | .and => if b then one else .con false
  | .or => if b then .con true else one
  | .xor => if b then negF one else one
def isCon : F → Option Bool
  | .con b => some b
  | _ => none
theorem isCon_some {p : F} {b : Bool} (h : isCon p = some b) : p = .con b := by cases p <;> cases h; rfl
/-- of two made plain -/
def pl2 (o : Op) (p q : F) : F := match isCon p with
  | some a => wc o q a
  | none => match isCon q with
    | some b => wc o p b
    | none => if p = q then (if o = .xor then .con false else p) else .bin o p q
def pl : F → F
  | .var c => .var c
  | .con b => .con b
  | .not f => negF (pl f)
  | .bin o f g => pl2 o (pl f) (pl g)
theorem neg_ht (f : F) : ht (negF f) ≤ ht f + 1 := by cases f <;> simp [negF, ht]; omega
theorem wc_ht (o : Op) (f : F) (b : Bool) : ht (wc o f b) ≤ ht f + 1 := by
  cases o <;> cases b <;> simp [wc, ht]
  exact neg_ht f
theorem pl_ht : ∀ f, ht (pl f) ≤ ht f
  | .var _ => Nat.le_refl _
  | .con _ => Nat.le_refl _
  | .not f => by
    have := neg_ht (pl f); have := pl_ht f
    simp only [pl, ht]; omega
  | .bin o f g => by
    have h1 := pl_ht f
    have h2 := pl_ht g
    simp only [pl, pl2, ht]
    split
    · have := wc_ht o (pl g) (by assumption); omega
    · split
      · have := wc_ht o (pl f) (by assumption); omega
      · split
        · split <;> (try simp only [ht]) <;> omega
        · simp only [ht]; omega
theorem plain_not (n : Nat) (f p : F) (h : ∀ S, callSem P n 4 [enc f] S = .ok (enc p) S) : runP (callSem P n) ⟨1, 3, Bplain⟩ [enc (.not f)] = some (enc (negF p)) := by
  cases p with
  | bin o p q => cases o <;> simp [runP, startE, Bplain, ↓Res.bind, ↓evSs, ↓evS, ↓evE, ↓evEs, ↓evG, ↓ixD, atI, ixN, getD', ↓cmpD, cmpD.memD, ↓eqD, shal, dep, boolR, truth, eqv, pur, purs, binD, enc, h, negF, enc_pur, big, flat, inD, Op.s]
  | con b => cases b <;> simp [runP, startE, Bplain, ↓Res.bind, ↓evSs, ↓evS, ↓evE, ↓evEs, ↓evG, ↓ixD, atI, ixN, getD', ↓cmpD, cmpD.memD, ↓eqD, shal, dep, boolR, truth, eqv, pur, purs, binD, enc, h, negF, enc_pur, big, flat, inD, bit, b2i]
  | _ => simp [runP, startE, Bplain, ↓Res.bind, ↓evSs, ↓evS, ↓evE, ↓evEs, ↓evG, ↓ixD, atI, ixN, getD', ↓cmpD, cmpD.memD, ↓eqD, shal, dep, boolR, truth, eqv, pur, purs, binD, enc, h, negF, enc_pur, big, flat, inD]
end K06
end
section
set_option maxRecDepth 100000
namespace K06
open Ev
theorem ixD_tup (ds : List D) (k : Int) (S : Sto) : ixD (.tup ds) (.int k) S = getD' (atI ds k) S := rfl
theorem eqD_const {S : Sto} {x y : List Nat} (hx : x.all (fun c => decide (c < 1114112)) = true) (hy : y.all (fun c => decide (c < 1114112)) = true) : eqD S (.str x) (.str y) = some (x == y) := by
  show (if shal 60 (dep (.str x)) && shal 60 (dep (.str y)) then some (eqv (.str x) (.str y)) else none) = _
  simp [dep, hx, hy, shal, eqv_str]
theorem plain_bin (n : Nat) (o : Op) (f g p q : F) (hp : ht p < 60) (hq : ht q < 60) (h1 : ∀ S, callSem P n 4 [enc f] S = .ok (enc p) S) (h2 : ∀ S, callSem P n 4 [enc g] S = .ok (enc q) S)
    (h3 : ∀ b S, isCon p = some b → callSem P n 5 [.str o.s, enc q, bit b] S = .ok (enc (wc o q b)) S) (h4 : ∀ b S, isCon q = some b → callSem P n 5 [.str o.s, enc p, bit b] S = .ok (enc (wc o p b)) S) :
    runP (callSem P n) ⟨1, 3, Bplain⟩ [enc (.bin o f g)] = some (enc (pl2 o p q)) := by
  have hd : ∀ (x : F), isCon x = none → ∃ t, t ≠ [99, 111, 110, 115, 116] ∧ (∀ S, eqD S (.str t) (.str [99, 111, 110, 115, 116]) = some false) ∧ ∀ S, ixD (enc x) (.int 0) S = .ok (.str t) S := fun x hx => by
    cases x with
    | var c => exact ⟨[118, 97, 114], by decide, fun _ => rfl, fun _ => rfl⟩
    | con b => cases hx
    | not f => exact ⟨[110, 111, 116], by decide, fun _ => rfl, fun _ => rfl⟩
    | bin o f g => exact ⟨o.s, by cases o <;> decide, fun _ => by cases o <;> rfl, fun _ => rfl⟩
  have ee : ∀ S, eqD S (enc p) (enc q) = some (decide (p = q)) := fun S => eqD_enc S p q hp hq
  cases hcp : isCon p with
  | some a =>
    obtain rfl := isCon_some hcp
    have h3' := fun S => h3 a S rfl
    simp only [pl2, isCon]
    generalize wc o q a = r at h3' ⊢
    cases o <;> simp only [Op.s] at h3' <;> simp [runP, startE, ↓Res.bind, ↓evSs, ↓evS, ↓evE, ↓evEs, ↓evEo, ↓evPs, ↓evI, ↓evG, ↓evGs, ↓evT, ↓compL, ↓forL, turn, wipe, ↓ixD, atI, ixN, getD', ↓cmpD, cmpD.memD, ↓eqD, shal, dep, boolR, truth, eqv, pur, purs, parEnv, binD, augD, biD, meD, meOk, slD, cut, sIx, setD, addL, addK, items, alloc, big, flat, inD, word, small, Bplain, enc, h1, h2, h3', enc_pur, Op.s]
  | none =>
    obtain ⟨tp, tp1, tp2, tp3⟩ := hd p hcp
    have tp4 := fun S => tp2 S
    cases hcq : isCon q with
    | some b =>
      obtain rfl := isCon_some hcq
      have h4' := fun S => h4 b S rfl
      rw [show pl2 o p (.con b) = wc o p b by simp only [pl2, hcp]; rfl]
      generalize wc o p b = r at h4' ⊢
      cases o <;> simp only [Op.s] at h4' <;> simp [runP, startE, Bplain, ↓Res.bind, ↓evSs, ↓evS, ↓evE, ↓evEs, tp3, tp1, ↓ixD_tup, atI, ixN, getD', ↓cmpD, cmpD.memD, ↓tp4, ↓eqD_const, shal, boolR, truth, eqv, enc, h1, h2, h4', enc_pur, flat, inD, parEnv, Op.s, big]
    | none =>
      obtain ⟨tq, tq1, tq2, tq3⟩ := hd q hcq
      have tq4 := fun S => tq2 S
      simp only [pl2, hcp, hcq]
      by_cases hpq : p = q
      · subst hpq
        cases o <;> simp [runP, startE, Bplain, ↓Res.bind, ↓evSs, ↓evS, ↓evE, ↓evEs, tp3, tp1, ↓ixD_tup, atI, ixN, getD', ↓cmpD, cmpD.memD, ee, ↓tp4, ↓eqD_const, shal, boolR, truth, eqv, enc, h1, h2, enc_pur, flat, inD, parEnv, Op.s, big, pur, purs, bit, b2i]
      · cases o <;> simp [runP, startE, Bplain, ↓Res.bind, ↓evSs, ↓evS, ↓evE, ↓evEs, tp3, tp1, tq3, tq1, ↓ixD_tup, atI, ixN, getD', ↓cmpD, cmpD.memD, ee, hpq, ↓tp4, ↓tq4, ↓eqD_const, shal, boolR, truth, eqv, enc, h1, h2, enc_pur, flat, inD, parEnv, Op.s, big, pur, purs]
end K06
end
section
set_option maxRecDepth 100000
namespace K06
open Ev
/-! ### with_const -/
theorem wc_run (n : Nat) (o : Op) (f : F) (b : Bool) (h : ∀ S, callSem P n 4 [enc (.not f)] S = .ok (enc (negF f)) S) : runP (callSem P n) ⟨3, 3, Bwith_const⟩ [.str o.s, enc f, bit b] = some (enc (wc o f b)) := by
  have h' : ∀ S, callSem P n 4 [.tup [.str [110, 111, 116], enc f]] S = .ok (enc (negF f)) S := h
  cases o <;> cases b <;> simp [runP, startE, ↓Res.bind, ↓evSs, ↓evS, ↓evE, ↓evEs, ↓evEo, ↓evPs, ↓evI, ↓evG, ↓evGs, ↓evT, ↓compL, ↓forL, turn, wipe, ↓ixD, atI, ixN, getD', ↓cmpD, cmpD.memD, ↓eqD, shal, dep, boolR, truth, eqv, pur, purs, parEnv, binD, augD, biD, meD, meOk, slD, cut, sIx, setD, addL, addK, items, alloc, big, flat, inD, word, small, Bwith_const, Op.s, bit, b2i, h', wc, enc_pur, enc]
theorem wc_ev (n : Nat) (o : Op) (f : F) (b : Bool) (S : Sto) (h : ∀ S, callSem P n 4 [enc (.not f)] S = .ok (enc (negF f)) S) : callSem P (n + 1) 5 [.str o.s, enc f, bit b] S = .ok (enc (wc o f b)) S :=
  call_pure rfl rfl (by simp [purs, enc_pur, pur, bit]) (wc_run n o f b h)
/-- no constant within, no not of a not, no two equal sides -/
def nf1 : F → Prop
  | .var _ => True
  | .con _ => False
  | .not f => nf1 f ∧ ∀ g, f ≠ .not g
  | .bin _ f g => nf1 f ∧ nf1 g ∧ f ≠ g
def nf : F → Prop
  | .con _ => True
  | f => nf1 f
theorem nf_of {f : F} (h : nf1 f) : nf f := by cases f <;> first | exact h | exact h.elim
theorem nf1_con {f : F} (h : nf1 f) : isCon f = none := by cases f <;> first | rfl | exact h.elim
theorem plain_nf1 : ∀ (n : Nat) (f : F) (S : Sto), nf1 f → ht f < 50 → ht f < n → callSem P n 4 [enc f] S = .ok (enc f) S
  | 0, _, _, _, _, h => by omega
  | n + 1, .var .a, S, _, _, _ => call_pure rfl rfl rfl rfl
  | n + 1, .var .b, S, _, _, _ => call_pure rfl rfl rfl rfl
  | n + 1, .var .c, S, _, _, _ => call_pure rfl rfl rfl rfl
  | n + 1, .con b, S, h, _, _ => h.elim
  | n + 1, .not f, S, h, hz, hn => by
    have e : negF f = .not f := by
      cases f with
      | con b => exact h.1.elim
      | not g => exact absurd rfl (h.2 g)
      | _ => rfl
    have := plain_not n f f fun S => plain_nf1 n f S h.1 (by simp [ht] at hz; omega) (by simp [ht] at hn; omega)
    rw [e] at this
    exact call_pure rfl rfl (by simp [purs, enc_pur]) this
  | n + 1, .bin o f g, S, h, hz, hn => by
    simp only [ht] at hz hn
    have e : pl2 o f g = .bin o f g := by simp only [pl2, nf1_con h.1, nf1_con h.2.1, h.2.2, if_false]
    have := plain_bin n o f g f g (by omega) (by omega) (fun S => plain_nf1 n f S h.1 (by omega) (by omega)) (fun S => plain_nf1 n g S h.2.1 (by omega) (by omega))
      (fun b S z => by rw [nf1_con h.1] at z; cases z) (fun b S z => by rw [nf1_con h.2.1] at z; cases z)
    rw [e] at this
    exact call_pure rfl rfl (by simp [purs, enc_pur]) this
theorem plain_nf (n : Nat) (f : F) (S : Sto) (h : nf f) (hz : ht f < 50) (hn : ht f < n) : callSem P n 4 [enc f] S = .ok (enc f) S := by
  cases f with
  | con b =>
    cases n with
    | zero => omega
    | succ n => exact call_pure rfl rfl rfl rfl
  | var c => exact plain_nf1 n _ S h hz hn
  | not f => exact plain_nf1 n _ S h hz hn
  | bin o f g => exact plain_nf1 n _ S h hz hn
theorem neg_nf {f : F} (h : nf f) : nf (negF f) := by
  cases f with
  | con b => trivial
  | not g => exact nf_of h.1
  | var c => exact ⟨trivial, fun g => by simp⟩
  | bin o f g => exact ⟨h, fun g => by simp⟩
theorem wc_nf {f : F} (o : Op) (b : Bool) (h : nf f) : nf (wc o f b) := by
  cases o <;> cases b <;> simp only [wc, if_true, Bool.false_eq_true, if_false] <;> first | exact h | trivial | exact neg_nf h
theorem nf1_of {f : F} (h : nf f) (hc : isCon f = none) : nf1 f := by cases f <;> first | exact h | cases hc
theorem pl_nf : ∀ f, nf (pl f)
  | .var c => trivial
  | .con b => trivial
  | .not f => neg_nf (pl_nf f)
  | .bin o f g => by
    simp only [pl, pl2]
    split
    · exact wc_nf _ _ (pl_nf g)
    · rename_i h1
      split
      · exact wc_nf _ _ (pl_nf f)
      · rename_i h2
        split
        · split
          · trivial
          · exact pl_nf f
        · rename_i hne
          exact ⟨nf1_of (pl_nf f) h1, nf1_of (pl_nf g) h2, hne⟩
theorem plain_neg (n : Nat) (f : F) (S : Sto) (h : nf f) (hz : ht f < 50) (hn : ht f < n) : callSem P (n + 1) 4 [enc (.not f)] S = .ok (enc (negF f)) S :=
  call_pure rfl rfl (by simp [purs, enc_pur]) (plain_not n f f fun S => plain_nf n f S h hz hn)
theorem plain_ev : ∀ (n : Nat) (f : F) (S : Sto), ht f < 50 → ht f + 4 < n → callSem P n 4 [enc f] S = .ok (enc (pl f)) S
  | 0, _, _, _, h => by omega
  | n + 1, .var .a, S, _, _ => call_pure rfl rfl rfl rfl
  | n + 1, .var .b, S, _, _ => call_pure rfl rfl rfl rfl
  | n + 1, .var .c, S, _, _ => call_pure rfl rfl rfl rfl
  | n + 1, .con b, S, _, _ => call_pure rfl rfl rfl rfl
  | n + 1, .not f, S, hz, hn => by
    simp only [ht] at hz hn
    exact call_pure rfl rfl (by simp [purs, enc_pur]) (plain_not n f (pl f) fun S => plain_ev n f S (by omega) (by omega))
  | n + 1, .bin o f g, S, hz, hn => by
    simp only [ht] at hz hn
    have a1 := pl_ht f
    have a2 := pl_ht g
    have step : ∀ (x : F) (b : Bool) (S : Sto), nf x → ht x < 49 → ht x + 4 < n → callSem P n 5 [.str o.s, enc x, bit b] S = .ok (enc (wc o x b)) S := fun x b S hx h1 h2 => by
      obtain ⟨m, rfl⟩ : ∃ m, n = m + 2 := ⟨n - 2, by omega⟩
      exact wc_ev (m + 1) o x b S fun S => plain_neg m x S hx (by omega) (by omega)
    exact call_pure rfl rfl (by simp [purs, enc_pur]) (plain_bin n o f g (pl f) (pl g) (by omega) (by omega) (fun S => plain_ev n f S (by omega) (by omega)) (fun S => plain_ev n g S (by omega) (by omega))
      (fun b S _ => step _ b S (pl_nf g) (by omega) (by omega)) (fun b S _ => step _ b S (pl_nf f) (by omega) (by omega)))
theorem neg_sem (r : Row) (f : F) : ev r (negF f) = !ev r f := by cases f <;> simp [negF, ev]
theorem wc_sem (r : Row) (o : Op) (f : F) (b : Bool) : ev r (wc o f b) = o.f (ev r f) b := by cases o <;> cases b <;> simp [wc, ev, Op.f, neg_sem]
theorem Op.comm (o : Op) (a b : Bool) : o.f a b = o.f b a := by cases o <;> cases a <;> cases b <;> rfl
theorem pl_sem (r : Row) : ∀ f, ev r (pl f) = ev r f
  | .var c => rfl
  | .con b => rfl
  | .not f => by simp [pl, neg_sem, ev, pl_sem r f]
  | .bin o f g => by
    simp only [pl, pl2, ev]
    have h1 := pl_sem r f
    have h2 := pl_sem r g
    split
    · rename_i a e
      rw [isCon_some e] at h1
      rw [wc_sem, h2, ← h1, Op.comm]; rfl
    · split
      · rename_i b e
        rw [isCon_some e] at h2
        rw [wc_sem, h1, ← h2]; rfl
      · split
        · rename_i e
          rw [← h1, ← h2, ← e]
          cases o <;> simp [ev, Op.f]
        · simp only [ev, h1, h2]

/-! ### inward -/
def inw : F → Bool → F
  | .con b, fl => .con (b != fl)
  | .var c, fl => if fl then .not (.var c) else .var c
  | .not f, fl => inw f (!fl)
  | .bin .xor f g, fl => .bin .or (.bin .and (inw f false) (inw g (!fl))) (.bin .and (inw f true) (inw g fl))
  | .bin .and f g, fl => .bin (if fl then .or else .and) (inw f fl) (inw g fl)
  | .bin .or f g, fl => .bin (if fl then .and else .or) (inw f fl) (inw g fl)
theorem inw_run (n : Nat) : ∀ (f : F) (fl : Bool), (∀ g fl S, ht g < ht f → callSem P n 6 [enc g, .bl fl] S = .ok (enc (inw g fl)) S) → runP (callSem P n) ⟨2, 6, Binward⟩ [enc f, .bl fl] = some (enc (inw f fl))
  | .con b, fl, _ => by cases b <;> cases fl <;> rfl
  | .var c, fl, _ => by cases c <;> cases fl <;> rfl
  | .not f, fl, h => by
    have hf := fun fl S => h f fl S (show ht f < ht (.not f) by simp [ht])
    simp [runP, startE, ↓Res.bind, ↓evSs, ↓evS, ↓evE, ↓evEs, ↓evEo, ↓evPs, ↓evI, ↓evG, ↓evGs, ↓evT, ↓compL, ↓forL, turn, wipe, ↓ixD, atI, ixN, getD', ↓cmpD, cmpD.memD, ↓eqD, shal, dep, boolR, truth, eqv, pur, purs, parEnv, binD, augD, biD, meD, meOk, slD, cut, sIx, setD, addL, addK, items, alloc, big, flat, inD, word, small, Binward, enc, hf, enc_pur, inw]
  | .bin o f g, fl, h => by
    have hf := fun fl S => h f fl S (show ht f < ht (.bin o f g) by simp [ht]; omega)
    have hg := fun fl S => h g fl S (show ht g < ht (.bin o f g) by simp [ht]; omega)
    cases o <;> cases fl <;> simp [runP, startE, ↓Res.bind, ↓evSs, ↓evS, ↓evE, ↓evEs, ↓evEo, ↓evPs, ↓evI, ↓evG, ↓evGs, ↓evT, ↓compL, ↓forL, turn, wipe, ↓ixD, atI, ixN, getD', ↓cmpD, cmpD.memD, ↓eqD, shal, dep, boolR, truth, eqv, pur, purs, parEnv, binD, augD, biD, meD, meOk, slD, cut, sIx, setD, addL, addK, items, alloc, big, flat, inD, word, small, purs, Binward, enc, hf, hg, enc_pur, inw, Op.s, keyOk, dmerge, dput, deq, dget]
theorem inw_ev : ∀ (n : Nat) (f : F) (fl : Bool) (S : Sto), ht f < n → callSem P n 6 [enc f, .bl fl] S = .ok (enc (inw f fl)) S
  | 0, _, _, _, h => by omega
  | n + 1, f, fl, S, h => call_pure rfl rfl (by simp [purs, enc_pur, pur]) (inw_run n f fl fun g fl S hg => inw_ev n g fl S (by omega))
theorem inw_sem (r : Row) : ∀ (f : F) (fl : Bool), ev r (inw f fl) = (ev r f != fl)
  | .con b, fl => rfl
  | .var c, fl => by cases fl <;> simp [inw, ev]
  | .not f, fl => by rw [inw, inw_sem r f]; simp [ev]
  | .bin o f g, fl => by cases o <;> cases fl <;> simp [inw, ev, inw_sem r f, inw_sem r g, Op.f] <;> cases ev r f <;> cases ev r g <;> rfl
theorem inw_ht : ∀ (f : F) (fl : Bool), ht (inw f fl) ≤ 2 * ht f + 1
  | .con b, fl => by simp [inw, ht]
  | .var c, fl => by cases fl <;> simp [inw, ht]
  | .not f, fl => by have := inw_ht f (!fl); simp only [inw, ht]; omega
  | .bin o f g, fl => by
    have h1 := fun b => inw_ht f b
    have h2 := fun b => inw_ht g b
    have := h1 false; have := h1 true; have := h2 false; have := h2 true
    cases o <;> cases fl <;> simp only [inw, ht, Bool.not_false, Bool.not_true, if_true, Bool.false_eq_true, if_false] <;> omega

/-! ### _law_kinds -/
def hd : F → List Nat
  | .var _ => [118, 97, 114] | .con _ => [99, 111, 110, 115, 116] | .not _ => [110, 111, 116] | .bin o _ _ => o.s
def kinds : F → List (List Nat)
  | .var c => [[118, 97, 114]]
  | .con b => [[99, 111, 110, 115, 116]]
  | .not f => ([110, 111, 116, 32] ++ hd f) :: kinds f
  | .bin o f g => o.s :: (kinds f ++ kinds g)
def kD (f : F) : List D := (kinds f).map .str
theorem kinds_len : ∀ f, (kinds f).length < 2 ^ (ht f + 1)
  | .var c => by simp [kinds, ht]
  | .con b => by simp [kinds, ht]
  | .not f => by have := kinds_len f; simp [kinds, ht, Nat.pow_succ] at this ⊢; omega
  | .bin o f g => by
    have h1 := kinds_len f
    have h2 := kinds_len g
    have l1 : 2 ^ (ht f + 1) ≤ 2 ^ (max (ht f) (ht g) + 1) := Nat.pow_le_pow_right (by omega) (by omega)
    have l2 : 2 ^ (ht g + 1) ≤ 2 ^ (max (ht f) (ht g) + 1) := Nat.pow_le_pow_right (by omega) (by omega)
    simp only [kinds, ht, List.length_cons, List.length_append]
    rw [Nat.pow_succ 2 (max (ht f) (ht g) + 1)]
    omega
theorem kD_pur (f : F) : purs (kD f) = true := by
  unfold kD
  induction kinds f with
  | nil => rfl
  | cons a l ih => simpa [purs, pur] using ih
theorem hd_ix (f : F) (S : Sto) : ixD (enc f) (.int 0) S = .ok (.str (hd f)) S := by cases f <;> rfl
theorem hd_len : ∀ (f : F), (hd f).length ≤ 5
  | .var _ => by simp [hd]
  | .con _ => by simp [hd]
  | .not _ => by simp [hd]
  | .bin o _ _ => by cases o <;> simp [hd, Op.s]
theorem kinds_ev : ∀ (n : Nat) (f : F) (S : Sto), ht f < 20 → ht f < n → callSem P n 16 [enc f] S = .ok (.ref S.length) (S ++ [.lst (kD f)])
  | 0, _, _, _, h => by omega
  | n + 1, .var .a, S, _, _ => call_list (j := 1) (xs := [.str [118, 97, 114]]) rfl rfl rfl rfl rfl rfl
  | n + 1, .var .b, S, _, _ => call_list (j := 1) (xs := [.str [118, 97, 114]]) rfl rfl rfl rfl rfl rfl
  | n + 1, .var .c, S, _, _ => call_list (j := 1) (xs := [.str [118, 97, 114]]) rfl rfl rfl rfl rfl rfl
  | n + 1, .con b, S, _, _ => call_list (j := 1) (xs := [.str [99, 111, 110, 115, 116]]) rfl rfl rfl rfl rfl rfl
  | n + 1, .not f, S, hz, hn => by
    simp only [ht] at hz hn
    have hf := fun S => kinds_ev n f S (by omega) (by omega)
    have hl := kinds_len f
    have hp : (2 : Nat) ^ (ht f + 1) ≤ 2 ^ 20 := Nat.pow_le_pow_right (by omega) (by omega)
    have l1 : 1 + (kinds f).length ≤ 16777216 := by omega
    have l2 := hd_len f
    have l3 : 4 + (hd f).length ≤ 16777216 := by omega
    have h1 : ∃ env S1 j, evSs (callSem P n) B_law_kinds (startE ⟨1, 1, B_law_kinds⟩ [enc (.not f)]) [] = .ok (.rt (.ref j)) env S1 ∧ S1[j]? = some (.lst (kD (.not f))) := by
      have hx : ∀ S, ixD (.tup [.str [110, 111, 116], enc f]) (.int 1) S = .ok (enc f) S := fun _ => rfl
      have h0 : ∀ S, ixD (.tup [.str [110, 111, 116], enc f]) (.int 0) S = .ok (.str [110, 111, 116]) S := fun _ => rfl
      simp [B_law_kinds, startE, ↓Res.bind, ↓evSs, ↓evS, ↓evE, ↓evEs, ↓hx, ↓h0, ↓hd_ix, ↓cmpD, cmpD.memD, ↓eqD, shal, dep, boolR, truth, eqv, binD, enc, hf, alloc, items, big, flat, inD, l1, l3, kD, kinds]
      exact ⟨_, _, _, ⟨rfl, rfl, rfl⟩, rfl⟩
    obtain ⟨env, S1, j, a, b⟩ := h1
    exact call_list rfl rfl (by simp [purs, enc_pur]) a b (kD_pur _)
  | n + 1, .bin o f g, S, hz, hn => by
    simp only [ht] at hz hn
    have hf := fun S => kinds_ev n f S (by omega) (by omega)
    have hg := fun S => kinds_ev n g S (by omega) (by omega)
    have hl := kinds_len f
    have hm := kinds_len g
    have hp : (2 : Nat) ^ (ht f + 1) ≤ 2 ^ 20 := Nat.pow_le_pow_right (by omega) (by omega)
    have hq : (2 : Nat) ^ (ht g + 1) ≤ 2 ^ 20 := Nat.pow_le_pow_right (by omega) (by omega)
    have l1 : (kinds f).length ≤ 16777215 := by omega
    have l2 : (kinds f).length + 1 + (kinds g).length ≤ 16777216 := by omega
    have l3 : (kinds f).length + (kinds g).length ≤ 16777215 := by omega
    have l4 : (kinds f).length + ((kinds g).length + 1) ≤ 16777216 := by omega
    have h1 : ∃ env S1 j, evSs (callSem P n) B_law_kinds (startE ⟨1, 1, B_law_kinds⟩ [enc (.bin o f g)]) [] = .ok (.rt (.ref j)) env S1 ∧ S1[j]? = some (.lst (kD (.bin o f g))) := by
      have hx : ∀ S, ixD (enc (.bin o f g)) (.int 1) S = .ok (enc f) S := fun _ => rfl
      have hy : ∀ S, ixD (enc (.bin o f g)) (.int 2) S = .ok (enc g) S := fun _ => rfl
      have h0 : ∀ S, ixD (enc (.bin o f g)) (.int 0) S = .ok (.str o.s) S := fun _ => rfl
      cases o <;> simp [B_law_kinds, startE, ↓Res.bind, ↓evSs, ↓evS, ↓evE, ↓evEs, ↓hx, ↓hy, ↓h0, ↓cmpD, cmpD.memD, ↓eqD, shal, dep, boolR, truth, eqv, binD, hf, hg, alloc, items, big, flat, inD, l1, l2, l3, l4, kD, kinds, Op.s, Nat.add_comm, Nat.add_left_comm] <;> exact ⟨_, _, _, ⟨rfl, rfl, rfl⟩, rfl⟩
    obtain ⟨env, S1, j, a, b⟩ := h1
    exact call_list rfl rfl (by simp [purs, enc_pur]) a b (kD_pur _)
end K06
end
section
set_option maxRecDepth 100000
namespace K06
open Ev
/-! ### valued -/
def occ : F → Nm → Bool
  | .var c, d => decide (c = d)
  | .con _, _ => false
  | .not f, d => occ f d
  | .bin _ f g, d => occ f d || occ g d
theorem val_run (n : Nat) (r : Row) (kvs : List (D × D)) : ∀ (f : F), (∀ c, occ f c = true → dget kvs (.str c.s) = some (bit (r c))) →
    (∀ g S, ht g < ht f → (∀ c, occ g c = true → occ f c = true) → S[0]? = some (.dct kvs) → callSem P n 2 [enc g, .ref 0] S = .ok (bit (ev r g)) S) →
    ∃ env X, evSs (callSem P n) Bvalued (startE ⟨2, 4, Bvalued⟩ [enc f, .ref 0]) [.dct kvs] = .ok (.rt (bit (ev r f))) env (.dct kvs :: X)
  | .con b, _, _ => ⟨_, _, rfl⟩
  | .var c, h, _ => by
    have h := h c (by simp [occ])
    cases c <;> simp only [Nm.s] at h <;> simp [runP, startE, ↓Res.bind, ↓evSs, ↓evS, ↓evE, ↓evEs, ↓evEo, ↓evPs, ↓evI, ↓evG, ↓evGs, ↓evT, ↓compL, ↓forL, turn, wipe, ↓ixD, atI, ixN, getD', ↓cmpD, cmpD.memD, ↓eqD, shal, dep, boolR, truth, eqv, pur, purs, parEnv, binD, augD, biD, meD, meOk, slD, cut, sIx, setD, addL, addK, items, alloc, big, flat, inD, word, small, Bvalued, enc, Nm.s, h, ev, keyOk]
  | .not f, _, h => by
    have hf := h f [.dct kvs] (show ht f < ht (.not f) by simp [ht]) (fun c hc => hc) rfl
    simp [runP, startE, ↓Res.bind, ↓evSs, ↓evS, ↓evE, ↓evEs, ↓evEo, ↓evPs, ↓evI, ↓evG, ↓evGs, ↓evT, ↓compL, ↓forL, turn, wipe, ↓ixD, atI, ixN, getD', ↓cmpD, cmpD.memD, ↓eqD, shal, dep, boolR, truth, eqv, pur, purs, parEnv, binD, augD, biD, meD, meOk, slD, cut, sIx, setD, addL, addK, items, alloc, big, flat, inD, word, small, Bvalued, enc, hf, ev, bit, b_not]
  | .bin o f g, _, h => by
    have hf := h f [.dct kvs] (show ht f < ht (.bin o f g) by simp [ht]; omega) (fun c hc => by simp [occ, hc]) rfl
    have hg := h g [.dct kvs] (show ht g < ht (.bin o f g) by simp [ht]; omega) (fun c hc => by simp [occ, hc]) rfl
    have s1 : ∀ b, -18446744073709551616 < b2i b ∧ b2i b < 18446744073709551616 := fun b => by cases b <;> decide
    cases o <;> simp [runP, startE, ↓Res.bind, ↓evSs, ↓evS, ↓evE, ↓evEs, ↓evEo, ↓evPs, ↓evI, ↓evG, ↓evGs, ↓evT, ↓compL, ↓forL, turn, wipe, ↓ixD, atI, ixN, getD', ↓cmpD, cmpD.memD, ↓eqD, shal, dep, boolR, truth, eqv, pur, purs, parEnv, binD, augD, biD, meD, meOk, slD, cut, sIx, setD, addL, addK, items, alloc, big, flat, inD, word, small, Bvalued, enc, hf, hg, ev, bit, b_and, ← b_or, b_xor, Op.f, Op.s, keyOk, dmerge, dput, deq, dget, s1]
theorem val_ev (r : Row) (kvs : List (D × D)) (hk : purO (.dct kvs) = true) : ∀ (n : Nat) (f : F) (m : Nat) (S : Sto), (∀ c, occ f c = true → dget kvs (.str c.s) = some (bit (r c))) → ht f < n → S[m]? = some (.dct kvs) → callSem P n 2 [enc f, .ref m] S = .ok (bit (ev r f)) S
  | 0, _, _, _, _, h, _ => by omega
  | n + 1, f, m, S, h, hn, hm => by
    obtain ⟨env, X, e⟩ := val_run n r kvs f h fun g S hg ho hS => val_ev r kvs hk n g 0 S (fun c hc => h c (ho c hc)) (by omega) hS
    have := call_pr (P := P) (f := 2) (d := ⟨2, 4, Bvalued⟩) rfl rfl (enc_pur f) hm hk e rfl hk
    rw [set_same hm] at this
    exact this

/-! ### names_of -/
def sub (x y z : Bool) : List D := (if x then [.str [97]] else []) ++ (if y then [.str [98]] else []) ++ (if z then [.str [99]] else [])
def nms (f : F) : List D := sub (occ f .a) (occ f .b) (occ f .c)
theorem sub_pur (x y z : Bool) : purs (sub x y z) = true := by cases x <;> cases y <;> cases z <;> rfl
theorem nm_not (C : CallS) (A : D) (x y z : Bool) (h : ∀ S, C 1 [A] S = .ok (.tup (sub x y z)) S) : runP C ⟨1, 4, Bnames_of⟩ [.tup [.str [110, 111, 116], A]] = some (.tup (sub x y z)) := by
  cases x <;> cases y <;> cases z <;> simp [sub] at h <;> simp [runP, startE, ↓Res.bind, ↓evSs, ↓evS, ↓evE, ↓evEs, ↓evEo, ↓evPs, ↓evI, ↓evG, ↓evGs, ↓evT, ↓compL, ↓forL, turn, wipe, ↓ixD, atI, ixN, getD', ↓cmpD, cmpD.memD, ↓eqD, shal, dep, boolR, truth, eqv, pur, purs, parEnv, binD, augD, biD, meD, meOk, slD, cut, sIx, setD, addL, addK, items, alloc, big, flat, inD, word, small, purs, Bnames_of, h, sub, addK, keyOk, dput, deq, strsD, sortS, insS, ltS]
end K06
end
section
set_option maxRecDepth 100000
namespace K06
open Ev
theorem nm_bin (C : CallS) (s : List Nat) (hs : s = [97, 110, 100] ∨ s = [111, 114] ∨ s = [120, 111, 114]) (A B : D) (x y z x' y' z' : Bool) (h : ∀ S, C 1 [A] S = .ok (.tup (sub x y z)) S) (g : ∀ S, C 1 [B] S = .ok (.tup (sub x' y' z')) S) :
    runP C ⟨1, 4, Bnames_of⟩ [.tup [.str s, A, B]] = some (.tup (sub (x || x') (y || y') (z || z'))) := by
  have q0 : ∀ S, ixD (.tup [.str s, A, B]) (.int 0) S = .ok (.str s) S := fun _ => rfl
  have q1 : ∀ S, slD (.tup [.str s, A, B]) (some 1) none S = .ok (.tup [A, B]) S := fun _ => rfl
  have q2 : ∀ S, eqD S (.str s) (.str [118, 97, 114]) = some false := fun _ => by rcases hs with rfl | rfl | rfl <;> rfl
  have q3 : ∀ S, eqD S (.str s) (.str [99, 111, 110, 115, 116]) = some false := fun _ => by rcases hs with rfl | rfl | rfl <;> rfl
  cases x <;> cases y <;> cases z <;> simp [sub] at h <;> cases x' <;> cases y' <;> cases z' <;> simp [sub] at g <;>
    simp [runP, startE, ↓Res.bind, ↓evSs, ↓evS, ↓evE, ↓evEs, ↓evEo, ↓evI, ↓evG, ↓evT, ↓compL, turn, wipe, ↓q0, ↓q1, ↓q2, ↓q3, ↓cmpD, boolR, truth, pur, purs, biD, addK, items, alloc, big, Bnames_of, h, g, sub, keyOk, dput, deq, strsD, sortS, insS, ltS]
theorem names_ev : ∀ (n : Nat) (f : F) (S : Sto), ht f < n → callSem P n 1 [enc f] S = .ok (.tup (nms f)) S
  | 0, _, _, h => by omega
  | n + 1, .var .a, S, _ => call_pure rfl rfl rfl rfl
  | n + 1, .var .b, S, _ => call_pure rfl rfl rfl rfl
  | n + 1, .var .c, S, _ => call_pure rfl rfl rfl rfl
  | n + 1, .con b, S, _ => call_pure rfl rfl rfl rfl
  | n + 1, .not f, S, h => by
    simp only [ht] at h
    exact call_pure rfl rfl (by simp [purs, enc_pur]) (nm_not _ _ _ _ _ fun S => names_ev n f S (by omega))
  | n + 1, .bin o f g, S, h => by
    simp only [ht] at h
    exact call_pure rfl rfl (by simp [purs, enc_pur]) (nm_bin _ _ (by cases o <;> simp [Op.s]) _ _ _ _ _ _ _ _ (fun S => names_ev n f S (by omega)) fun S => names_ev n g S (by omega))

end K06
end
section
namespace Ev
def lcB (C : CallS) (e : IE) (n : Nat) (env1 : Env) (S' : Sto) : Option Sto := match evE C e env1 S' with
  | .ok d S2 => addL n d S2
  | _ => none
theorem evE_lc {C : CallS} {vs : List Nat} {g : IG} {it : II} {ifs : IEs} {e : IE} {env : Env} {S S1 Sf : Sto} {v : ItV} (hi : evI C it env S = .ok v S1)
    (hc : compL v (fun d S' => evG C g d (wipe env vs) S') (fun env1 S' => evT C ifs env1 S') (lcB C e S1.length) fuel 0 (S1 ++ [.lst []]) = some Sf) : evE C (.lc vs g it ifs e) env S = .ok (.ref S1.length) Sf := by
  rw [evE, hi]
  show (match compL v (fun d S' => evG C g d (wipe env vs) S') (fun env1 S' => evT C ifs env1 S') (lcB C e S1.length) fuel 0 (S1 ++ [.lst []]) with | some S2 => Res.ok (D.ref S1.length) S2 | none => Res.bad) = _
  rw [hc]
/-- a list comprehension of pure values over what stays -/
theorem lc_lst {C : CallS} {vs : List Nat} {g : IG} {it : II} {ifs : IEs} {e : IE} {env : Env} {S S1 : Sto} {v : ItV} {ds : List D} {p : D → Bool} {h : D → D} (hi : evI C it env S = .ok v S1) (hv : ∀ i acc, turn v i (S1 ++ [.lst acc]) = some ds[i]?) (hz : ds.length < 1000000)
    (hb : ∀ d ∈ ds, ∀ acc, ∃ env1, evG C g d (wipe env vs) (S1 ++ [.lst acc]) = some (env1, S1 ++ [.lst acc]) ∧ evT C ifs env1 (S1 ++ [.lst acc]) = .ok (p d) (S1 ++ [.lst acc]) ∧ (p d = true → evE C e env1 (S1 ++ [.lst acc]) = .ok (h d) (S1 ++ [.lst acc]))) :
    evE C (.lc vs g it ifs e) env S = .ok (.ref S1.length) (S1 ++ [.lst ((ds.filter p).map h)]) := by
  refine evE_lc hi ?_
  have k := compL_lst (v := v) (ds := ds) (S := S1) (p := p) (h := h) (g := fun d S' => evG C g d (wipe env vs) S') (t := fun env1 S' => evT C ifs env1 S') (b := lcB C e S1.length) hv
    (fun d hd acc => by
      obtain ⟨env1, h1, h2, h3⟩ := hb d hd acc
      exact ⟨env1, h1, h2, fun q => by unfold lcB; rw [h3 q]⟩)
    fuel 0 [] (by simpa [fuel] using hz) (by simp [big]; omega)
  simpa using k
/-- over a list that stands in the store -/
theorem turn_lst {S : Sto} {n : Nat} {ds : List D} (h : items S n = some ds) (i : Nat) (X : Sto) : turn (.lst n) i (S ++ X) = some ds[i]? := by simp only [turn]; rw [items_app h]; rfl

/-- the list that a run returns -/
def listOf : SRes → Option (List D)
  | .ok (.rt (.ref j)) _ S => items S j
  | _ => none
theorem call_list' {P : List Def} {n f : Nat} {d : Def} {args : List D} {S : Sto} {xs : List D} (hP : P[f]? = some d) (hl : args.length = d.np) (hp : purs args = true)
    (hr : listOf (evSs (callSem P n) d.body (startE d args) []) = some xs) (hx : purs xs = true) : callSem P (n + 1) f args S = .ok (.ref S.length) (S ++ [.lst xs]) := by
  unfold listOf at hr
  split at hr
  · rename_i j env S1 e
    refine call_list hP hl hp e ?_ hx
    unfold items at hr
    split at hr
    · rename_i ys q; cases hr; exact q
    · cases hr
  · cases hr
theorem cut_take {α : Type} (ds : List α) (k : Nat) : cut ds none (some (k : Int)) = ds.take k := by
  have : ¬ ((k : Int) < 0) := by omega
  simp only [cut, sIx, this, if_false, List.drop_zero, Nat.sub_zero, Int.toNat_natCast]
  by_cases h : k ≤ ds.length
  · rw [Nat.min_eq_left h]
  · rw [Nat.min_eq_right (by omega), List.take_length, List.take_of_length_le (by omega)]
/-- a comprehension that may leave garbage behind its list -/
theorem compL_gar {v : ItV} {ds : List D} {g : D → Sto → Option (Env × Sto)} {t : Env → Sto → TRes} {b : Env → Sto → Option Sto} {S : Sto} {p : D → Bool} {h : D → D}
    (hv : ∀ i acc G, turn v i (S ++ .lst acc :: G) = some ds[i]?)
    (hb : ∀ d ∈ ds, ∀ acc G, ∃ env1 G1, g d (S ++ .lst acc :: G) = some (env1, S ++ .lst acc :: G) ∧ t env1 (S ++ .lst acc :: G) = .ok (p d) (S ++ .lst acc :: G1) ∧ (p d = true → ∃ G2, b env1 (S ++ .lst acc :: G1) = addL S.length (h d) (S ++ .lst acc :: G2))) :
    ∀ (n i : Nat) (acc : List D) (G : Sto), ds.length - i < n → acc.length + (ds.length - i) ≤ big → ∃ G', compL v g t b n i (S ++ .lst acc :: G) = some (S ++ .lst (acc ++ ((ds.drop i).filter p).map h) :: G')
  | 0, _, _, _, hn, _ => by omega
  | n + 1, i, acc, G, hn, hz => by
    unfold compL
    rw [hv]
    cases e : ds[i]? with
    | none =>
      have : ds.length ≤ i := List.getElem?_eq_none_iff.mp e
      rw [List.drop_of_length_le this]; exact ⟨G, by simp⟩
    | some d =>
      have hi := (List.getElem?_eq_some_iff.mp e).1
      obtain ⟨env1, G1, h1, h2, h3⟩ := hb d (List.mem_of_getElem? e) acc G
      have hd : ds.drop i = d :: ds.drop (i + 1) := by
        rw [List.drop_eq_getElem_cons hi]; congr 1
        rw [List.getElem?_eq_getElem hi] at e; exact Option.some.inj e
      simp only [h1, h2]
      cases hp : p d with
      | false =>
        simp only
        rw [hd, List.filter_cons_of_neg (by simp [hp])]
        exact compL_gar hv hb n (i + 1) acc G1 (by omega) (by omega)
      | true =>
        obtain ⟨G2, h4⟩ := h3 hp
        have ha : addL S.length (h d) (S ++ .lst acc :: G2) = some (S ++ .lst (acc ++ [h d]) :: G2) := by
          unfold addL
          rw [List.getElem?_append_right (Nat.le_refl _)]
          simp only [Nat.sub_self, List.getElem?_cons_zero]
          rw [if_pos (by omega), List.set_append_right _ _ (Nat.le_refl _)]
          simp
        simp only
        rw [h4, ha]
        simp only
        obtain ⟨G', h5⟩ := compL_gar hv hb n (i + 1) (acc ++ [h d]) G2 (by omega) (by simp; omega)
        refine ⟨G', ?_⟩
        rw [h5, hd, List.filter_cons_of_pos (by simp [hp])]
        simp
theorem lc_gar {C : CallS} {vs : List Nat} {g : IG} {it : II} {ifs : IEs} {e : IE} {env : Env} {S S1 : Sto} {v : ItV} {ds : List D} {p : D → Bool} {h : D → D} (hi : evI C it env S = .ok v S1) (hv : ∀ i X, turn v i (S1 ++ X) = some ds[i]?) (hz : ds.length < 1000000)
    (hb : ∀ d ∈ ds, ∀ X : Sto, ∃ env1 Y, evG C g d (wipe env vs) (S1 ++ X) = some (env1, S1 ++ X) ∧ evT C ifs env1 (S1 ++ X) = .ok (p d) (S1 ++ X ++ Y) ∧ (p d = true → ∃ Z, evE C e env1 (S1 ++ X ++ Y) = .ok (h d) (S1 ++ X ++ Y ++ Z))) :
    ∃ G, evE C (.lc vs g it ifs e) env S = .ok (.ref S1.length) (S1 ++ .lst ((ds.filter p).map h) :: G) := by
  obtain ⟨G, k⟩ := compL_gar (v := v) (ds := ds) (S := S1) (p := p) (h := h) (g := fun d S' => evG C g d (wipe env vs) S') (t := fun env1 S' => evT C ifs env1 S') (b := lcB C e S1.length) (fun i acc G => hv i _)
    (fun d hd acc G => by
      obtain ⟨env1, Y, h1, h2, h3⟩ := hb d hd (.lst acc :: G)
      refine ⟨env1, G ++ Y, h1, by rw [h2]; simp, fun q => ?_⟩
      obtain ⟨Z, h4⟩ := h3 q
      refine ⟨G ++ Y ++ Z, ?_⟩
      unfold lcB
      rw [show S1 ++ MO.lst acc :: (G ++ Y) = S1 ++ MO.lst acc :: G ++ Y by simp, h4]
      simp)
    fuel 0 [] [] (by simpa [fuel] using hz) (by simp [big]; omega)
  exact ⟨G, evE_lc hi (by simpa using k)⟩
end Ev
end
section
set_option maxRecDepth 100000
namespace K06
open Ev
/-! ### rows_of -/
def rho (x y z : Bool) (k : Nat) : Row
  | .a => k % 2 == 1
  | .b => (if x then k / 2 else k) % 2 == 1
  | .c => (if x then (if y then k / 4 else k / 2) else (if y then k / 2 else k)) % 2 == 1
def many (x y z : Bool) : Nat := 2 ^ ((if x then 1 else 0) + (if y then 1 else 0) + (if z then 1 else 0))
def rowK (x y z : Bool) (k : Nat) : List (D × D) := (if x then [(.str [97], bit (rho x y z k .a))] else []) ++ (if y then [(.str [98], bit (rho x y z k .b))] else []) ++ (if z then [(.str [99], bit (rho x y z k .c))] else [])
def rowsS (x y z : Bool) : Sto := .lst ((List.range (many x y z)).map fun k => .ref (k + 1)) :: (List.range (many x y z)).map fun k => .dct (rowK x y z k)
theorem rows_run (n : Nat) (x y z : Bool) : ∃ env, evSs (callSem P (n + 1)) Brows_of (startE ⟨1, 5, Brows_of⟩ [.tup (sub x y z)]) [] = .ok (.rt (.ref 0)) env (rowsS x y z) := by
  apply of_retOf
  cases x <;> cases y <;> cases z <;> kernel_rfl
theorem rows_ev (n : Nat) (x y z : Bool) : callSem P (n + 2) 7 [.tup (sub x y z)] [] = .ok (.ref 0) (rowsS x y z) := by
  obtain ⟨env, e⟩ := rows_run n x y z
  have hp : purs [D.tup (sub x y z)] = true := by simp [purs, pur, sub_pur]
  have h7 : P[7]? = some ⟨1, 5, Brows_of⟩ := rfl
  simp only [callSem, h7, callD, List.length_singleton, if_true, argsIn_pure hp, objsIn, e]
  cases x <;> cases y <;> cases z <;> kernel_rfl

/-! ### table_of -/
def tab (f : F) (x y z : Bool) : List D := (List.range (many x y z)).map fun k => bit (ev (rho x y z k) f)
theorem tab_pur (f : F) (x y z : Bool) : purs (tab f x y z) = true := by
  unfold tab
  induction List.range (many x y z) with
  | nil => rfl
  | cons a l ih => simpa [purs, pur, bit] using ih
theorem many_le (x y z : Bool) : many x y z ≤ 8 := by cases x <;> cases y <;> cases z <;> decide
theorem rowK_pur (x y z : Bool) (k : Nat) : purO (.dct (rowK x y z k)) = true := by cases x <;> cases y <;> cases z <;> rfl
/-- the names of f are among these -/
def Among (f : F) (x y z : Bool) : Prop := (occ f .a = true → x = true) ∧ (occ f .b = true → y = true) ∧ (occ f .c = true → z = true)
theorem rowK_get (f : F) (x y z : Bool) (k : Nat) (h : Among f x y z) (c : Nm) (hc : occ f c = true) : dget (rowK x y z k) (.str c.s) = some (bit (rho x y z k c)) := by
  obtain ⟨h1, h2, h3⟩ := h
  cases c
  · have := h1 hc; subst this; cases y <;> cases z <;> rfl
  · have := h2 hc; subst this; cases x <;> cases z <;> rfl
  · have := h3 hc; subst this; cases x <;> cases y <;> rfl
theorem table_ev (n : Nat) (f : F) (x y z : Bool) (S : Sto) (h : Among f x y z) (hn : ht f + 2 < n) : callSem P n 8 [enc f, .tup (sub x y z)] S = .ok (.tup (tab f x y z)) S := by
  obtain ⟨n, rfl⟩ : ∃ m, n = m + 3 := ⟨n - 3, by omega⟩
  refine call_pure (d := ⟨2, 3, Btable_of⟩) rfl rfl (by simp [purs, pur, enc_pur, sub_pur]) ?_
  have lens : (rowsS x y z).length = many x y z + 1 := by simp [rowsS]
  have hM := many_le x y z
  have e1 : evI (callSem P (n + 2)) (.val (.call 7 (.cons (.var 1) .nil))) [some (enc f), some (.tup (sub x y z)), none] [] = .ok (.lst 0) (rowsS x y z) := by
    have i0 : items (rowsS x y z) 0 = some ((List.range (many x y z)).map fun k => D.ref (k + 1)) := rfl
    simp [↓evI, ↓evE, ↓evEs, ↓Res.bind, rows_ev, i0]
  have e2 : evE (callSem P (n + 2)) (.lc [2] (.var 2) (.val (.call 7 (.cons (.var 1) .nil))) .nil (.call 2 (.cons (.var 0) (.cons (.var 2) .nil)))) [some (enc f), some (.tup (sub x y z)), none] [] = .ok (.ref (rowsS x y z).length) (rowsS x y z ++ [.lst (tab f x y z)]) := by
    have key := lc_lst (vs := [2]) (g := .var 2) (ifs := .nil) (e := .call 2 (.cons (.var 0) (.cons (.var 2) .nil))) (ds := (List.range (many x y z)).map fun k => D.ref (k + 1)) (p := fun _ => true) (h := fun d => match d with | .ref m => bit (ev (rho x y z (m - 1)) f) | _ => .non) e1
      (fun i acc => turn_lst rfl i _) (by simp; omega)
      (fun d hd acc => by
        obtain ⟨k, hk, rfl⟩ := List.mem_map.mp hd
        have hk' := List.mem_range.mp hk
        have hget : (rowsS x y z ++ [MO.lst acc])[k + 1]? = some (.dct (rowK x y z k)) := by
          rw [app_old (by rw [lens]; omega)]
          simp [rowsS, hk']
        have hv := val_ev (rho x y z k) _ (rowK_pur x y z k) (n + 2) f (k + 1) _ (rowK_get f x y z k h) (by omega) hget
        exact ⟨[some (enc f), some (.tup (sub x y z)), some (.ref (k + 1))], rfl, rfl, fun _ => by simp [↓evE, ↓evEs, ↓Res.bind, hv]⟩)
    rw [key, List.filter_eq_self.mpr (fun _ _ => rfl), List.map_map]
    rfl
  have i1 : items (rowsS x y z ++ [.lst (tab f x y z)]) (rowsS x y z).length = some (tab f x y z) := items_new _ _
  simp [runP, startE, Btable_of, ↓Res.bind, ↓evSs, ↓evS, ↓evE, ↓evEs, ↓e2, biD, i1, pur, tab_pur]

/-! ### alike -/
theorem sub_or (f g : F) : Among f (occ f .a || occ g .a) (occ f .b || occ g .b) (occ f .c || occ g .c) ∧ Among g (occ f .a || occ g .a) (occ f .b || occ g .b) (occ f .c || occ g .c) :=
  ⟨⟨fun h => by simp [h], fun h => by simp [h], fun h => by simp [h]⟩, ⟨fun h => by simp [h], fun h => by simp [h], fun h => by simp [h]⟩⟩
theorem dep_bits {l : List D} (h : ∀ d ∈ l, ∃ b, d = bit b) : deps l = some 0 := by
  induction l with
  | nil => rfl
  | cons a l ih =>
    obtain ⟨b, rfl⟩ := h a (List.mem_cons_self ..)
    simp [deps, dep, bit, ih fun d hd => h d (List.mem_cons_of_mem _ hd)]
theorem tab_bits (f : F) (x y z : Bool) : ∀ d ∈ tab f x y z, ∃ b, d = bit b := fun d hd => by
  obtain ⟨k, _, rfl⟩ := List.mem_map.mp hd
  exact ⟨_, rfl⟩
theorem bit_eqv (a b : Bool) : eqv (bit a) (bit b) = decide (a = b) := by cases a <;> cases b <;> rfl
theorem bits_eqv {α : Type} (u v : α → Bool) : ∀ l : List α, eqvs (l.map fun k => bit (u k)) (l.map fun k => bit (v k)) = decide (∀ k ∈ l, u k = v k)
  | [] => rfl
  | k :: l => by rw [List.map_cons, List.map_cons, eqvs_cons, bit_eqv, bits_eqv u v l]; simp
/-- every row is told by its number -/
theorem ev_occ (r s : Row) : ∀ f, (∀ c, occ f c = true → r c = s c) → ev r f = ev s f
  | .var c, h => h c (by simp [occ])
  | .con b, _ => rfl
  | .not f, h => by simp [ev, ev_occ r s f h]
  | .bin o f g, h => by simp [ev, ev_occ r s f fun c hc => h c (by simp [occ, hc]), ev_occ r s g fun c hc => h c (by simp [occ, hc])]
theorem row_no (x y z : Bool) (r : Row) : ∃ k < many x y z, (x = true → rho x y z k .a = r .a) ∧ (y = true → rho x y z k .b = r .b) ∧ (z = true → rho x y z k .c = r .c) := by
  generalize r .a = a
  generalize r .b = b
  generalize r .c = c
  revert x y z a b c
  decide
theorem same_iff (f g : F) (x y z : Bool) (hf : Among f x y z) (hg : Among g x y z) : (∀ k ∈ List.range (many x y z), ev (rho x y z k) f = ev (rho x y z k) g) ↔ ∀ r : Row, ev r f = ev r g := by
  constructor
  · intro h r
    obtain ⟨k, hk, h1, h2, h3⟩ := row_no x y z r
    have e := h k (List.mem_range.mpr hk)
    rw [ev_occ (rho x y z k) r f (fun c hc => by cases c; exact h1 (hf.1 hc); exact h2 (hf.2.1 hc); exact h3 (hf.2.2 hc)), ev_occ (rho x y z k) r g (fun c hc => by cases c; exact h1 (hg.1 hc); exact h2 (hg.2.1 hc); exact h3 (hg.2.2 hc))] at e
    exact e
  · exact fun h k _ => h _
end K06
end
section
set_option maxRecDepth 100000
namespace K06
open Ev
abbrev nmE : IE := .bi .tuple (.cons (.bi .sorted (.cons (.dc2 [3, 4] (.var 3) (.val (.tup (.cons (.var 0) (.cons (.var 1) (.nil))))) (.nil) [4] (.var 4) (.val (.call 1 (.cons (.var 3) (.nil)))) (.nil) (.var 4) (.bl true)) (.nil))) (.nil))
theorem alike_nm (C : CallS) (A B : D) (x y z x' y' z' : Bool) (h : ∀ S, C 1 [A] S = .ok (.tup (sub x y z)) S) (g : ∀ S, C 1 [B] S = .ok (.tup (sub x' y' z')) S) :
    ∃ S1, evE C nmE [some A, some B, none, none, none] [] = .ok (.tup (sub (x || x') (y || y') (z || z'))) S1 := by
  cases x <;> cases y <;> cases z <;> simp [sub] at h <;> cases x' <;> cases y' <;> cases z' <;> simp [sub] at g <;>
    simp [nmE, ↓Res.bind, ↓evE, ↓evEs, ↓evI, ↓evG, ↓evT, ↓compL, turn, wipe, biD, addK, items, alloc, big, h, g, sub, keyOk, dput, deq, strsD, sortS, insS, ltS]
theorem bits_shal (f : F) (x y z : Bool) : shal 60 (dep (.tup (tab f x y z))) = true := by simp [dep, dep_bits (tab_bits f x y z), shal]
theorem alike_ev (n : Nat) (f g : F) (S : Sto) (hf : ht f + 3 < n) (hg : ht g + 3 < n) : ∃ b, callSem P n 9 [enc f, enc g] S = .ok (.bl b) S ∧ (b = true ↔ ∀ r : Row, ev r f = ev r g) := by
  obtain ⟨n, rfl⟩ : ∃ m, n = m + 1 := ⟨n - 1, by omega⟩
  obtain ⟨af, ag⟩ := sub_or f g
  generalize hx : (occ f .a || occ g .a) = x at af ag
  generalize hy : (occ f .b || occ g .b) = y at af ag
  generalize hz : (occ f .c || occ g .c) = z at af ag
  refine ⟨decide (∀ k ∈ List.range (many x y z), ev (rho x y z k) f = ev (rho x y z k) g), ?_, by rw [decide_eq_true_eq]; exact same_iff f g x y z af ag⟩
  refine call_pure (d := ⟨2, 5, Balike⟩) rfl rfl (by simp [purs, enc_pur]) ?_
  obtain ⟨S1, e⟩ := alike_nm (callSem P n) (enc f) (enc g) _ _ _ _ _ _ (fun S => names_ev n f S (by omega)) (fun S => names_ev n g S (by omega))
  rw [hx, hy, hz] at e
  have t1 := fun S => table_ev n f x y z S af (by omega)
  have t2 := fun S => table_ev n g x y z S ag (by omega)
  have q : ∀ S, eqD S (.tup (tab f x y z)) (.tup (tab g x y z)) = some (decide (∀ k ∈ List.range (many x y z), ev (rho x y z k) f = ev (rho x y z k) g)) := fun S => by
    show (if shal 60 (dep (.tup (tab f x y z))) && shal 60 (dep (.tup (tab g x y z))) then some (eqv (.tup (tab f x y z)) (.tup (tab g x y z))) else none) = _
    rw [bits_shal, bits_shal, eqv_tup]
    simp only [Bool.and_self, if_true]
    congr 1
    exact bits_eqv _ _ _
  simp [runP, startE, Balike, ↓Res.bind, ↓evSs, ↓evS, ↓e, ↓evG, ↓evE, ↓evEs, t1, t2, ↓cmpD, q, boolR, pur]
end K06
end
section
set_option maxRecDepth 100000
namespace K06
open Ev
abbrev rr (k : Nat) : Row := rho true true true k
def rowsL : List D := (List.range 8).map fun k => rowD (rr k)
theorem rows_ev3 (n : Nat) (S : Sto) : callSem P (n + 1) 15 [.int 3] S = .ok (.ref S.length) (S ++ [.lst rowsL]) :=
  call_list' rfl rfl rfl (show listOf (evSs (callSem P n) B_law_rows (startE ⟨1, 4, B_law_rows⟩ [.int 3]) []) = some rowsL by kernel_rfl) rfl
theorem dice_ev (n : Nat) (i : Int) : ∃ v c m : Int, ∀ S, callSem P (n + 1) 10 [.int i] S = .ok (.ref S.length) (S ++ [.lst [.int v, .int c, .int m]]) := by
  have h : ∃ v c m : Int, listOf (evSs (callSem P n) B_law_dice (startE ⟨1, 1, B_law_dice⟩ [.int i]) []) = some [.int v, .int c, .int m] := by
    by_cases h1 : -10 < i
    · by_cases h2 : i < 10
      · simp [runP, startE, ↓Res.bind, ↓evSs, ↓evS, ↓evE, ↓evEs, ↓evEo, ↓evPs, ↓evI, ↓evG, ↓evGs, ↓evT, ↓compL, ↓forL, turn, wipe, ↓ixD, atI, ixN, getD', ↓cmpD, cmpD.memD, ↓eqD, shal, dep, boolR, truth, eqv, pur, purs, parEnv, binD, augD, biD, meD, meOk, slD, cut, sIx, setD, addL, addK, items, alloc, big, flat, inD, word, small, B_law_dice, h1, h2, listOf]
      · simp [runP, startE, ↓Res.bind, ↓evSs, ↓evS, ↓evE, ↓evEs, ↓evEo, ↓evPs, ↓evI, ↓evG, ↓evGs, ↓evT, ↓compL, ↓forL, turn, wipe, ↓ixD, atI, ixN, getD', ↓cmpD, cmpD.memD, ↓eqD, shal, dep, boolR, truth, eqv, pur, purs, parEnv, binD, augD, biD, meD, meOk, slD, cut, sIx, setD, addL, addK, items, alloc, big, flat, inD, word, small, B_law_dice, h1, h2, listOf]
    · simp [runP, startE, ↓Res.bind, ↓evSs, ↓evS, ↓evE, ↓evEs, ↓evEo, ↓evPs, ↓evI, ↓evG, ↓evGs, ↓evT, ↓compL, ↓forL, turn, wipe, ↓ixD, atI, ixN, getD', ↓cmpD, cmpD.memD, ↓eqD, shal, dep, boolR, truth, eqv, pur, purs, parEnv, binD, augD, biD, meD, meOk, slD, cut, sIx, setD, addL, addK, items, alloc, big, flat, inD, word, small, B_law_dice, h1, listOf]
  obtain ⟨v, c, m, h⟩ := h
  exact ⟨v, c, m, fun S => call_list' rfl rfl rfl h rfl⟩
theorem roll_ev (n : Nat) (k : Int) (hk : 0 < k) (hk2 : k < 1073741824) (v c m : Int) (p : Nat) (S : Sto) (hS : S[p]? = some (.lst [.int v, .int c, .int m])) :
    ∃ r v' c' m' : Int, 0 ≤ r ∧ r < k ∧ callSem P (n + 1) 11 [.ref p, .int k] S = .ok (.int r) (S.set p (.lst [.int v', .int c', .int m'])) := by
  have h : ∃ r v' c' m' : Int, 0 ≤ r ∧ r < k ∧ ∃ env X, evSs (callSem P n) B_law_roll (startE ⟨2, 3, B_law_roll⟩ [.ref 0, .int k]) [.lst [.int v, .int c, .int m]] = .ok (.rt (.int r)) env (.lst [.int v', .int c', .int m'] :: X) := by
    have a : ∀ x : Int, 0 ≤ x % k ∧ x % k < k := fun x => ⟨Int.emod_nonneg _ (by omega), Int.emod_lt_of_pos _ hk⟩
    by_cases h1 : m = 2
    · subst h1
      refine ⟨v % k, v / k, c, 2, (a _).1, (a _).2, ?_⟩
      simp [runP, startE, ↓Res.bind, ↓evSs, ↓evS, ↓evE, ↓evEs, ↓evEo, ↓evPs, ↓evI, ↓evG, ↓evGs, ↓evT, ↓compL, ↓forL, turn, wipe, ↓ixD, atI, ixN, getD', ↓cmpD, cmpD.memD, ↓eqD, shal, dep, boolR, truth, eqv, pur, purs, parEnv, binD, augD, biD, meD, meOk, slD, cut, sIx, setD, addL, addK, items, alloc, big, flat, inD, word, small, B_law_roll, hk, hk2]
    · by_cases h2 : m = 1
      · subst h2
        by_cases h3 : 0 < v
        · refine ⟨v % k, v / k, c, 1, (a _).1, (a _).2, ?_⟩
          simp [runP, startE, ↓Res.bind, ↓evSs, ↓evS, ↓evE, ↓evEs, ↓evEo, ↓evPs, ↓evI, ↓evG, ↓evGs, ↓evT, ↓compL, ↓forL, turn, wipe, ↓ixD, atI, ixN, getD', ↓cmpD, cmpD.memD, ↓eqD, shal, dep, boolR, truth, eqv, pur, purs, parEnv, binD, augD, biD, meD, meOk, slD, cut, sIx, setD, addL, addK, items, alloc, big, flat, inD, word, small, B_law_roll, hk, hk2, h3]
        · refine ⟨(((v * 48271 + c * 69621 + 11) % 2147483647) / 7 + (v * 48271 + c * 69621 + 11) % 2147483647) % k, (v * 48271 + c * 69621 + 11) % 2147483647, c + 1, 0, (a _).1, (a _).2, ?_⟩
          simp [runP, startE, ↓Res.bind, ↓evSs, ↓evS, ↓evE, ↓evEs, ↓evEo, ↓evPs, ↓evI, ↓evG, ↓evGs, ↓evT, ↓compL, ↓forL, turn, wipe, ↓ixD, atI, ixN, getD', ↓cmpD, cmpD.memD, ↓eqD, shal, dep, boolR, truth, eqv, pur, purs, parEnv, binD, augD, biD, meD, meOk, slD, cut, sIx, setD, addL, addK, items, alloc, big, flat, inD, word, small, B_law_roll, hk, hk2, h3]
      · refine ⟨(((v * 48271 + c * 69621 + 11) % 2147483647) / 7 + (v * 48271 + c * 69621 + 11) % 2147483647) % k, (v * 48271 + c * 69621 + 11) % 2147483647, c + 1, 0, (a _).1, (a _).2, ?_⟩
        have h1' : (m == 2) = false := by simpa using h1
        have h2' : (m == 1) = false := by simpa using h2
        simp [runP, startE, ↓Res.bind, ↓evSs, ↓evS, ↓evE, ↓evEs, ↓evEo, ↓evPs, ↓evI, ↓evG, ↓evGs, ↓evT, ↓compL, ↓forL, turn, wipe, ↓ixD, atI, ixN, getD', ↓cmpD, cmpD.memD, ↓eqD, shal, dep, boolR, truth, eqv, pur, purs, parEnv, binD, augD, biD, meD, meOk, slD, cut, sIx, setD, addL, addK, items, alloc, big, flat, inD, word, small, B_law_roll, hk, hk2, h1', h2']
  obtain ⟨r, v', c', m', h1, h2, env, X, h3⟩ := h
  exact ⟨r, v', c', m', h1, h2, call_rp (P := P) (f := 11) (d := ⟨2, 3, B_law_roll⟩) rfl rfl rfl hS rfl h3 rfl rfl⟩
def Dice (o : MO) : Prop := ∃ v c m : Int, o = .lst [.int v, .int c, .int m]
theorem Dice.pur {o : MO} (h : Dice o) : purO o = true := by obtain ⟨v, c, m, rfl⟩ := h; rfl
theorem roll_D (n : Nat) (k : Int) (hk : 0 < k) (hk2 : k < 1073741824) {o : MO} (ho : Dice o) (p : Nat) (S : Sto) (hS : S[p]? = some o) :
    ∃ r o', 0 ≤ r ∧ r < k ∧ Dice o' ∧ callSem P (n + 1) 11 [.ref p, .int k] S = .ok (.int r) (S.set p o') := by
  obtain ⟨v, c, m, rfl⟩ := ho
  obtain ⟨r, v', c', m', h1, h2, h3⟩ := roll_ev n k hk hk2 v c m p S hS
  exact ⟨r, _, h1, h2, ⟨v', c', m', rfl⟩, h3⟩
theorem formula_run (n d : Nat) {o : MO} (ho : Dice o)
    (ih : ∀ d', d = d' + 1 → ∀ (o : MO) (S : Sto), Dice o → S[0]? = some o → ∃ f o', ht f ≤ d' ∧ Dice o' ∧ callSem P (n + 1) 13 [.ref 0, .int (d' : Int)] S = .ok (enc f) (S.set 0 o')) :
    ∃ f o', ht f ≤ d ∧ Dice o' ∧ ∃ env X, evSs (callSem P (n + 1)) B_law_formula (startE ⟨2, 3, B_law_formula⟩ [.ref 0, .int (d : Int)]) [o] = .ok (.rt (enc f)) env (o' :: X) := by
  obtain ⟨r1, o1, a1, b1, ho1, e1⟩ := roll_D n 8 (by decide) (by decide) ho 0 [o] rfl
  rw [List.set_cons_zero] at e1
  by_cases hA : d = 0 ∨ r1 < 2
  · have key : ∀ L, ∃ r2 o2, 0 ≤ r2 ∧ r2 < 5 ∧ Dice o2 ∧ callSem P (n + 1) 11 [.ref 0, .int 5] [o1, L] = .ok (.int r2) [o2, L] := fun L => by
      obtain ⟨r2, o2, a2, b2, ho2, e2⟩ := roll_D n 5 (by decide) (by decide) ho1 0 [o1, L] rfl
      exact ⟨r2, o2, a2, b2, ho2, e2⟩
    obtain ⟨r2, o2, a2, b2, ho2, e2⟩ := key (.lst [enc (.var .a), enc (.var .b), enc (.var .c), enc (.con false), enc (.con true)])
    simp [enc, Nm.s, bit, b2i] at e2
    have hc : ((d : Int) == 0) = true ∨ (((d : Int) == 0) = false ∧ r1 < 2) := by
      by_cases q : d = 0
      · left; simp [q]
      · exact .inr ⟨by simp [q], hA.resolve_left q⟩
    have run : ∀ f, (r2 = 0 ∧ f = F.var .a) ∨ (r2 = 1 ∧ f = F.var .b) ∨ (r2 = 2 ∧ f = F.var .c) ∨ (r2 = 3 ∧ f = F.con false) ∨ (r2 = 4 ∧ f = F.con true) →
        ∃ env X, evSs (callSem P (n + 1)) B_law_formula (startE ⟨2, 3, B_law_formula⟩ [.ref 0, .int (d : Int)]) [o] = .ok (.rt (enc f)) env (o2 :: X) := fun f hf => by
      rcases hc with hc | ⟨hc, hr⟩ <;> rcases hf with ⟨rfl, rfl⟩ | ⟨rfl, rfl⟩ | ⟨rfl, rfl⟩ | ⟨rfl, rfl⟩ | ⟨rfl, rfl⟩ <;> simp [runP, startE, ↓Res.bind, ↓evSs, ↓evS, ↓evE, ↓evEs, ↓evEo, ↓evPs, ↓evI, ↓evG, ↓evGs, ↓evT, ↓compL, ↓forL, turn, wipe, ↓ixD, atI, ixN, getD', ↓cmpD, cmpD.memD, ↓eqD, shal, dep, boolR, truth, eqv, pur, purs, parEnv, binD, augD, biD, meD, meOk, slD, cut, sIx, setD, addL, addK, items, alloc, big, flat, inD, word, small, B_law_formula, e1, e2, hc, enc, Nm.s, bit, b2i, *]
    have : r2 = 0 ∨ r2 = 1 ∨ r2 = 2 ∨ r2 = 3 ∨ r2 = 4 := by omega
    rcases this with h | h | h | h | h
    · exact ⟨.var .a, o2, Nat.zero_le _, ho2, run _ (by simp [h])⟩
    · exact ⟨.var .b, o2, Nat.zero_le _, ho2, run _ (by simp [h])⟩
    · exact ⟨.var .c, o2, Nat.zero_le _, ho2, run _ (by simp [h])⟩
    · exact ⟨.con false, o2, Nat.zero_le _, ho2, run _ (by simp [h])⟩
    · exact ⟨.con true, o2, Nat.zero_le _, ho2, run _ (by simp [h])⟩
  · have hd : d ≠ 0 := fun z => hA (.inl z)
    have hr : ¬ r1 < 2 := fun z => hA (.inr z)
    obtain ⟨d', rfl⟩ : ∃ k, d = k + 1 := ⟨d - 1, by omega⟩
    have hdi : (((d' + 1 : Nat) : Int) == 0) = false := by rw [beq_eq_false_iff_ne]; omega
    have hds : ((d' + 1 : Nat) : Int) - 1 = (d' : Int) := by omega
    generalize ((d' + 1 : Nat) : Int) = i at hdi hds ⊢
    by_cases h2 : r1 = 2
    · subst h2
      obtain ⟨f, o2, hf, ho2, e2⟩ := ih d' rfl o1 [o1] ho1 rfl
      rw [List.set_cons_zero] at e2
      refine ⟨.not f, o2, by simp only [ht]; omega, ho2, ?_⟩
      simp [runP, startE, ↓Res.bind, ↓evSs, ↓evS, ↓evE, ↓evEs, ↓evEo, ↓evPs, ↓evI, ↓evG, ↓evGs, ↓evT, ↓compL, ↓forL, turn, wipe, ↓ixD, atI, ixN, getD', ↓cmpD, cmpD.memD, ↓eqD, shal, dep, boolR, truth, eqv, pur, purs, parEnv, binD, augD, biD, meD, meOk, slD, cut, sIx, setD, addL, addK, items, alloc, big, flat, inD, word, small, B_law_formula, e1, hdi, hds, e2, enc]
    · have h2' : (r1 == 2) = false := by simpa using h2
      obtain ⟨r2, o2, a2, b2, ho2, e2⟩ := roll_D n 3 (by decide) (by decide) ho1 0 [o1, .lst [.str [97, 110, 100], .str [111, 114], .str [120, 111, 114]]] rfl
      rw [List.set_cons_zero] at e2
      obtain ⟨f, o3, hf, ho3, e3⟩ := ih d' rfl o2 [o2, .lst [.str [97, 110, 100], .str [111, 114], .str [120, 111, 114]]] ho2 rfl
      rw [List.set_cons_zero] at e3
      obtain ⟨g, o4, hg, ho4, e4⟩ := ih d' rfl o3 [o3, .lst [.str [97, 110, 100], .str [111, 114], .str [120, 111, 114]]] ho3 rfl
      rw [List.set_cons_zero] at e4
      have hm : ∀ o, ht (.bin o f g) ≤ d' + 1 := fun o => by simp only [ht]; omega
      have : r2 = 0 ∨ r2 = 1 ∨ r2 = 2 := by omega
      rcases this with rfl | rfl | rfl
      · exact ⟨.bin .and f g, o4, hm _, ho4, by simp [runP, startE, ↓Res.bind, ↓evSs, ↓evS, ↓evE, ↓evEs, ↓evEo, ↓evPs, ↓evI, ↓evG, ↓evGs, ↓evT, ↓compL, ↓forL, turn, wipe, ↓ixD, atI, ixN, getD', ↓cmpD, cmpD.memD, ↓eqD, shal, dep, boolR, truth, eqv, pur, purs, parEnv, binD, augD, biD, meD, meOk, slD, cut, sIx, setD, addL, addK, items, alloc, big, flat, inD, word, small, B_law_formula, e1, hdi, hds, e2, e3, e4, enc, h2', hr, Op.s]⟩
      · exact ⟨.bin .or f g, o4, hm _, ho4, by simp [runP, startE, ↓Res.bind, ↓evSs, ↓evS, ↓evE, ↓evEs, ↓evEo, ↓evPs, ↓evI, ↓evG, ↓evGs, ↓evT, ↓compL, ↓forL, turn, wipe, ↓ixD, atI, ixN, getD', ↓cmpD, cmpD.memD, ↓eqD, shal, dep, boolR, truth, eqv, pur, purs, parEnv, binD, augD, biD, meD, meOk, slD, cut, sIx, setD, addL, addK, items, alloc, big, flat, inD, word, small, B_law_formula, e1, hdi, hds, e2, e3, e4, enc, h2', hr, Op.s]⟩
      · exact ⟨.bin .xor f g, o4, hm _, ho4, by simp [runP, startE, ↓Res.bind, ↓evSs, ↓evS, ↓evE, ↓evEs, ↓evEo, ↓evPs, ↓evI, ↓evG, ↓evGs, ↓evT, ↓compL, ↓forL, turn, wipe, ↓ixD, atI, ixN, getD', ↓cmpD, cmpD.memD, ↓eqD, shal, dep, boolR, truth, eqv, pur, purs, parEnv, binD, augD, biD, meD, meOk, slD, cut, sIx, setD, addL, addK, items, alloc, big, flat, inD, word, small, B_law_formula, e1, hdi, hds, e2, e3, e4, enc, h2', hr, Op.s]⟩
theorem formula_ev : ∀ (d n : Nat), d < n → ∀ (o : MO) (p : Nat) (S : Sto), Dice o → S[p]? = some o → ∃ f o', ht f ≤ d ∧ Dice o' ∧ callSem P (n + 1) 13 [.ref p, .int (d : Int)] S = .ok (enc f) (S.set p o')
  | d, 0, h, _, _, _, _, _ => by omega
  | d, n + 1, h, o, p, S, ho, hS => by
    obtain ⟨f, o', h1, h2, env, X, h3⟩ := formula_run n d ho fun d' e o S ho hS => formula_ev d' n (by omega) o 0 S ho hS
    exact ⟨f, o', h1, h2, call_rp (P := P) (f := 13) (d := ⟨2, 3, B_law_formula⟩) rfl rfl rfl hS ho.pur h3 (enc_pur f) h2.pur⟩
end K06
end
section
namespace Ev
/-- a comprehension that makes a new object each turn -/
theorem compL_new {v : ItV} {ds : List D} {g : D → Sto → Option (Env × Sto)} {t : Env → Sto → TRes} {b : Env → Sto → Option Sto} {S : Sto} {Good : MO → Prop}
    (hv : ∀ i acc G, turn v i (S ++ .lst acc :: G) = some ds[i]?)
    (hb : ∀ d ∈ ds, ∀ acc G, ∃ env1 o, g d (S ++ .lst acc :: G) = some (env1, S ++ .lst acc :: G) ∧ t env1 (S ++ .lst acc :: G) = .ok true (S ++ .lst acc :: G) ∧ Good o ∧
      b env1 (S ++ .lst acc :: G) = addL S.length (.ref (S.length + 1 + G.length)) (S ++ .lst acc :: (G ++ [o]))) :
    ∀ (n i : Nat) (acc : List D) (G : Sto), ds.length - i < n → acc.length + (ds.length - i) ≤ big → ∃ (ps : List Nat) (G' : Sto), compL v g t b n i (S ++ .lst acc :: G) = some (S ++ .lst (acc ++ ps.map .ref) :: (G ++ G')) ∧ ps.length = ds.length - i ∧
      ∀ q ∈ ps, S.length < q ∧ ∃ o, (S ++ .lst (acc ++ ps.map .ref) :: (G ++ G'))[q]? = some o ∧ Good o
  | 0, _, _, _, hn, _ => by omega
  | n + 1, i, acc, G, hn, hz => by
    unfold compL
    rw [hv]
    cases e : ds[i]? with
    | none =>
      have : ds.length ≤ i := List.getElem?_eq_none_iff.mp e
      exact ⟨[], [], by simp, by simp; omega, by simp⟩
    | some d =>
      have hi := (List.getElem?_eq_some_iff.mp e).1
      obtain ⟨env1, o, h1, h2, h3, h4⟩ := hb d (List.mem_of_getElem? e) acc G
      have ha : addL S.length (.ref (S.length + 1 + G.length)) (S ++ .lst acc :: (G ++ [o])) = some (S ++ .lst (acc ++ [.ref (S.length + 1 + G.length)]) :: (G ++ [o])) := by
        unfold addL
        rw [List.getElem?_append_right (Nat.le_refl _)]
        simp only [Nat.sub_self, List.getElem?_cons_zero]
        rw [if_pos (by omega), List.set_append_right _ _ (Nat.le_refl _)]
        simp
      simp only [h1, h2, h4, ha]
      obtain ⟨ps, G', h5, h6, h7⟩ := compL_new hv hb n (i + 1) (acc ++ [.ref (S.length + 1 + G.length)]) (G ++ [o]) (by omega) (by simp; omega)
      refine ⟨(S.length + 1 + G.length) :: ps, o :: G', ?_, by simp [h6]; omega, fun q hq => ?_⟩
      · rw [h5]; simp
      · rcases List.mem_cons.mp hq with rfl | hq
        · refine ⟨by omega, o, ?_, h3⟩
          rw [List.getElem?_append_right (by omega)]
          rw [show S.length + 1 + G.length - S.length = G.length + 1 by omega, List.getElem?_cons_succ, List.getElem?_append_right (Nat.le_refl _)]
          simp
        · obtain ⟨k1, o', k2, k3⟩ := h7 q hq
          refine ⟨k1, o', ?_, k3⟩
          have : S ++ MO.lst (acc ++ List.map D.ref ((S.length + 1 + G.length) :: ps)) :: (G ++ o :: G') = S ++ MO.lst (acc ++ [D.ref (S.length + 1 + G.length)] ++ List.map D.ref ps) :: (G ++ [o] ++ G') := by simp
          rw [this]; exact k2
/-- a call that makes objects that name one another -/
theorem call_new {P : List Def} {n f : Nat} {d : Def} {args : List D} {S S1 : Sto} {env : Env} {j : Nat} {o : MO} (hP : P[f]? = some d) (hl : args.length = d.np) (hp : purs args = true)
    (hr : evSs (callSem P n) d.body (startE d args) [] = .ok (.rt (.ref j)) env S1) (hj : S1[j]? = some o) (ho : purO o = false) : callSem P (n + 1) f args S = .ok (.ref (S.length + j)) (S ++ S1.map (renO fun k => S.length + k)) := by
  simp [callSem, hP, callD, hl, argsIn_pure hp, objsIn, hr, leave, pur, hj, ho, back, ren]
theorem get_ren {S S1 : Sto} {f : Nat → Nat} {q : Nat} : (S ++ S1.map (renO f))[S.length + q]? = S1[q]?.map (renO f) := by
  rw [List.getElem?_append_right (by omega), Nat.add_sub_cancel_left, List.getElem?_map]
theorem rens_refs (f : Nat → Nat) : ∀ ps : List Nat, rens f (ps.map .ref) = (ps.map f).map .ref
  | [] => rfl
  | p :: ps => by simp [rens, ren, rens_refs f ps]
theorem deps_ints : ∀ l : List Int, deps (l.map .int) = some 0
  | [] => rfl
  | i :: l => by simp [deps, dep, deps_ints l]
theorem pur_ints : ∀ l : List Int, purs (l.map .int) = true
  | [] => rfl
  | i :: l => by simp [purs, pur, pur_ints l]
theorem eqv_nil (l : List D) : eqvs l [] = l.isEmpty := by cases l <;> rfl
end Ev
end
section
set_option maxRecDepth 100000
namespace K06
open Ev
theorem rounds_lc (n : Nat) (cells : List Int) (hc : cells.length < 1000) (c : Nat) (S : Sto) (x y : Option D) (hS : items S c = some (cells.map .int)) :
    ∃ (ps : List Nat) (G : Sto), evE (callSem P (n + 1)) (.lc [3] (.var 3) (.val (.var 2)) (.nil) (.call 10 (.cons (.var 3) (.nil)))) [x, y, some (.ref c), none] S = .ok (.ref S.length) (S ++ .lst (ps.map .ref) :: G) ∧ ps.length = cells.length ∧
      ∀ q ∈ ps, S.length < q ∧ ∃ o, (S ++ .lst (ps.map .ref) :: G)[q]? = some o ∧ Dice o := by
  have hi : evI (callSem P (n + 1)) (.val (.var 2)) [x, y, some (.ref c), none] S = .ok (.lst c) S := by simp [↓evI, ↓evE, ↓Res.bind, hS]
  obtain ⟨ps, G, h1, h2, h3⟩ := compL_new (v := .lst c) (ds := cells.map .int) (S := S) (Good := Dice) (g := fun d S' => evG (callSem P (n + 1)) (.var 3) d (wipe [x, y, some (.ref c), none] [3]) S') (t := fun env1 S' => evT (callSem P (n + 1)) .nil env1 S')
    (b := lcB (callSem P (n + 1)) (.call 10 (.cons (.var 3) (.nil))) S.length) (fun i acc G => turn_lst hS i _)
    (fun d hd acc G => by
      obtain ⟨i, _, rfl⟩ := List.mem_map.mp hd
      obtain ⟨v, cc, m, e⟩ := dice_ev n i
      refine ⟨[x, y, some (.ref c), some (.int i)], _, rfl, rfl, ⟨v, cc, m, rfl⟩, ?_⟩
      simp [lcB, ↓evE, ↓evEs, ↓Res.bind, e, Nat.add_assoc, Nat.add_comm 1])
    fuel 0 [] [] (by simp [fuel]; omega) (by simp [big]; omega)
  simp only [List.nil_append, List.length_map, Nat.sub_zero] at h1 h2 h3
  exact ⟨ps, G, evE_lc hi h1, h2, h3⟩
theorem rounds_ev (n : Nat) (ns : List Int) (S : Sto) : ∃ (p : Nat) (X : Sto) (ps : List Nat), callSem P (n + 2) 12 [.fl (ns.map .int), .int 4] S = .ok (.ref p) (S ++ X) ∧ items (S ++ X) p = some (ps.map .ref) ∧ ps.length ≤ 4 ∧ S.length ≤ p ∧
    ∀ q ∈ ps, S.length ≤ q ∧ q ≠ p ∧ ∃ o, (S ++ X)[q]? = some o ∧ Dice o := by
  have key : ∃ (j : Nat) (S1 : Sto) (ps : List Nat) (env : Ev.Env), evSs (callSem P (n + 1)) B_law_rounds (startE ⟨2, 4, B_law_rounds⟩ [.fl (ns.map .int), .int 4]) [] = .ok (.rt (.ref j)) env S1 ∧ S1[j]? = some (.lst (ps.map .ref)) ∧ 1 ≤ ps.length ∧ ps.length ≤ 4 ∧
      ∀ q ∈ ps, j < q ∧ ∃ o, S1[q]? = some o ∧ Dice o := by
    have hs : ∀ S, slD (.fl (ns.map .int)) none (some 4) S = .ok (.ref S.length) (S ++ [.lst ((ns.take 4).map .int)]) := fun S => by
      show alloc (.lst (cut _ none (some ((4 : Nat) : Int)))) S = _
      rw [cut_take, List.map_take]; rfl
    have he : ∀ S : Sto, items S 0 = some ((ns.take 4).map .int) → items S 1 = some [] → eqD S (.ref 0) (.ref 1) = some (ns.take 4).isEmpty := fun S h0 h1 => by
      have : ((ns.take 4).map D.int).isEmpty = (ns.take 4).isEmpty := by cases ns.take 4 <;> rfl
      simp only [eqD, h0, h1, deps_ints, shal, deps, eqv_nil, this]
      rfl
    cases hn : (ns.take 4).isEmpty with
    | true =>
      have hnil : ns.take 4 = [] := List.isEmpty_iff.mp hn
      obtain ⟨ps, G, h1, h2, h3⟩ := rounds_lc n [0] (by decide) 2 [.lst [], .lst [], .lst [.int 0]] (some (.fl (ns.map .int))) (some (.int 4)) rfl
      refine ⟨3, _, ps, ?_, ?_, ?_, by rw [h2]; decide, by rw [h2]; decide, fun q hq => h3 q hq⟩
      · exact [some (.fl (ns.map .int)), some (.int 4), some (.ref 2), none]
      · have he' := he [.lst [], .lst []] (by rw [hnil]; rfl) rfl
        rw [hn] at he'
        rw [hnil] at hs
        simp [B_law_rounds, startE, ↓evSs, ↓evS, ↓h1, ↓evE, ↓evEs, ↓evEo, ↓evG, ↓Res.bind, ↓hs, alloc, ↓cmpD, ↓he', boolR, truth, big]
      · rfl
    | false =>
      have hl : (ns.take 4).length ≤ 4 := by simp; omega
      have hp : 1 ≤ (ns.take 4).length := by
        cases h : ns.take 4 with
        | nil => rw [h] at hn; cases hn
        | cons => simp
      obtain ⟨ps, G, h1, h2, h3⟩ := rounds_lc n (ns.take 4) (by omega) 0 [.lst ((ns.take 4).map .int), .lst []] (some (.fl (ns.map .int))) (some (.int 4)) rfl
      refine ⟨2, _, ps, ?_, ?_, ?_, by omega, by omega, fun q hq => h3 q hq⟩
      · exact [some (.fl (ns.map .int)), some (.int 4), some (.ref 0), none]
      · have he' := he [.lst ((ns.take 4).map .int), .lst []] rfl rfl
        rw [hn] at he'
        simp only [B_law_rounds, startE, List.map_cons, List.map_nil]
        simp [↓evSs, ↓evS, ↓h1, ↓evE, ↓evEs, ↓evEo, ↓evG, ↓Res.bind, ↓hs, alloc, ↓cmpD, ↓he', boolR, truth, big, -List.map_take]
      · rfl
  obtain ⟨j, S1, ps, env, e, hj, l1, l2, hq⟩ := key
  have hnp : purO (.lst (ps.map D.ref)) = false := by
    cases ps with
    | nil => simp at l1
    | cons => rfl
  refine ⟨S.length + j, S1.map (renO fun k => S.length + k), ps.map fun k => S.length + k, call_new (d := ⟨2, 4, B_law_rounds⟩) rfl rfl (by simp [purs, pur, pur_ints]) e hj hnp, ?_, by simpa using l2, by omega, fun q hm => ?_⟩
  · unfold items
    rw [get_ren, hj]
    simp [renO, rens_refs]
  · obtain ⟨k, hk, rfl⟩ := List.mem_map.mp hm
    obtain ⟨k1, o, k2, v, c, m, rfl⟩ := hq k hk
    exact ⟨by omega, by omega, _, by rw [get_ren, k2]; rfl, v, c, m, rfl⟩
end K06
end
section
set_option maxRecDepth 100000
namespace K06
open Ev
theorem sq {C : CallS} {s : IS} {ss : ISs} {env env1 : Ev.Env} {S S1 : Sto} (h : evS C s env S = .ok .nx env1 S1) : evSs C (.cons s ss) env S = evSs C ss env1 S1 := by rw [evSs, h]
theorem ite_no {C : CallS} {c : IE} {a : ISs} {env : Ev.Env} {S S1 : Sto} (h : evE C c env S = .ok (.bl false) S1) : evS C (.ite c a .nil) env S = .ok .nx env S1 := by
  rw [evS, h]; simp only [truth, evSs]
theorem asg_v {C : CallS} {i : Nat} {e : IE} {env : Ev.Env} {S S1 : Sto} {d : D} (h : evE C e env S = .ok d S1) : evS C (.asg (.var i) e) env S = .ok .nx (env.set i (some d)) S1 := by
  rw [evS, h]; simp only [evG]

/-! ### semantics of put, kinds -/
theorem put_sem (r : Row) (g : F) : ∀ f, ev r (putF g f) = ev (fun c => if c = .b then ev r g else r c) f
  | .var c => by cases c <;> simp [putF, ev]
  | .con b => rfl
  | .not f => by simp [putF, ev, put_sem r g f]
  | .bin o f f' => by simp [putF, ev, put_sem r g f, put_sem r g f']
theorem put_ht (g : F) : ∀ f, ht (putF g f) ≤ ht f + ht g
  | .var c => by simp only [putF]; split <;> simp [ht]
  | .con b => by simp [putF, ht]
  | .not f => by have := put_ht g f; simp only [putF, ht]; omega
  | .bin o f f' => by have := put_ht g f; have := put_ht g f'; simp only [putF, ht]; omega
abbrev kNN : List Nat := [110, 111, 116, 32, 110, 111, 116]
abbrev kNC : List Nat := [110, 111, 116, 32, 99, 111, 110, 115, 116]
abbrev kC : List Nat := [99, 111, 110, 115, 116]
abbrev kNV : List Nat := [110, 111, 116, 32, 118, 97, 114]
theorem kinds_nf1 : ∀ f, nf1 f → ∀ k ∈ kinds f, k ≠ kNN ∧ k ≠ kNC ∧ k ≠ kC
  | .var c, _, k, hk => by simp [kinds] at hk; subst hk; decide
  | .con b, h, _, _ => h.elim
  | .not f, h, k, hk => by
    simp only [kinds, List.mem_cons] at hk
    rcases hk with rfl | hk
    · cases f with
      | con b => exact h.1.elim
      | not g => exact absurd rfl (h.2 g)
      | var c => simp [hd]
      | bin o f g => cases o <;> simp [hd, Op.s]
    · exact kinds_nf1 f h.1 k hk
  | .bin o f g, h, k, hk => by
    simp only [kinds, List.mem_cons, List.mem_append] at hk
    rcases hk with rfl | hk | hk
    · cases o <;> decide
    · exact kinds_nf1 f h.1 k hk
    · exact kinds_nf1 g h.2.1 k hk
def okK : List (List Nat) := [[99, 111, 110, 115, 116], [118, 97, 114], [97, 110, 100], [111, 114], kNV]
theorem kinds_inw : ∀ (f : F) (fl : Bool), ∀ k ∈ kinds (inw f fl), k ∈ okK
  | .con b, fl, k, hk => by simp [inw, kinds] at hk; subst hk; decide
  | .var c, fl, k, hk => by
    cases fl <;> simp [inw, kinds, hd] at hk
    · subst hk; decide
    · rcases hk with rfl | rfl <;> decide
  | .not f, fl, k, hk => kinds_inw f (!fl) k hk
  | .bin .xor f g, fl, k, hk => by
    simp only [inw, kinds, List.mem_cons, List.mem_append] at hk
    rcases hk with rfl | ((rfl | hk | hk) | (rfl | hk | hk))
    · decide
    · decide
    · exact kinds_inw f _ k hk
    · exact kinds_inw g _ k hk
    · decide
    · exact kinds_inw f _ k hk
    · exact kinds_inw g _ k hk
  | .bin .and f g, fl, k, hk => by
    simp only [inw, kinds, List.mem_cons, List.mem_append] at hk
    rcases hk with rfl | hk | hk
    · cases fl <;> decide
    · exact kinds_inw f _ k hk
    · exact kinds_inw g _ k hk
  | .bin .or f g, fl, k, hk => by
    simp only [inw, kinds, List.mem_cons, List.mem_append] at hk
    rcases hk with rfl | hk | hk
    · cases fl <;> decide
    · exact kinds_inw f _ k hk
    · exact kinds_inw g _ k hk
theorem inD_k (s : List Nat) (f : F) : inD (.str s) (kD f) = decide (s ∈ kinds f) := by
  unfold kD
  induction kinds f with
  | nil => rfl
  | cons a l ih =>
    simp only [inD, List.map_cons, List.any_cons, eqv_str] at ih ⊢
    rw [ih]
    by_cases h : a = s
    · subst h; simp
    · have h' : s ≠ a := fun e => h e.symm
      simp [h, h']
theorem flat_k (f : F) : (kD f).all flat = true := by
  unfold kD
  induction kinds f with
  | nil => rfl
  | cons a l ih => simpa [flat] using ih

/-! ### the rows -/
def bitsL (f : F) : List D := (List.range 8).map fun k => bit (ev (rr k) f)
def dec (d : D) : Row := match d with
  | .tup [.int a, .int b, .int c] => fun x => match x with | .a => a == 1 | .b => b == 1 | .c => c == 1
  | _ => fun _ => false
theorem b2i_one (b : Bool) : (b2i b == 1) = b := by cases b <;> rfl
theorem dec_row (r : Row) : dec (rowD r) = r := by funext x; cases x <;> exact b2i_one _
theorem bits_lc (n : Nat) (f : F) (hf : ht f < n) (i : Nat) (hi : i ≠ 5) (env : Ev.Env) (S : Sto) (pr : Nat) (h1 : env[1]? = some (some (.ref pr))) (hi' : env[i]? = some (some (enc f))) (h5 : 5 < env.length) (hr : items S pr = some rowsL) :
    evE (callSem P n) (.lc [5] (.var 5) (.val (.var 1)) .nil (.call 14 (.cons (.var i) (.cons (.var 5) .nil)))) env S = .ok (.ref S.length) (S ++ [.lst (bitsL f)]) := by
  have hiI : evI (callSem P n) (.val (.var 1)) env S = .ok (.lst pr) S := by simp [↓evI, ↓evE, ↓Res.bind, h1, hr]
  have key := lc_lst (vs := [5]) (g := .var 5) (ifs := .nil) (e := .call 14 (.cons (.var i) (.cons (.var 5) .nil))) (ds := rowsL) (p := fun _ => true) (h := fun d => bit (ev (dec d) f)) hiI (fun i acc => turn_lst hr i _) (by decide)
    (fun d hd acc => by
      obtain ⟨k, hk, rfl⟩ := List.mem_map.mp hd
      refine ⟨((wipe env [5]).set 5 (some (rowD (rr k)))), by simp only [evG], rfl, fun _ => ?_⟩
      have e1 : ((env.set 5 none).set 5 (some (rowD (rr k))))[i]? = some (some (enc f)) := by rw [List.getElem?_set_ne (Ne.symm hi), List.getElem?_set_ne (Ne.symm hi)]; exact hi'
      have e5 : ((env.set 5 none).set 5 (some (rowD (rr k))))[5]? = some (some (rowD (rr k))) := by rw [List.getElem?_set_self (by simpa using h5)]
      simp only [wipe, ↓evE, ↓evEs, ↓Res.bind, e1, e5, bit_ev (rr k) n f _ hf, dec_row])
  rw [key, List.filter_eq_self.mpr (fun _ _ => rfl)]
  simp only [rowsL, bitsL, List.map_map]
  congr 4
theorem deps_bits (f : F) : deps (bitsL f) = some 0 := dep_bits fun d hd => by
  obtain ⟨k, _, rfl⟩ := List.mem_map.mp hd
  exact ⟨_, rfl⟩
/-- two lists of bits compared -/
theorem bits_eq (f g : F) (S : Sto) (p q : Nat) (hp : items S p = some (bitsL f)) (hq : items S q = some (bitsL g)) : ∃ b, eqD S (.ref p) (.ref q) = some b ∧ (b = true ↔ ∀ r : Row, ev r f = ev r g) := by
  refine ⟨decide (∀ k ∈ List.range 8, ev (rr k) f = ev (rr k) g), ?_, ?_⟩
  · simp only [eqD, hp, hq, deps_bits, shal]
    rw [if_pos (by decide)]
    congr 1
    exact bits_eqv _ _ _
  · rw [decide_eq_true_eq]
    exact same_iff f g true true true ⟨fun _ => rfl, fun _ => rfl, fun _ => rfl⟩ ⟨fun _ => rfl, fun _ => rfl, fun _ => rfl⟩
theorem bits_eq' (f g : F) (h : ∀ r : Row, ev r f = ev r g) (S : Sto) (p q : Nat) (hp : items S p = some (bitsL f)) (hq : items S q = some (bitsL g)) : eqD S (.ref p) (.ref q) = some true := by
  obtain ⟨b, e, hb⟩ := bits_eq f g S p q hp hq
  rw [e, hb.mpr h]
end K06
end
section
set_option maxRecDepth 100000
namespace K06
open Ev
section
variable (n : Nat) (hn : 20 ≤ n) (x0 : Option D) (pr q : Nat)
/-- the names of the law's body -/
abbrev en (x0 : Option D) (pr q : Nat) (x3 x4 x5 x6 x7 x8 x9 x10 x11 x12 x13 : Option D) : Ev.Env := [x0, some (.ref pr), some (.ref q), x3, x4, x5, x6, x7, x8, x9, x10, x11, x12, x13]
theorem st1 (hn : 20 ≤ n) (x3 x4 x5 x6 x7 x8 x9 x10 x11 x12 x13 : Option D) (S : Sto) (o : MO) (ho : Dice o) (hS : S[q]? = some o) : ∃ f g o', ht f ≤ 3 ∧ ht g ≤ 3 ∧ Dice o' ∧
    evS (callSem P n) (.asg (.tup (.cons (.var 3) (.cons (.var 4) (.nil)))) (.tup (.cons (.call 13 (.cons (.var 2) (.cons (.int (3)) (.nil)))) (.cons (.call 13 (.cons (.var 2) (.cons (.int (3)) (.nil)))) (.nil))))) (en x0 pr q x3 x4 x5 x6 x7 x8 x9 x10 x11 x12 x13) S
      = .ok .nx (en x0 pr q (some (enc f)) (some (enc g)) x5 x6 x7 x8 x9 x10 x11 x12 x13) (S.set q o') := by
  obtain ⟨m, rfl⟩ : ∃ m, n = m + 1 := ⟨n - 1, by omega⟩
  obtain ⟨f, o1, hf, ho1, e1⟩ := formula_ev 3 m (by omega) o q S ho hS
  have hq : q < S.length := lt_of_some hS
  obtain ⟨g, o2, hg, ho2, e2⟩ := formula_ev 3 m (by omega) o1 q (S.set q o1) ho1 (by rw [List.getElem?_set_self hq])
  rw [List.set_set] at e2
  have e1 : callSem P (m + 1) 13 [.ref q, .int 3] S = _ := e1
  have e2 : callSem P (m + 1) 13 [.ref q, .int 3] (S.set q o1) = _ := e2
  refine ⟨f, g, o2, hf, hg, ho2, ?_⟩
  simp [↓evS, ↓evE, ↓evEs, ↓Res.bind, e1, e2, big, ↓evG, ↓evGs]
theorem st4 (hn : 20 ≤ n) (f g : F) (hf : ht f ≤ 3) (hg : ht g ≤ 3) (x5 x6 x8 x9 x10 x11 x12 x13 : Option D) (S : Sto) (hr : items S pr = some rowsL) : ∃ y5,
    evS (callSem P n) (.fori (.var 5) (.val (.var 1)) Blaw_L0) (en x0 pr q (some (enc f)) (some (enc g)) x5 x6 (some (enc (putF g f))) x8 x9 x10 x11 x12 x13) S
      = .ok .nx (en x0 pr q (some (enc f)) (some (enc g)) y5 x6 (some (enc (putF g f))) x8 x9 x10 x11 x12 x13) S := by
  have hi : evI (callSem P n) (.val (.var 1)) (en x0 pr q (some (enc f)) (some (enc g)) x5 x6 (some (enc (putF g f))) x8 x9 x10 x11 x12 x13) S = .ok (.lst pr) S := by simp [↓evI, ↓evE, ↓Res.bind, hr]
  rw [evS, hi]
  obtain ⟨env', S', h1, h2, y5, h3⟩ := forL_inv (v := .lst pr) (ds := rowsL) (g := fun d env' S' => match evG (callSem P n) (.var 5) d env' S' with | some (env2, S2) => .ok .nx env2 S2 | none => .bad) (b := fun env' S' => evSs (callSem P n) Blaw_L0 env' S')
    (fun _ env' S' => S' = S ∧ ∃ y, env' = en x0 pr q (some (enc f)) (some (enc g)) y x6 (some (enc (putF g f))) x8 x9 x10 x11 x12 x13)
    (fun i env' S' ⟨e, _⟩ => by subst e; simp [turn, hr])
    (fun i d env' S' ⟨e, y, ey⟩ hd => by
      subst e; subst ey
      obtain ⟨k, hk, rfl⟩ := List.mem_map.mp (List.mem_of_getElem? hd)
      have hp := put_ht g f
      have r1 : ∀ S, callSem P n 14 [enc (putF g f), rowD (rr k)] S = .ok (bit (ev (rr k) (putF g f))) S := fun S => bit_ev _ n _ S (by omega)
      have r2 : ∀ S, callSem P n 14 [enc g, rowD (rr k)] S = .ok (bit (ev (rr k) g)) S := fun S => bit_ev _ n _ S (by omega)
      have r3 : ∀ S, callSem P n 14 [enc f, .tup [bit (rr k .a), bit (ev (rr k) g), bit (rr k .c)]] S = .ok (bit (ev (rr k) (putF g f))) S := fun S => by
        rw [put_sem]
        exact bit_ev (fun c => if c = .b then ev (rr k) g else rr k c) n f S (by omega)
      have i0 : ∀ S, ixD (rowD (rr k)) (.int 0) S = .ok (bit (rr k .a)) S := fun _ => rfl
      have i2 : ∀ S, ixD (rowD (rr k)) (.int 2) S = .ok (bit (rr k .c)) S := fun _ => rfl
      have eb : ∀ b S, eqD S (bit b) (bit b) = some true := fun b S => by cases b <;> rfl
      refine ⟨en x0 pr q (some (enc f)) (some (enc g)) (some (rowD (rr k))) x6 (some (enc (putF g f))) x8 x9 x10 x11 x12 x13, S', en x0 pr q (some (enc f)) (some (enc g)) (some (rowD (rr k))) x6 (some (enc (putF g f))) x8 x9 x10 x11 x12 x13, S', by simp [evG], .inl ?_, rfl, _, rfl⟩
      simp [Blaw_L0, ↓evSs, ↓evS, ↓evE, ↓evEs, ↓Res.bind, r1, r2, r3, i0, i2, big, ↓cmpD, eb, boolR, truth])
    fuel 0 _ S (by simp [fuel, rowsL]) (Nat.zero_le _) ⟨rfl, x5, rfl⟩
  subst h2; subst h3
  exact ⟨y5, h1⟩
end
end K06
end
section
set_option maxRecDepth 100000
namespace K06
open Ev
section
variable (n : Nat) (x0 : Option D) (pr q : Nat)
/-- [bits of slot i] is the list at slot 6 -/
theorem st6 (hn : 20 ≤ n) (f g : F) (hf : ht f < n) (a : Nat) (x3 x4 x5 x7 x9 x10 x11 x12 x13 : Option D) (S : Sto) (hr : items S pr = some rowsL) (ha : items S a = some (bitsL g)) (h : ∀ r : Row, ev r f = ev r g) :
    evS (callSem P n) (.ite (.cmp .ne (.lc [5] (.var 5) (.val (.var 1)) (.nil) (.call 14 (.cons (.var 8) (.cons (.var 5) (.nil))))) (.var 6)) (.cons (.ret (.bl false)) (.nil)) (.nil)) (en x0 pr q x3 x4 x5 (some (.ref a)) x7 (some (enc f)) x9 x10 x11 x12 x13) S
      = .ok .nx (en x0 pr q x3 x4 x5 (some (.ref a)) x7 (some (enc f)) x9 x10 x11 x12 x13) (S ++ [.lst (bitsL f)]) := by
  have e1 := bits_lc n f hf 8 (by decide) (en x0 pr q x3 x4 x5 (some (.ref a)) x7 (some (enc f)) x9 x10 x11 x12 x13) S pr rfl rfl (by simp) hr
  have e2 := bits_eq' f g h (S ++ [.lst (bitsL f)]) S.length a (items_new _ _) (items_app ha)
  exact ite_no (by simp [↓evE, ↓Res.bind, ↓e1, ↓cmpD, e2, boolR])
theorem st8 (p : F) (hp : nf p) (c : Nat) (x3 x4 x5 x6 x7 x10 x11 x12 x13 : Option D) (S : Sto) (hc : items S c = some (kD p)) :
    evS (callSem P n) (.ite (.ior (.cmp .isin (.str [110, 111, 116, 32, 110, 111, 116]) (.var 9)) (.ior (.cmp .isin (.str [110, 111, 116, 32, 99, 111, 110, 115, 116]) (.var 9)) (.iand (.cmp .isin (.str [99, 111, 110, 115, 116]) (.var 9)) (.cmp .ne (.ix (.var 8) (.int (0))) (.str [99, 111, 110, 115, 116]))))) (.cons (.ret (.bl false)) (.nil)) (.nil))
      (en x0 pr q x3 x4 x5 x6 x7 (some (enc p)) (some (.ref c)) x10 x11 x12 x13) S = .ok .nx (en x0 pr q x3 x4 x5 x6 x7 (some (enc p)) (some (.ref c)) x10 x11 x12 x13) S := by
  have mem : ∀ s, cmpD.memD (.str s) (.ref c) S = some (decide (s ∈ kinds p)) := fun s => by
    simp only [cmpD.memD, hc, flat_k, flat, Bool.and_self, if_true, inD_k]
  refine ite_no ?_
  cases p with
  | con b =>
    have k1 : kNN ∉ kinds (.con b) := by simp [kinds]
    have k2 : kNC ∉ kinds (.con b) := by simp [kinds]
    have k3 : ([99, 111, 110, 115, 116] : List Nat) ∈ kinds (.con b) := by simp [kinds]
    simp [↓evE, ↓Res.bind, ↓cmpD, mem, k1, k2, k3, boolR, truth, hd_ix, hd, eqD_const]
  | var c => 
    have k := kinds_nf1 _ (show nf1 (.var c) from hp)
    have k1 : kNN ∉ kinds (.var c) := fun h => (k _ h).1 rfl
    have k2 : kNC ∉ kinds (.var c) := fun h => (k _ h).2.1 rfl
    have k3 : kC ∉ kinds (.var c) := fun h => (k _ h).2.2 rfl
    simp [↓evE, ↓Res.bind, ↓cmpD, mem, k1, k2, k3, boolR, truth]
  | not f => 
    have k := kinds_nf1 _ (show nf1 (.not f) from hp)
    have k1 : kNN ∉ kinds (.not f) := fun h => (k _ h).1 rfl
    have k2 : kNC ∉ kinds (.not f) := fun h => (k _ h).2.1 rfl
    have k3 : kC ∉ kinds (.not f) := fun h => (k _ h).2.2 rfl
    simp [↓evE, ↓Res.bind, ↓cmpD, mem, k1, k2, k3, boolR, truth]
  | bin o f g => 
    have k := kinds_nf1 _ (show nf1 (.bin o f g) from hp)
    have k1 : kNN ∉ kinds (.bin o f g) := fun h => (k _ h).1 rfl
    have k2 : kNC ∉ kinds (.bin o f g) := fun h => (k _ h).2.1 rfl
    have k3 : kC ∉ kinds (.bin o f g) := fun h => (k _ h).2.2 rfl
    simp [↓evE, ↓Res.bind, ↓cmpD, mem, k1, k2, k3, boolR, truth]
theorem st9 (hn : 20 ≤ n) (p : F) (hp : nf p) (hh : ht p ≤ 3) (x3 x4 x5 x6 x7 x9 x10 x11 x12 x13 : Option D) (S : Sto) :
    evS (callSem P n) (.ite (.cmp .ne (.call 4 (.cons (.var 8) (.nil))) (.var 8)) (.cons (.ret (.bl false)) (.nil)) (.nil)) (en x0 pr q x3 x4 x5 x6 x7 (some (enc p)) x9 x10 x11 x12 x13) S = .ok .nx (en x0 pr q x3 x4 x5 x6 x7 (some (enc p)) x9 x10 x11 x12 x13) S := by
  have e1 := plain_nf n p S hp (by omega) (by omega)
  have e2 := eqD_enc S p p (by omega) (by omega)
  simp only [decide_true] at e2
  exact ite_no (by simp [↓evE, ↓evEs, ↓Res.bind, e1, ↓cmpD, e2, boolR])
theorem st12 (hn : 20 ≤ n) (f : F) (hh : ht f ≤ 3) (x4 x5 x6 x7 x8 x9 x10 x11 x12 x13 : Option D) (S : Sto) :
    evS (callSem P n) (.ite (.call 9 (.cons (.var 3) (.cons (.tup (.cons (.str [110, 111, 116]) (.cons (.var 3) (.nil)))) (.nil)))) (.cons (.ret (.bl false)) (.nil)) (.nil)) (en x0 pr q (some (enc f)) x4 x5 x6 x7 x8 x9 x10 x11 x12 x13) S
      = .ok .nx (en x0 pr q (some (enc f)) x4 x5 x6 x7 x8 x9 x10 x11 x12 x13) S := by
  obtain ⟨b, e, hb⟩ := alike_ev n f (.not f) S (by omega) (by simp only [ht]; omega)
  have hb' : b = false := by
    cases b with
    | false => rfl
    | true =>
      have := hb.mp rfl fun _ => false
      simp [ev] at this
  subst hb'
  have e : callSem P n 9 [enc f, .tup [.str [110, 111, 116], enc f]] S = _ := e
  exact ite_no (by simp [↓evE, ↓evEs, ↓Res.bind, e, big])
theorem st11 (hn : 20 ≤ n) (f g : F) (hf : ht f ≤ 3) (hg : ht g ≤ 3) (a : Nat) (x5 x7 x9 x10 x11 x12 x13 : Option D) (S : Sto) (hr : items S pr = some rowsL) (ha : items S a = some (bitsL f)) :
    ∃ X, evS (callSem P n) (.ite (.ior (.cmp .ne (.call 9 (.cons (.var 3) (.cons (.var 4) (.nil)))) (.cmp .eq (.var 6) (.lc [5] (.var 5) (.val (.var 1)) (.nil) (.call 14 (.cons (.var 4) (.cons (.var 5) (.nil))))))) (.inot (.call 9 (.cons (.var 3) (.cons (.var 8) (.nil)))))) (.cons (.ret (.bl false)) (.nil)) (.nil))
      (en x0 pr q (some (enc f)) (some (enc g)) x5 (some (.ref a)) x7 (some (enc (pl f))) x9 x10 x11 x12 x13) S = .ok .nx (en x0 pr q (some (enc f)) (some (enc g)) x5 (some (.ref a)) x7 (some (enc (pl f))) x9 x10 x11 x12 x13) (S ++ X) := by
  obtain ⟨b, e, hb⟩ := alike_ev n f g S (by omega) (by omega)
  have e1 := bits_lc n g (by omega) 4 (by decide) (en x0 pr q (some (enc f)) (some (enc g)) x5 (some (.ref a)) x7 (some (enc (pl f))) x9 x10 x11 x12 x13) S pr rfl rfl (by simp) hr
  obtain ⟨b2, e2, hb2⟩ := bits_eq f g (S ++ [.lst (bitsL g)]) a S.length (items_app ha) (items_new _ _)
  have hbb : b = b2 := by cases b <;> cases b2 <;> simp_all
  subst hbb
  have hpl := pl_ht f
  obtain ⟨b3, e3, hb3⟩ := alike_ev n f (pl f) (S ++ [.lst (bitsL g)]) (by omega) (by omega)
  have : b3 = true := hb3.mpr fun r => (pl_sem r f).symm
  subst this
  have e4 : eqD (S ++ [.lst (bitsL g)]) (.bl b) (.bl b) = some true := by cases b <;> rfl
  exact ⟨[.lst (bitsL g)], ite_no (by simp [↓evE, ↓evEs, ↓Res.bind, e, ↓e1, ↓cmpD, e2, e3, e4, boolR, truth])⟩
theorem items_cons (S : Sto) (ds : List D) (G : Sto) : items (S ++ .lst ds :: G) S.length = some ds := by unfold items; rw [List.getElem?_append_right (Nat.le_refl _)]; simp
theorem bits_map (f : F) (fl : Bool) : (bitsL f).map (fun d => match d with | .int i => D.int (if fl then 1 - i else i) | d => d) = bitsL (if fl then .not f else f) := by
  unfold bitsL
  rw [List.map_map]
  congr 1
  funext k
  cases fl
  · simp [bit]
  · simp [bit, ev, b_not]
def okD : List D := [.str [99, 111, 110, 115, 116], .str [118, 97, 114], .str [97, 110, 100], .str [111, 114], .str [110, 111, 116, 32, 118, 97, 114]]
theorem inD_ok (k : List Nat) : inD (.str k) okD = decide (k ∈ okK) := by
  simp only [inD, okD, okK, kNV, List.any_cons, List.any_nil, eqv_str, List.mem_cons, List.not_mem_nil, or_false]
  rw [Bool.eq_iff_iff]
  simp only [Bool.or_eq_true, beq_iff_eq, decide_eq_true_eq, Bool.false_eq_true, or_false]
  constructor <;> rintro (h | h | h | h | h) <;> simp [← h]
  all_goals simp_all
theorem L1_ok (hn : 20 ≤ n) (f : F) (hf : ht f ≤ 3) (a : Nat) (fl : Bool) (x4 x5 x7 x8 x9 x11 x12 x13 : Option D) (S : Sto) (hr : items S pr = some rowsL) (ha : items S a = some (bitsL f)) :
    ∃ X, evSs (callSem P n) Blaw_L1 (en x0 pr q (some (enc f)) x4 x5 (some (.ref a)) x7 x8 x9 (some (.bl fl)) x11 x12 x13) S = .ok .nx (en x0 pr q (some (enc f)) x4 x5 (some (.ref a)) x7 x8 x9 (some (.bl fl)) (some (enc (inw f fl))) x12 x13) (S ++ X) := by
  have hh := inw_ht f fl
  have e0 := fun S => inw_ev n f fl S (by omega)
  have e1 := bits_lc n (inw f fl) (by omega) 11 (by decide) (en x0 pr q (some (enc f)) x4 x5 (some (.ref a)) x7 x8 x9 (some (.bl fl)) (some (enc (inw f fl))) x12 x13) S pr rfl rfl (by simp) hr
  -- the table, told otherwise
  have e2 : evE (callSem P n) (.lc [12] (.var 12) (.val (.var 6)) (.nil) (.ife (.var 10) (.bin .sub (.int (1)) (.var 12)) (.var 12))) (en x0 pr q (some (enc f)) x4 x5 (some (.ref a)) x7 x8 x9 (some (.bl fl)) (some (enc (inw f fl))) x12 x13) (S ++ [.lst (bitsL (inw f fl))])
      = .ok (.ref (S.length + 1)) (S ++ [.lst (bitsL (inw f fl)), .lst (bitsL (if fl then .not f else f))]) := by
    have ha' : items (S ++ [.lst (bitsL (inw f fl))]) a = some (bitsL f) := items_app ha
    have key := lc_lst (C := callSem P n) (vs := [12]) (g := .var 12) (it := .val (.var 6)) (ifs := .nil) (e := .ife (.var 10) (.bin .sub (.int (1)) (.var 12)) (.var 12)) (env := en x0 pr q (some (enc f)) x4 x5 (some (.ref a)) x7 x8 x9 (some (.bl fl)) (some (enc (inw f fl))) x12 x13)
      (S := S ++ [.lst (bitsL (inw f fl))]) (S1 := S ++ [.lst (bitsL (inw f fl))]) (v := .lst a) (ds := bitsL f) (p := fun _ => true) (h := fun d => match d with | .int i => D.int (if fl then 1 - i else i) | d => d) (by simp [↓evI, ↓evE, ↓Res.bind, ha']) (fun i acc => turn_lst ha' i _) (by simp [bitsL])
      (fun d hd acc => by
        obtain ⟨k, _, rfl⟩ := List.mem_map.mp hd
        refine ⟨en x0 pr q (some (enc f)) x4 x5 (some (.ref a)) x7 x8 x9 (some (.bl fl)) (some (enc (inw f fl))) (some (bit (ev (rr k) f))) x13, by simp [evG, wipe], rfl, fun _ => ?_⟩
        cases fl <;> simp [↓evE, ↓Res.bind, truth, bit, binD])
    rw [key, List.filter_eq_self.mpr (fun _ _ => rfl), bits_map]
    simp
  have e3 : ∀ r : Row, ev r (inw f fl) = ev r (if fl then .not f else f) := fun r => by rw [inw_sem]; cases fl <;> simp [ev]
  have e4 := bits_eq' (inw f fl) (if fl then .not f else f) e3 (S ++ [.lst (bitsL (inw f fl)), .lst (bitsL (if fl then .not f else f))]) S.length (S.length + 1) (items_cons S _ _) (by unfold items; rw [List.getElem?_append_right (by omega)]; simp)
  -- the kinds
  have s3 : ∀ S, ∃ X, evS (callSem P n) (.ite (.cmp .ne (.lc [13] (.var 13) (.val (.call 16 (.cons (.var 11) (.nil)))) (.cons (.cmp .notin (.var 13) (.lst (.cons (.str [99, 111, 110, 115, 116]) (.cons (.str [118, 97, 114]) (.cons (.str [97, 110, 100]) (.cons (.str [111, 114]) (.cons (.str [110, 111, 116, 32, 118, 97, 114]) (.nil)))))))) (.nil)) (.var 13)) (.lst (.nil))) (.cons (.ret (.bl false)) (.nil)) (.nil))
      (en x0 pr q (some (enc f)) x4 x5 (some (.ref a)) x7 x8 x9 (some (.bl fl)) (some (enc (inw f fl))) x12 x13) S = .ok .nx (en x0 pr q (some (enc f)) x4 x5 (some (.ref a)) x7 x8 x9 (some (.bl fl)) (some (enc (inw f fl))) x12 x13) (S ++ X) := fun S => by
    have k1 := kinds_ev n (inw f fl) S (by omega) (by omega)
    have hi : evI (callSem P n) (.val (.call 16 (.cons (.var 11) (.nil)))) (en x0 pr q (some (enc f)) x4 x5 (some (.ref a)) x7 x8 x9 (some (.bl fl)) (some (enc (inw f fl))) x12 x13) S = .ok (.lst S.length) (S ++ [.lst (kD (inw f fl))]) := by simp [↓evI, ↓evE, ↓evEs, ↓Res.bind, k1, items_new]
    obtain ⟨G, k2⟩ := lc_gar (C := callSem P n) (vs := [13]) (g := .var 13) (ifs := .cons (.cmp .notin (.var 13) (.lst (.cons (.str [99, 111, 110, 115, 116]) (.cons (.str [118, 97, 114]) (.cons (.str [97, 110, 100]) (.cons (.str [111, 114]) (.cons (.str [110, 111, 116, 32, 118, 97, 114]) (.nil)))))))) (.nil)) (e := .var 13)
      (ds := kD (inw f fl)) (p := fun d => !inD d okD) (h := fun d => d) hi (fun i X => turn_lst (items_new _ _) i X) (by
        have := kinds_len (inw f fl)
        have : 2 ^ (ht (inw f fl) + 1) ≤ 2 ^ 8 := Nat.pow_le_pow_right (by omega) (by omega)
        simp only [kD, List.length_map]; omega)
      (fun d hd X => by
        obtain ⟨k, _, rfl⟩ := List.mem_map.mp hd
        refine ⟨en x0 pr q (some (enc f)) x4 x5 (some (.ref a)) x7 x8 x9 (some (.bl fl)) (some (enc (inw f fl))) x12 (some (.str k)), [.lst okD], by simp [evG, wipe], ?_, fun _ => ⟨[], by simp [↓evE]⟩⟩
        have hm : ∀ S : Sto, cmpD .notin (.str k) (.ref S.length) (S ++ [.lst okD]) = some (!inD (.str k) okD) := fun S => by
          simp only [cmpD, cmpD.memD, items_new]
          rfl
        have hl : ∀ (S : Sto), evE (callSem P n) (.lst (.cons (.str [99, 111, 110, 115, 116]) (.cons (.str [118, 97, 114]) (.cons (.str [97, 110, 100]) (.cons (.str [111, 114]) (.cons (.str [110, 111, 116, 32, 118, 97, 114]) (.nil))))))) (en x0 pr q (some (enc f)) x4 x5 (some (.ref a)) x7 x8 x9 (some (.bl fl)) (some (enc (inw f fl))) x12 (some (.str k))) S = .ok (.ref S.length) (S ++ [.lst okD]) := fun S => by simp [↓evE, ↓evEs, ↓Res.bind, big, alloc, okD]
        have hx : ∀ (S : Sto), evE (callSem P n) (.cmp .notin (.var 13) (.lst (.cons (.str [99, 111, 110, 115, 116]) (.cons (.str [118, 97, 114]) (.cons (.str [97, 110, 100]) (.cons (.str [111, 114]) (.cons (.str [110, 111, 116, 32, 118, 97, 114]) (.nil)))))))) (en x0 pr q (some (enc f)) x4 x5 (some (.ref a)) x7 x8 x9 (some (.bl fl)) (some (enc (inw f fl))) x12 (some (.str k))) S = .ok (.bl (!inD (.str k) okD)) (S ++ [.lst okD]) := fun S => by
          rw [evE, show evE (callSem P n) (.var 13) (en x0 pr q (some (enc f)) x4 x5 (some (.ref a)) x7 x8 x9 (some (.bl fl)) (some (enc (inw f fl))) x12 (some (.str k))) S = .ok (.str k) S from rfl, bind_okR, hl, bind_okR, hm]
          rfl
        rw [evT, hx]
        rfl)
    have hnil : (kD (inw f fl)).filter (fun d => !inD d okD) = [] := by
      rw [List.filter_eq_nil_iff]
      intro d hd
      obtain ⟨k, hk, rfl⟩ := List.mem_map.mp hd
      rw [inD_ok]
      simpa using kinds_inw f fl k hk
    rw [hnil] at k2
    refine ⟨.lst (kD (inw f fl)) :: .lst [] :: (G ++ [.lst []]), ite_no ?_⟩
    have k3 : (S ++ [MO.lst (kD (inw f fl))]) ++ MO.lst (List.map (fun d => d) ([] : List D)) :: G = S ++ MO.lst (kD (inw f fl)) :: MO.lst [] :: G := by simp
    have k4 : eqD (S ++ MO.lst (kD (inw f fl)) :: MO.lst [] :: G ++ [.lst []]) (.ref (S.length + 1)) (.ref (S ++ MO.lst (kD (inw f fl)) :: MO.lst [] :: G).length) = some true := by
      have h1 : items (S ++ MO.lst (kD (inw f fl)) :: MO.lst [] :: G ++ [.lst []]) (S.length + 1) = some [] := items_app (by unfold items; rw [List.getElem?_append_right (by omega)]; simp)
      simp only [eqD, h1, items_new]
      rfl
    rw [k3, show (S ++ [MO.lst (kD (inw f fl))]).length = S.length + 1 by simp] at k2
    rw [evE, k2, bind_okR, show evE (callSem P n) (.lst .nil) (en x0 pr q (some (enc f)) x4 x5 (some (.ref a)) x7 x8 x9 (some (.bl fl)) (some (enc (inw f fl))) x12 x13) (S ++ MO.lst (kD (inw f fl)) :: MO.lst [] :: G) = .ok (.ref (S ++ MO.lst (kD (inw f fl)) :: MO.lst [] :: G).length) (S ++ MO.lst (kD (inw f fl)) :: MO.lst [] :: G ++ [.lst []]) from rfl, bind_okR]
    simp only [cmpD, k4, Option.map_some, boolR, Bool.not_true]
    simp
  obtain ⟨X, e5⟩ := s3 (S ++ [.lst (bitsL (inw f fl)), .lst (bitsL (if fl then .not f else f))])
  refine ⟨[.lst (bitsL (inw f fl)), .lst (bitsL (if fl then .not f else f))] ++ X, ?_⟩
  have s1 : evS (callSem P n) (.asg (.var 11) (.call 6 (.cons (.var 3) (.cons (.var 10) (.nil))))) (en x0 pr q (some (enc f)) x4 x5 (some (.ref a)) x7 x8 x9 (some (.bl fl)) x11 x12 x13) S = .ok .nx (en x0 pr q (some (enc f)) x4 x5 (some (.ref a)) x7 x8 x9 (some (.bl fl)) (some (enc (inw f fl))) x12 x13) S := by
    simp [↓evS, ↓evE, ↓evEs, ↓Res.bind, e0, ↓evG]
  unfold Blaw_L1
  rw [sq s1, sq (ite_no (S1 := S ++ [.lst (bitsL (inw f fl)), .lst (bitsL (if fl then .not f else f))]) (by rw [evE, e1, bind_okR, e2, bind_okR]; simp only [cmpD, e4, Option.map_some, boolR, Bool.not_true])), sq e5, evSs]
  simp
theorem st10 (hn : 20 ≤ n) (f : F) (hf : ht f ≤ 3) (a : Nat) (x4 x5 x7 x8 x9 x10 x11 x12 x13 : Option D) (S : Sto) (hr : items S pr = some rowsL) (ha : items S a = some (bitsL f)) :
    ∃ y10 y11 X, evS (callSem P n) (.fori (.var 10) (.val (.lst (.cons (.bl false) (.cons (.bl true) (.nil))))) Blaw_L1) (en x0 pr q (some (enc f)) x4 x5 (some (.ref a)) x7 x8 x9 x10 x11 x12 x13) S
      = .ok .nx (en x0 pr q (some (enc f)) x4 x5 (some (.ref a)) x7 x8 x9 y10 y11 x12 x13) (S ++ X) := by
  have hi : evI (callSem P n) (.val (.lst (.cons (.bl false) (.cons (.bl true) (.nil))))) (en x0 pr q (some (enc f)) x4 x5 (some (.ref a)) x7 x8 x9 x10 x11 x12 x13) S = .ok (.lst S.length) (S ++ [.lst [.bl false, .bl true]]) := by
    simp [↓evI, ↓evE, ↓evEs, ↓Res.bind, big, alloc, items_new]
  rw [evS, hi]
  obtain ⟨env', S', h1, X, h2, y10, y11, h3⟩ := forL_inv (v := .lst S.length) (ds := [.bl false, .bl true]) (g := fun d env' S' => match evG (callSem P n) (.var 10) d env' S' with | some (env2, S2) => .ok .nx env2 S2 | none => .bad) (b := fun env' S' => evSs (callSem P n) Blaw_L1 env' S')
    (fun _ env' S' => ∃ X, S' = S ++ [.lst [.bl false, .bl true]] ++ X ∧ ∃ y10 y11, env' = en x0 pr q (some (enc f)) x4 x5 (some (.ref a)) x7 x8 x9 y10 y11 x12 x13)
    (fun i env' S' ⟨X, e, _⟩ => by subst e; exact turn_lst (items_new _ _) i X)
    (fun i d env' S' ⟨X, e, y10, y11, ey⟩ hd => by
      subst e; subst ey
      obtain ⟨fl, rfl⟩ : ∃ fl, d = .bl fl := by
        have := List.mem_of_getElem? hd
        simp only [List.mem_cons, List.not_mem_nil, or_false] at this
        rcases this with rfl | rfl <;> exact ⟨_, rfl⟩
      obtain ⟨Y, e⟩ := L1_ok n x0 pr q hn f hf a fl x4 x5 x7 x8 x9 y11 x12 x13 (S ++ [.lst [.bl false, .bl true]] ++ X) (items_app (items_app hr)) (items_app (items_app ha))
      exact ⟨en x0 pr q (some (enc f)) x4 x5 (some (.ref a)) x7 x8 x9 (some (.bl fl)) y11 x12 x13, _, _, _, by simp [evG], .inl e, X ++ Y, by simp, _, _, rfl⟩)
    fuel 0 _ (S ++ [.lst [.bl false, .bl true]]) (by simp [fuel]) (Nat.zero_le _) ⟨[], by simp, x10, x11, rfl⟩
  subst h2; subst h3
  exact ⟨y10, y11, [.lst [.bl false, .bl true]] ++ X, by rw [← List.append_assoc]; exact h1⟩
end
end K06
end
section
set_option maxRecDepth 100000
namespace K06
open Ev
theorem body_ok (n : Nat) (hn : 20 ≤ n) (x0 : Option D) (pr q : Nat) (x3 x4 x5 x6 x7 x8 x9 x10 x11 x12 x13 : Option D) (S : Sto) (o : MO) (ho : Dice o) (hS : S[q]? = some o) (hr : items S pr = some rowsL) (hpq : q ≠ pr) :
    ∃ (o' : MO) (X : Sto) (y3 y4 y5 y6 y7 y8 y9 y10 y11 : Option D), Dice o' ∧ evSs (callSem P n) Blaw_L2 (en x0 pr q x3 x4 x5 x6 x7 x8 x9 x10 x11 x12 x13) S = .ok .nx (en x0 pr q y3 y4 y5 y6 y7 y8 y9 y10 y11 x12 x13) (S.set q o' ++ X) := by
  obtain ⟨f, g, o', hf, hg, ho', s1⟩ := st1 n x0 pr q hn x3 x4 x5 x6 x7 x8 x9 x10 x11 x12 x13 S o ho hS
  generalize hT : S.set q o' = T at s1
  have hrT : items T pr = some rowsL := by
    rw [← hT]
    unfold items at hr ⊢
    rw [List.getElem?_set_ne hpq]; exact hr
  have e2 := bits_lc n f (by omega) 3 (by decide) (en x0 pr q (some (enc f)) (some (enc g)) x5 x6 x7 x8 x9 x10 x11 x12 x13) T pr rfl rfl (by simp) hrT
  have s2 := asg_v (i := 6) e2
  have hp := put_ht g f
  have hpl := pl_ht f
  have s3 : ∀ S, evS (callSem P n) (.asg (.var 7) (.call 3 (.cons (.var 3) (.cons (.str [98]) (.cons (.var 4) (.nil)))))) (en x0 pr q (some (enc f)) (some (enc g)) x5 (some (.ref T.length)) x7 x8 x9 x10 x11 x12 x13) S = .ok .nx (en x0 pr q (some (enc f)) (some (enc g)) x5 (some (.ref T.length)) (some (enc (putF g f))) x8 x9 x10 x11 x12 x13) S := fun S => by
    have := put_ev g n f S (by omega)
    simp [↓evS, ↓evE, ↓evEs, ↓Res.bind, this, ↓evG]
  obtain ⟨y5, s4⟩ := st4 n x0 pr q hn f g hf hg x5 (some (.ref T.length)) x8 x9 x10 x11 x12 x13 (T ++ [.lst (bitsL f)]) (items_app hrT)
  have s5 : ∀ S, evS (callSem P n) (.asg (.var 8) (.call 4 (.cons (.var 3) (.nil)))) (en x0 pr q (some (enc f)) (some (enc g)) y5 (some (.ref T.length)) (some (enc (putF g f))) x8 x9 x10 x11 x12 x13) S = .ok .nx (en x0 pr q (some (enc f)) (some (enc g)) y5 (some (.ref T.length)) (some (enc (putF g f))) (some (enc (pl f))) x9 x10 x11 x12 x13) S := fun S => by
    have := plain_ev n f S (by omega) (by omega)
    simp [↓evS, ↓evE, ↓evEs, ↓Res.bind, this, ↓evG]
  have ha : items (T ++ [.lst (bitsL f)]) T.length = some (bitsL f) := items_new _ _
  have s6 := st6 n x0 pr q hn (pl f) f (by omega) T.length (some (enc f)) (some (enc g)) y5 (some (enc (putF g f))) x9 x10 x11 x12 x13 (T ++ [.lst (bitsL f)]) (items_app hrT) ha (fun r => pl_sem r f)
  generalize hU : T ++ [.lst (bitsL f)] ++ [.lst (bitsL (pl f))] = U at s6
  have hrU : items U pr = some rowsL := by rw [← hU]; exact items_app (items_app hrT)
  have haU : items U T.length = some (bitsL f) := by rw [← hU]; exact items_app ha
  have e7 := kinds_ev n (pl f) U (by omega) (by omega)
  have s7 : evS (callSem P n) (.asg (.var 9) (.call 16 (.cons (.var 8) (.nil)))) (en x0 pr q (some (enc f)) (some (enc g)) y5 (some (.ref T.length)) (some (enc (putF g f))) (some (enc (pl f))) x9 x10 x11 x12 x13) U = .ok .nx (en x0 pr q (some (enc f)) (some (enc g)) y5 (some (.ref T.length)) (some (enc (putF g f))) (some (enc (pl f))) (some (.ref U.length)) x10 x11 x12 x13) (U ++ [.lst (kD (pl f))]) := by
    simp [↓evS, ↓evE, ↓evEs, ↓Res.bind, e7, ↓evG]
  have s8 := st8 n x0 pr q (pl f) (pl_nf f) U.length (some (enc f)) (some (enc g)) y5 (some (.ref T.length)) (some (enc (putF g f))) x10 x11 x12 x13 (U ++ [.lst (kD (pl f))]) (items_new _ _)
  have s9 := st9 n x0 pr q hn (pl f) (pl_nf f) (by omega) (some (enc f)) (some (enc g)) y5 (some (.ref T.length)) (some (enc (putF g f))) (some (.ref U.length)) x10 x11 x12 x13 (U ++ [.lst (kD (pl f))])
  obtain ⟨y10, y11, X, s10⟩ := st10 n x0 pr q hn f hf T.length (some (enc g)) y5 (some (enc (putF g f))) (some (enc (pl f))) (some (.ref U.length)) x10 x11 x12 x13 (U ++ [.lst (kD (pl f))]) (items_app hrU) (items_app haU)
  obtain ⟨Y, s11⟩ := st11 n x0 pr q hn f g hf hg T.length y5 (some (enc (putF g f))) (some (.ref U.length)) y10 y11 x12 x13 (U ++ [.lst (kD (pl f))] ++ X) (items_app (items_app hrU)) (items_app (items_app haU))
  have s12 := st12 n x0 pr q hn f hf (some (enc g)) y5 (some (.ref T.length)) (some (enc (putF g f))) (some (enc (pl f))) (some (.ref U.length)) y10 y11 x12 x13 (U ++ [.lst (kD (pl f))] ++ X ++ Y)
  refine ⟨o', [.lst (bitsL f)] ++ ([.lst (bitsL (pl f))] ++ ([.lst (kD (pl f))] ++ (X ++ Y))), some (enc f), some (enc g), y5, some (.ref T.length), some (enc (putF g f)), some (enc (pl f)), some (.ref U.length), y10, y11, ho', ?_⟩
  have s2' : evS (callSem P n) (.asg (.var 6) (.lc [5] (.var 5) (.val (.var 1)) (.nil) (.call 14 (.cons (.var 3) (.cons (.var 5) (.nil)))))) (en x0 pr q (some (enc f)) (some (enc g)) x5 x6 x7 x8 x9 x10 x11 x12 x13) T = .ok .nx (en x0 pr q (some (enc f)) (some (enc g)) x5 (some (.ref T.length)) x7 x8 x9 x10 x11 x12 x13) (T ++ [.lst (bitsL f)]) := s2
  unfold Blaw_L2
  rw [sq s1, sq s2', sq (s3 _), sq s4, sq (s5 _), sq s6, sq s7, sq s8, sq s9, sq s10, sq s11, sq s12, evSs, ← hU]
  rw [hT]
  simp only [List.append_assoc]
theorem law_ok (n : Nat) (hn : 20 ≤ n) (ns : List Int) : ∃ S, callSem P (n + 1) 17 [.fl (ns.map .int)] [] = .ok (.bl true) S := by
  obtain ⟨m, rfl⟩ : ∃ m, n = m + 2 := ⟨n - 2, by omega⟩
  refine ⟨_, call_pure (d := ⟨1, 14, Blaw⟩) rfl rfl (by simp [purs, pur, pur_ints]) ?_⟩
  obtain ⟨p, X, ps, r1, r2, r3, r4, r5⟩ := rounds_ev m ns [.lst rowsL]
  have s1 : evS (callSem P (m + 2)) (.asg (.var 1) (.call 15 (.cons (.int (3)) (.nil)))) (startE ⟨1, 14, Blaw⟩ [.fl (ns.map .int)]) [] = .ok .nx [some (.fl (ns.map .int)), some (.ref 0), none, none, none, none, none, none, none, none, none, none, none, none] [.lst rowsL] := by
    have := rows_ev3 (m + 1) []
    simp [↓evS, ↓evE, ↓evEs, ↓Res.bind, this, ↓evG, startE]
  have hi : evI (callSem P (m + 2)) (.val (.call 12 (.cons (.var 0) (.cons (.int (4)) (.nil))))) [some (.fl (ns.map .int)), some (.ref 0), none, none, none, none, none, none, none, none, none, none, none, none] [.lst rowsL] = .ok (.lst p) ([.lst rowsL] ++ X) := by
    simp only [List.cons_append, List.nil_append] at r1 r2
    simp [↓evI, ↓evE, ↓evEs, ↓Res.bind, r1, r2]
  have hr0 : items ([MO.lst rowsL] ++ X) 0 = some rowsL := rfl
  obtain ⟨env', S', h1, _⟩ := forL_inv (v := .lst p) (ds := ps.map .ref) (g := fun d env' S' => match evG (callSem P (m + 2)) (.var 2) d env' S' with | some (env2, S2) => .ok .nx env2 S2 | none => .bad) (b := fun env' S' => evSs (callSem P (m + 2)) Blaw_L2 env' S')
    (fun _ env' S' => (items S' 0 = some rowsL ∧ items S' p = some (ps.map .ref) ∧ ∀ q ∈ ps, q ≠ 0 ∧ q ≠ p ∧ ∃ o, S'[q]? = some o ∧ Dice o) ∧ ∃ y2 y3 y4 y5 y6 y7 y8 y9 y10 y11 y12 y13, env' = [some (.fl (ns.map .int)), some (.ref 0), y2, y3, y4, y5, y6, y7, y8, y9, y10, y11, y12, y13])
    (fun i env' S' ⟨⟨_, h, _⟩, _⟩ => by simp only [turn]; rw [h]; rfl)
    (fun i d env' S' ⟨⟨a1, a2, a3⟩, y2, y3, y4, y5, y6, y7, y8, y9, y10, y11, y12, y13, ey⟩ hd => by
      subst ey
      obtain ⟨q, hq, rfl⟩ := List.mem_map.mp (List.mem_of_getElem? hd)
      obtain ⟨b1, b2, o, b3, b4⟩ := a3 q hq
      obtain ⟨o', Y, z3, z4, z5, z6, z7, z8, z9, z10, z11, c1, c2⟩ := body_ok (m + 2) hn (some (.fl (ns.map .int))) 0 q y3 y4 y5 y6 y7 y8 y9 y10 y11 y12 y13 S' o b4 b3 a1 b1
      have keep : ∀ k ds, k ≠ q → items S' k = some ds → items (S'.set q o' ++ Y) k = some ds := fun k ds hk h => items_app (by
        unfold items at h ⊢
        rw [List.getElem?_set_ne (Ne.symm hk)]; exact h)
      refine ⟨en (some (.fl (ns.map .int))) 0 q y3 y4 y5 y6 y7 y8 y9 y10 y11 y12 y13, S', _, _, by simp [evG], .inl c2, ⟨keep 0 _ (Ne.symm b1) a1, keep p _ (Ne.symm b2) a2, fun q' hq' => ?_⟩, _, _, _, _, _, _, _, _, _, _, _, _, rfl⟩
      obtain ⟨d1, d2, o2, d3, d4⟩ := a3 q' hq'
      refine ⟨d1, d2, ?_⟩
      by_cases hqq : q = q'
      · subst hqq
        exact ⟨o', by rw [app_old (by rw [List.length_set]; exact lt_of_some d3), List.getElem?_set_self (lt_of_some d3)], c1⟩
      · exact ⟨o2, by rw [app_old (by rw [List.length_set]; exact lt_of_some d3), List.getElem?_set_ne hqq]; exact d3, d4⟩)
    fuel 0 [some (.fl (ns.map .int)), some (.ref 0), none, none, none, none, none, none, none, none, none, none, none, none] ([.lst rowsL] ++ X) (by simp [fuel]; omega) (Nat.zero_le _)
    ⟨⟨hr0, r2, fun q hq => ⟨by have := (r5 q hq).1; simp at this; omega, (r5 q hq).2⟩⟩, _, _, _, _, _, _, _, _, _, _, _, _, rfl⟩
  have s2 : evS (callSem P (m + 2)) (.fori (.var 2) (.val (.call 12 (.cons (.var 0) (.cons (.int (4)) (.nil))))) Blaw_L2) [some (.fl (ns.map .int)), some (.ref 0), none, none, none, none, none, none, none, none, none, none, none, none] [.lst rowsL] = .ok .nx env' S' := by
    rw [evS, hi]; exact h1
  have hb : evSs (callSem P (m + 2)) Blaw (startE ⟨1, 14, Blaw⟩ [.fl (ns.map .int)]) [] = .ok (.rt (.bl true)) env' S' := by
    conv => lhs; arg 2; unfold Blaw
    rw [sq s1, sq s2]
    simp [↓evSs, ↓evS, ↓evE]
  simp only [runP, hb, pur, if_true]
end K06
end
section
theorem J06.room : L2.Room 60 PySem.callerA := ⟨rfl, by decide +kernel, by decide +kernel⟩
theorem PySem.Challenge.cw_circuithall_k06_formulas_made_plain_holds : PySem.Challenge.rw_circuithall_k06_formulas_made_plain.Holds :=
  K06.holds 60 J06.room fun ns _ => K06.law_ok 59 (by decide) ns
end
