import PyProof.Rows.All
import Wide.All
import OpenK.AllK
import Wide.FinOn
import HandS.ForMost
import HandS.Walk
import HandS.Zip
import HandS.Strs
import HandS.More
import HandS.StrMore
import HandS.Style
import HandS.TupLe
import HandS.TupAny
import HandS.TupMul
import HandS.IsInst
import HandS.Steps
import HandS.Wide
import HandS.Deep
import HandS.Remove
import HandS.Flow
import HandS.SortInts
import HandS.EndBits
import KE.DataMinMax
import KE.DataFind
import KE.SortUse
import HandS.Defaults
import HandS.Ends
import KE.KRevSl
import KE.GoesEnum
import KE.KTupSum
import KE.GoesMore
import PyProof.FactsAll.tuple_2
import KE.SortData
import PyProof.StrLawsLast
import HandS.Dict
import PyProof.CollectStr
import PyProof.TupleOfSeq
import HandS.DictComp
import HandS.MapObj
import HandS.Conv
import PyProof.CollectIter
import HandS.SortKw
import HandS.FStr
import HandS.Codes
import HandS.Exc
import HandS.ExcIs
import KE.KExcIs
import HandS.ForExc
import HandS.Gcd
import HandS.Star
import KE.KMathGC
import PySem.Challenge.RW_sockrows_k02_whole_rows_of_anything
section P_DL0
set_option linter.all false
/-! The core language of this work: plain data, a small store of lists that are changed, and an evaluator. No program in sight. -/
namespace DL

/-- a part of a key: a number, a text -/
abbrev K1 := Int ⊕ List Char
/-- plain data; dct: a dict with keys of one number or text each (false), of tuples of such (true) -/
inductive D where
  | non | bl (b : Bool) | int (i : Int) | str (s : List Char) | tup (l : List D) | lst (l : List D) | dic (l : List (D × D)) | scr (l : List D) | dct (t : Bool) (l : List (List K1 × D))
  deriving Inhabited
/-- a list, a dict that may be changed -/
inductive MO where
  | lst (l : List D) | dct (t : Bool) (l : List (List K1 × D))
  deriving Inhabited
inductive Val where
  | d (x : D) | ref (n : Nat)
  deriving Inhabited
abbrev Mem := List MO
abbrev Sl := List (Option Val)
inductive Res (α : Type) where
  | ok (a : α) (m : Mem) | bad
def Res.bind {α β : Type} (r : Res α) (f : α → Mem → Res β) : Res β := match r with
  | .ok a m => f a m
  | .bad => .bad
@[simp] theorem Res.bind_ok {α β : Type} (a : α) (m : Mem) (f : α → Mem → Res β) : (Res.ok a m).bind f = f a m := rfl
@[simp] theorem Res.bind_bad {α β : Type} (f : α → Mem → Res β) : (Res.bad : Res α).bind f = .bad := rfl
/-- a value or nothing, in the store as it stands -/
def Res.of {α : Type} (o : Option α) (m : Mem) : Res α := match o with
  | some a => .ok a m
  | none => .bad
@[simp] theorem Res.of_some {α : Type} (a : α) (m : Mem) : Res.of (some a) m = .ok a m := rfl
@[simp] theorem Res.of_none {α : Type} (m : Mem) : Res.of (none : Option α) m = .bad := rfl

def MO.toD : MO → D
  | .lst l => .lst l
  | .dct t l => .dct t l
def view (M : Mem) : Val → Option D
  | .d x => some x
  | .ref n => (M[n]?).map MO.toD
@[simp] theorem view_d (M : Mem) (x : D) : view M (.d x) = some x := rfl
@[simp] theorem view_ref (M : Mem) (n : Nat) : view M (.ref n) = (M[n]?).map MO.toD := rfl
def views (M : Mem) : List Val → Option (List D)
  | [] => some []
  | v :: vs => match view M v, views M vs with
    | some x, some xs => some (x :: xs)
    | _, _ => none
@[simp] theorem views_nil (M : Mem) : views M [] = some [] := rfl
@[simp] theorem views_cons (M : Mem) (v : Val) (vs : List Val) : views M (v :: vs) = match view M v, views M vs with
    | some x, some xs => some (x :: xs)
    | _, _ => none := rfl

/-! ### the most that a text, a list holds -/
abbrev big : Nat := 16777216

/-! ### equality as Python has it -/
mutual
def D.eqv : D → D → Bool
  | .non, .non => true
  | .bl a, .bl b => a == b
  | .bl a, .int j => (if a then 1 else 0) == j
  | .int i, .bl b => i == (if b then 1 else 0)
  | .int i, .int j => i == j
  | .str x, .str y => x == y
  | .tup x, .tup y => D.eqvs x y
  | .lst x, .lst y => D.eqvs x y
  | _, _ => false
def D.eqvs : List D → List D → Bool
  | [], [] => true
  | x :: xs, y :: ys => D.eqv x y && D.eqvs xs ys
  | _, _ => false
end
def D.flat : D → Bool
  | .non | .bl _ | .int _ | .str _ => true
  | _ => false
mutual
/-- nested no deeper than n, no dict within -/
def D.shal : Nat → D → Bool
  | _, .non | _, .bl _ | _, .int _ | _, .str _ => true
  | 0, _ => false
  | n + 1, .tup l => D.shals n l
  | n + 1, .lst l => D.shals n l
  | _ + 1, .dic _ => false
  | _ + 1, .scr _ => false
  | _ + 1, .dct _ _ => false
def D.shals : Nat → List D → Bool
  | _, [] => true
  | n, x :: xs => D.shal n x && D.shals n xs
end
def eqD (x y : D) : Option Bool :=
  if (x.flat && y.flat) || (x.shal 60 && y.shal 60) then some (x.eqv y) else none

/-! ### order -/
def ltS : List Char → List Char → Bool
  | [], [] => false
  | [], _ :: _ => true
  | _ :: _, [] => false
  | a :: x, b :: y => if a.toNat < b.toNat then true else if a.toNat = b.toNat then ltS x y else false
def ltFlat : D → D → Option Bool
  | .int i, .int j => some (decide (i < j))
  | .str x, .str y => some (ltS x y)
  | _, _ => none

/-! ### operators -/
inductive Bop where
  | add | sub | mul | fdiv | mod | pow
  deriving DecidableEq
inductive Cop where
  | eq | ne | lt | le | gt | ge | isin | notin | is | isnot
  deriving DecidableEq
/-- one factor of 64 bits, or both together of less than a million -/
def mulOk (i j : Int) : Bool := decide ((-(2 ^ 64) < i ∧ i < 2 ^ 64) ∨ (-(2 ^ 64) < j ∧ j < 2 ^ 64))
def rep {α : Type} (n : Nat) (l : List α) : List α := match n with
  | 0 => []
  | n + 1 => l ++ rep n l
def binD : Bop → D → D → Option D
  | .add, .int i, .int j => some (.int (i + j))
  | .add, .str x, .str y => if x.length + y.length ≤ big then some (.str (x ++ y)) else none
  | .add, .lst x, .lst y => if x.length + y.length ≤ big then some (.lst (x ++ y)) else none
  | .add, .tup x, .tup y => if x.length + y.length ≤ big then some (.tup (x ++ y)) else none
  | .sub, .int i, .int j => some (.int (i - j))
  | .mul, .int i, .int j => if mulOk i j then some (.int (i * j)) else none
  | .mul, .str x, .int j => if 0 ≤ j ∧ j < 1000 ∧ x.length ≤ 1000 then some (.str (rep j.toNat x)) else none
  | .mul, .lst x, .int j => if 0 ≤ j ∧ j < 1000 ∧ x.length ≤ 1000 then some (.lst (rep j.toNat x)) else none
  | .mul, .tup x, .int j => if 2 ≤ j ∧ j < 1000 ∧ x.length ≤ 1000 ∧ 0 < x.length then some (.tup (rep j.toNat x)) else none
  | .fdiv, .int i, .int j => if 0 < j ∧ j < 1073741824 then some (.int (i / j)) else none
  | .mod, .int i, .int j => if 0 < j then some (.int (i % j)) else none
  | .pow, .int i, .int j => if 0 ≤ j ∧ j ≤ 1000000 ∧ i.natAbs < 2 ^ 64 then some (.int (i ^ j.toNat)) else none
  | _, _, _ => none
def inD : D → D → Option Bool
  | .str [c], .str y => some (y.contains c)
  | x, .lst l => if x.shal 60 && D.shals 60 l then some (l.any fun y => y.eqv x) else none
  | x, .tup l => if x.shal 60 && D.shals 60 l then some (l.any fun y => y.eqv x) else none
  | _, _ => none
def cmpD : Cop → D → D → Option Bool
  | .eq, x, y => eqD x y
  | .ne, x, y => (eqD x y).map (!·)
  | .lt, x, y => ltFlat x y
  | .gt, x, y => ltFlat y x
  | .le, x, y => (ltFlat y x).map (!·)
  | .ge, x, y => (ltFlat x y).map (!·)
  | .isin, x, y => inD x y
  | .notin, x, y => (inD x y).map (!·)
  | .is, x, .non => some (match x with | .non => true | _ => false)
  | .isnot, x, .non => some (match x with | .non => false | _ => true)
  | .is, x, .bl b => some (match x with | .bl a => decide (a = b) | _ => false)
  | .isnot, x, .bl b => some (match x with | .bl a => !decide (a = b) | _ => true)
  | _, _, _ => none

def cmpV (o : Cop) (x y : D) : Option D := (cmpD o x y).map D.bl

/-! ### what walks -/
def items : D → Option (List D)
  | .lst l => some l
  | .tup l => some l
  | .str s => some (s.map fun c => .str [c])
  | .scr l => some l
  | _ => none
def upto : Nat → Int → List D
  | 0, _ => []
  | n + 1, i => .int i :: upto n (i + 1)
def rngD : List D → Option (List D)
  | [.int n] => if -16777216 ≤ n ∧ n ≤ 16777216 then some (upto n.toNat 0) else none
  | [.int a, .int b] => if -16777216 ≤ a ∧ a ≤ 16777216 ∧ -16777216 ≤ b ∧ b ≤ 16777216 ∧ b - a ≤ 16777216 then some (upto (b - a).toNat a) else none
  | _ => none
def enumFrom : Int → List D → List D
  | _, [] => []
  | i, x :: xs => .tup [.int i, x] :: enumFrom (i + 1) xs

/-! ### built-in functions by their names -/
inductive Bi where
  | len | int | abs | sum | max | min | max2 | min2 | all | any | tuple | list | sorted | divmod | lenset
  deriving DecidableEq
def sumInts : List D → Option Int
  | [] => some 0
  | .int i :: r => (sumInts r).map (i + ·)
  | _ => none
def allBl : List D → Option Bool
  | [] => some true
  | .bl b :: r => (allBl r).map (b && ·)
  | _ => none
def anyBl : List D → Option Bool
  | [] => some false
  | .bl b :: r => (anyBl r).map (b || ·)
  | _ => none
/-- the greatest (the least), the first of several -/
def bestD (better : D → D → Option Bool) : D → List D → Option D
  | x, [] => some x
  | x, y :: r => match better y x with
    | some true => bestD better y r
    | some false => bestD better x r
    | none => none
/-- both ints or both texts -/
def like2 : D → D → Bool
  | .int _, .int _ => true
  | .str _, .str _ => true
  | _, _ => false
def insD (x : D) : List D → Option (List D)
  | [] => some [x]
  | y :: r => match ltFlat x y with
    | some true => some (x :: y :: r)
    | some false => (insD x r).map (y :: ·)
    | none => none
def sortD : List D → Option (List D)
  | [] => some []
  | x :: r => match sortD r with
    | some s => insD x s
    | none => none
def lenD : D → Option Int
  | .str s => some s.length
  | .lst l => some l.length
  | .tup l => some l.length
  | .scr l => some l.length
  | _ => none
def biD : Bi → List D → Option D
  | .len, [x] => (lenD x).map .int
  | .int, [.int i] => some (.int i)
  | .int, [.bl b] => some (.int (if b then 1 else 0))
  | .abs, [.int i] => some (.int (if i < 0 then -i else i))
  | .sum, [.lst l] => (sumInts l).map .int
  | .max, [.lst (x :: r)] => if like2 x x then bestD (fun a b => ltFlat b a) x r else none
  | .max, [.tup (x :: r)] => if like2 x x then bestD (fun a b => ltFlat b a) x r else none
  | .min, [.lst (x :: r)] => if like2 x x then bestD ltFlat x r else none
  | .min, [.tup (x :: r)] => if like2 x x then bestD ltFlat x r else none
  | .max2, [.int i, .int j] => some (.int (if j > i then j else i))
  | .min2, [.int i, .int j] => some (.int (if j < i then j else i))
  | .all, [.lst l] => (allBl l).map .bl
  | .any, [.lst l] => (anyBl l).map .bl
  | .tuple, [.lst l] => some (.tup l)
  | .tuple, [.tup l] => some (.tup l)
  | .list, [.lst l] => some (.lst l)
  | .list, [.tup l] => some (.lst l)
  | .list, [.str s] => some (.lst (s.map fun c => .str [c]))
  | .sorted, [.lst l] => if l.length < 64 then (sortD l).map .lst else none
  | .divmod, [.int i, .int j] => if 0 < j ∧ j < 1073741824 then some (.tup [.int (i / j), .int (i % j)]) else none
  | .lenset, [.str s] => some (.int s.eraseDups.length)
  | _, _ => none
inductive Ty where
  | int | bool | str | tuple | list | dict
  deriving DecidableEq
def isiD (t : Ty) : D → Option D
  | .non => some (.bl false)
  | .bl _ => some (.bl (t == .bool || t == .int))
  | .int _ => some (.bl (t == .int))
  | .str _ => some (.bl (t == .str))
  | .tup _ => some (.bl (t == .tuple))
  | .lst _ => some (.bl (t == .list))
  | .dic _ => some (.bl (t == .dict))
  | _ => none

inductive Kd where
  | str | lst | tup | dic | oth
  deriving DecidableEq
def kd : D → Kd
  | .str _ => .str | .lst _ => .lst | .tup _ => .tup | .dic _ => .dic | _ => .oth

/-! ### methods that change nothing -/
inductive Me where
  | join | count | index | rindex | upper | startswith
  deriving DecidableEq
def texts : List D → Option (List (List Char))
  | [] => some []
  | .str s :: r => (texts r).map (s :: ·)
  | _ => none
def glue (sep : List Char) : List (List Char) → List Char
  | [] => []
  | [x] => x
  | x :: r => x ++ sep ++ glue sep r
def lens : List (List Char) → Nat
  | [] => 0
  | x :: r => x.length + lens r
def joinD (sep : List Char) (l : List D) : Option D := match texts l with
  | some ts => if lens ts + ts.length * sep.length ≤ big then some (.str (glue sep ts)) else none
  | none => none
def place {α : Type} (p : α → Bool) : List α → Option Nat
  | [] => none
  | x :: r => if p x then some 0 else (place p r).map (· + 1)
def upC (c : Char) : Char := if 97 ≤ c.toNat ∧ c.toNat ≤ 122 then Char.ofNat (c.toNat - 32) else c
def meD : Me → D → List D → Option D
  | .join, .str sep, [.lst l] => joinD sep l
  | .join, .str sep, [.tup l] => joinD sep l
  | .count, .str s, [.str [c]] => some (.int (s.count c))
  | .index, .str s, [.str [c]] => (place (· == c) s).map fun (n : Nat) => .int n
  | .index, .lst l, [x] => if x.flat && l.all D.flat then (place (fun y => y.eqv x) l).map fun (n : Nat) => .int n else none
  | .rindex, .str s, [.str [c]] => (place (· == c) s.reverse).map fun (n : Nat) => .int (s.length - 1 - n : Nat)
  | .upper, .str s, [] => if s.length ≤ 1000 ∧ s.all (fun c => decide (c.toNat < 128)) = true then some (.str (s.map upC)) else none
  | .startswith, .str s, [.str t] => some (.bl (t.isPrefixOf s))
  | _, _, _ => none

/-! ### subscripts -/
def at_ {α : Type} (l : List α) (i : Int) : Option α :=
  if 0 ≤ i then l[i.toNat]? else if 0 ≤ i + l.length then l[(i + l.length).toNat]? else none
def subD : D → D → Option D
  | .lst l, .int i => at_ l i
  | .tup l, .int i => at_ l i
  | .scr l, .int i => at_ l i
  | .str s, .int i => (at_ s i).map fun c => .str [c]
  | _, _ => none
/-- a bound of a slice within 0 .. n -/
def bound (n : Nat) (i : Int) : Nat :=
  if 0 ≤ i then min i.toNat n else (i + n).toNat
def cut {α : Type} (l : List α) (lo hi : Option Int) : List α :=
  let a := match lo with | some i => bound l.length i | none => 0
  let b := match hi with | some i => bound l.length i | none => l.length
  (l.drop a).take (b - a)
def bndD : Option D → Option (Option Int)
  | none => some none
  | some (.int i) => some (some i)
  | _ => none
def sliceD : D → Option D → Option D → Option D
  | x, lo, hi => match bndD lo, bndD hi with
    | some a, some b => match x with
      | .lst l => some (.lst (cut l a b))
      | .scr l => some (.lst (cut l a b))
      | .tup l => some (.tup (cut l a b))
      | .str s => some (.str (cut s a b))
      | _ => none
    | _, _ => none
def revD : D → Option D
  | .str s => some (.str s.reverse)
  | .lst l => some (.lst l.reverse)
  | _ => none

/-! ### methods that change a list -/
inductive Mu where
  | append | extend | pop | popAt | remove
  deriving DecidableEq
def muD : Mu → MO → List D → Option (D × MO)
  | .append, .lst l, [x] => if l.length < big then some (.non, .lst (l ++ [x])) else none
  | .extend, .lst l, [.lst k] => if l.length + k.length ≤ big then some (.non, .lst (l ++ k)) else none
  | .pop, .lst l, [] => match l.getLast? with | some x => some (x, .lst l.dropLast) | none => none
  | .popAt, .lst l, [.int i] => if 0 ≤ i ∧ i < 2 ^ 62 then (match l[i.toNat]? with | some x => some (x, .lst (l.eraseIdx i.toNat)) | none => none) else none
  | .remove, .lst l, [x] => if x.flat && l.all D.flat then (place (fun y => y.eqv x) l).map fun (n : Nat) => (.non, .lst (l.eraseIdx n)) else none
  | _, _, _ => none
/-- the values that are plain data -/
def plainVs : List Val → Option (List D)
  | [] => some []
  | .d x :: r => (plainVs r).map (x :: ·)
  | .ref _ :: _ => none
/-- the arguments of such a method -/
def argsOf (m : Mu) (M : Mem) (vs : List Val) : Option (List D) := match m with
  | .extend => views M vs
  | _ => plainVs vs
def setD : MO → D → D → Option MO
  | .lst l, .int i, x => if 0 ≤ i ∧ i < 2 ^ 62 ∧ i.toNat < l.length then some (.lst (l.set i.toNat x))
      else if i < 0 ∧ -(2 ^ 62) < i ∧ 0 ≤ i + l.length then some (.lst (l.set (i + l.length).toNat x)) else none
  | _, _, _ => none

/-! ### running -/
inductive Tg where
  | n (i : Nat) | t (l : List Tg)
inductive Flow where
  | nx (s : Sl) | ret (v : Val) | brk (s : Sl) | cont (s : Sl)

mutual
def bindTg : Tg → D → Sl → Option Sl
  | .n i, x, s => if i < s.length then some (s.set i (some (.d x))) else none
  | .t l, .tup xs, s => bindTgs l xs s
  | _, _, _ => none
def bindTgs : List Tg → List D → Sl → Option Sl
  | [], [], s => some s
  | t :: ts, x :: xs, s => match bindTg t x s with
    | some s' => bindTgs ts xs s'
    | none => none
  | _, _, _ => none
end
def wipeS (s : Sl) : List Nat → Sl
  | [] => s
  | i :: r => (wipeS s r).set i none
def tru : D → Option Bool
  | .bl b => some b
  | _ => none
/-- the items of a comprehension: the block b at each, which gives an item or none -/
def compLoop (b : D → Mem → Res (Option D)) : List D → Mem → Res (List D)
  | [], M => .ok [] M
  | x :: xs, M => (b x M).bind fun o M1 => (compLoop b xs M1).bind fun ys M2 => match o with
    | some y => .ok (y :: ys) M2
    | none => .ok ys M2
/-- values by their places: the arguments by place, then those by name -/
def byNames (n : Nat) (vs : List Val) (ks : List Nat) (kvs : List Val) : Option (List Val) :=
  (List.range n).mapM fun i => if i < vs.length then vs[i]? else ((ks.zip kvs).find? (·.1 == i)).map (·.2)

/-- a test -/
def toB (r : Res Val) : Res Bool := r.bind fun v M1 => match v with
  | .d (.bl b) => .ok b M1
  | _ => .bad

def setMany : List Nat → List Val → Sl → Option Sl
  | [], [], s => some s
  | i :: is, v :: vs, s => if i < s.length then setMany is vs (s.set i (some v)) else none
  | _, _, _ => none
def forLoop (b : Sl → Mem → Res Flow) (t : Tg) : List D → Sl → Mem → Res Flow
  | [], s, M => .ok (.nx s) M
  | x :: xs, s, M => match bindTg t x s with
    | some s1 => (b s1 M).bind fun f M2 => match f with
      | .nx s2 => forLoop b t xs s2 M2
      | .cont s2 => forLoop b t xs s2 M2
      | .brk s2 => .ok (.nx s2) M2
      | .ret v => .ok (.ret v) M2
    | none => .bad
def whileLoop (c : Sl → Mem → Res Bool) (b : Sl → Mem → Res Flow) : Nat → Sl → Mem → Res Flow
  | 0, _, _ => .bad
  | n + 1, s, M => (c s M).bind fun t M1 => if t then (b s M1).bind fun f M2 => match f with
      | .nx s2 => whileLoop c b n s2 M2
      | .cont s2 => whileLoop c b n s2 M2
      | .brk s2 => .ok (.nx s2) M2
      | .ret v => .ok (.ret v) M2
    else .ok (.nx s) M1
/-- the most turns of a while -/
def turns : Nat := 1000000
/-- what a body that ended hands back: plain data, or (fresh) the content of a list that it made; its own lists are dropped -/
def handBack (fresh : Bool) (base : Nat) (f : Flow) (M : Mem) : Res Val := match f with
  | .ret (.d x) => if fresh then .bad else .ok (.d x) (M.take base)
  | .ret (.ref k) => if fresh ∧ base ≤ k then (match M[k]? with | some (.lst l) => .ok (.d (.lst l)) (M.take base) | _ => .bad) else .bad
  | .nx _ => if fresh then .bad else .ok (.d .non) (M.take base)
  | _ => .bad
end DL
end P_DL0
section P_DL1
set_option Elab.async false
set_option linter.all false
set_option maxRecDepth 100000
set_option maxHeartbeats 1000000
/-! The tie between the evaluator's states and the abstract heap of HandS. -/
namespace DL
open PySem PySem.Spec PyProof.Rows L2

/-- a text of signs as the machine has it -/
def enc (s : List Char) : Str := ⟨(s.map Char.toNat).toArray⟩
abbrev Fr := PySem.W.Frag
/-! ### keys of dicts -/
def kE : K1 → Key
  | .inl i => .inl i
  | .inr s => .inr (enc s)
def KOk (t : Bool) (k : List K1) : Prop := (t = false → ∃ x, k = [x]) ∧ k.length ≤ big ∧ ∀ s : List Char, Sum.inr s ∈ k → s.length ≤ big
def hoD : Bool → List (List Key × V) → HO
  | true, kvs => .dT kvs
  | false, kvs => .dK (kvs.map fun p => (p.1.headD (.inl 0), p.2))
def zipK (l : List (List K1 × D)) (vs : List V) : List (List Key × V) := (l.map fun p => p.1.map kE).zip vs

/-! ### what stands for a datum -/
mutual
inductive Rep (K : Fr) (F : Hp) : D → V → Prop
  | non : Rep K F .non .non
  | bl (b : Bool) : Rep K F (.bl b) (.bl b)
  | int (i : Int) : Rep K F (.int i) (.int i)
  | str (s : List Char) : s.length ≤ big → Rep K F (.str s) (.str (enc s))
  | tup {a : Addr} {vs : List V} {ds : List D} : ds.length ≤ big → F a = some (.tup vs) → Reps K F ds vs → Rep K F (.tup ds) (.ref a)
  | lst {a : Addr} {vs : List V} {ds : List D} : ds.length ≤ big → F a = some (.lst vs) → Reps K F ds vs → Rep K F (.lst ds) (.ref a)
  | scr {a : Addr} {vs : List V} {ds : List D} : ds.length ≤ big → SqL K F a vs → Reps K F ds vs → Rep K F (.scr ds) (.ref a)
  | dic {a : Addr} (l : List (List Char × Int)) : (l.map (·.1)).Nodup → F a = some (.dK (l.map fun p => (Sum.inr (enc p.1), V.int p.2))) → Rep K F (.dic (l.map fun p => (D.str p.1, D.int p.2))) (.ref a)
  | dct {a : Addr} {o : Obj} (t : Bool) {l : List (List K1 × D)} {vs : List V} : l.length ≤ big → (∀ p ∈ l, KOk t p.1) → F a = some (.frz o (hoD t (zipK l vs))) → Reps K F (l.map Prod.snd) vs → Rep K F (.dct t l) (.ref a)
inductive Reps (K : Fr) (F : Hp) : List D → List V → Prop
  | nil : Reps K F [] []
  | cons {d : D} {v : V} {ds : List D} {vs : List V} : Rep K F d v → Reps K F ds vs → Reps K F (d :: ds) (v :: vs)
end

/-- one abstract heap within another -/
def Sub (F H : Hp) : Prop := ∀ a o, F a = some o → H a = some o
theorem Sub.refl (F : Hp) : Sub F F := fun _ _ h => h
theorem Sub.trans {F G H : Hp} (a : Sub F G) (b : Sub G H) : Sub F H := fun c o h => b c o (a c o h)
theorem Sub.sqT {K : Fr} {F G : Hp} (s : Sub F G) {a : Addr} {vs : List V} (h : SqT K F a vs) : SqT K G a vs := by
  rcases h with (h | ⟨o, h⟩) | h
  · exact .inl (.inl (s _ _ h))
  · exact .inl (.inr ⟨o, s _ _ h⟩)
  · exact .inr h
theorem Sub.sqL {K : Fr} {F G : Hp} (s : Sub F G) {a : Addr} {vs : List V} (h : SqL K F a vs) : SqL K G a vs := by
  rcases h with (h | ⟨o, h⟩) | h
  · exact .inl (.inl (s _ _ h))
  · exact .inl (.inr ⟨o, s _ _ h⟩)
  · exact .inr h
mutual
theorem Rep.mono {K : Fr} {F G : Hp} (s : Sub F G) : ∀ {d : D} {v : V}, Rep K F d v → Rep K G d v
  | _, _, .non => .non
  | _, _, .bl b => .bl b
  | _, _, .int i => .int i
  | _, _, .str x z => .str x z
  | _, _, .tup z h r => .tup z (s _ _ h) (Reps.mono s r)
  | _, _, .lst z h r => .lst z (s _ _ h) (Reps.mono s r)
  | _, _, .scr z h r => .scr z (s.sqL h) (Reps.mono s r)
  | _, _, .dic l z h => .dic l z (s _ _ h)
  | _, _, .dct t z k h r => .dct t z k (s _ _ h) (Reps.mono s r)
theorem Reps.mono {K : Fr} {F G : Hp} (s : Sub F G) : ∀ {d : List D} {v : List V}, Reps K F d v → Reps K G d v
  | _, _, .nil => .nil
  | _, _, .cons h r => .cons (Rep.mono s h) (Reps.mono s r)
end
section
variable {K : Fr} {F : Hp}
theorem Reps.length : ∀ {ds : List D} {vs : List V}, Reps K F ds vs → ds.length = vs.length
  | _, _, .nil => rfl
  | _, _, .cons _ r => congrArg (· + 1) r.length
theorem Reps.append : ∀ {ds es : List D} {vs ws : List V}, Reps K F ds vs → Reps K F es ws → Reps K F (ds ++ es) (vs ++ ws)
  | _, _, _, _, .nil, h => h
  | _, _, _, _, .cons a r, h => .cons a (r.append h)
theorem Reps.get : ∀ {ds : List D} {vs : List V} {i : Nat} {d : D}, Reps K F ds vs → ds[i]? = some d → ∃ v, vs[i]? = some v ∧ Rep K F d v
  | _, _, _, _, .nil, h => by simp at h
  | _, _, 0, _, .cons a _, h => by simp at h; subst h; exact ⟨_, rfl, a⟩
  | _, _, i + 1, _, .cons _ r, h => by
    obtain ⟨v, e, q⟩ := r.get (i := i) (by simpa using h)
    exact ⟨v, by simpa using e, q⟩
theorem Reps.getV : ∀ {ds : List D} {vs : List V} {i : Nat} {v : V}, Reps K F ds vs → vs[i]? = some v → ∃ d, ds[i]? = some d ∧ Rep K F d v
  | _, _, _, _, .nil, h => by simp at h
  | _, _, 0, _, .cons a _, h => by simp at h; subst h; exact ⟨_, rfl, a⟩
  | _, _, i + 1, _, .cons _ r, h => by
    obtain ⟨v, e, q⟩ := r.getV (i := i) (by simpa using h)
    exact ⟨v, by simpa using e, q⟩
theorem Reps.set {d : D} {v : V} (q : Rep K F d v) : ∀ {ds : List D} {vs : List V} (i : Nat), Reps K F ds vs → Reps K F (ds.set i d) (vs.set i v)
  | _, _, _, .nil => .nil
  | _, _, 0, .cons _ r => .cons q r
  | _, _, i + 1, .cons a r => .cons a (r.set q i)
theorem Reps.take : ∀ {ds : List D} {vs : List V} (n : Nat), Reps K F ds vs → Reps K F (ds.take n) (vs.take n)
  | _, _, 0, _ => .nil
  | _, _, _ + 1, .nil => .nil
  | _, _, n + 1, .cons a r => .cons a (r.take n)
theorem Reps.drop : ∀ {ds : List D} {vs : List V} (n : Nat), Reps K F ds vs → Reps K F (ds.drop n) (vs.drop n)
  | _, _, 0, r => r
  | _, _, _ + 1, .nil => .nil
  | _, _, n + 1, .cons _ r => r.drop n
theorem Reps.eraseIdx : ∀ {ds : List D} {vs : List V} (n : Nat), Reps K F ds vs → Reps K F (ds.eraseIdx n) (vs.eraseIdx n)
  | _, _, _, .nil => .nil
  | _, _, 0, .cons _ r => r
  | _, _, n + 1, .cons a r => .cons a (r.eraseIdx n)
theorem Reps.dropLast : ∀ {ds : List D} {vs : List V}, Reps K F ds vs → Reps K F ds.dropLast vs.dropLast
  | _, _, .nil => .nil
  | _, _, .cons a .nil => .nil
  | _, _, .cons a (.cons b r) => .cons a (Reps.dropLast (.cons b r))
theorem Reps.reverse : ∀ {ds : List D} {vs : List V}, Reps K F ds vs → Reps K F ds.reverse vs.reverse
  | _, _, .nil => .nil
  | _, _, .cons a r => by
    rw [List.reverse_cons, List.reverse_cons]
    exact r.reverse.append (.cons a .nil)
theorem Reps.rep {ds : List D} {vs : List V} (h : Reps K F ds vs) : ∀ n : Nat, Reps K F (rep n ds) (rep n vs)
  | 0 => .nil
  | n + 1 => h.append (h.rep n)
theorem Rep.int_inv {d : D} {i : Int} (h : Rep K F d (.int i)) : d = .int i := by cases h; rfl
end

/-! ### the states -/
/-- an object that may be changed -/
def ObjR (K : Fr) (F : Hp) : MO → Option HO → Prop
  | .lst ds, some (.lst vs) => ds.length ≤ big ∧ Reps K F ds vs
  | .dct t l, some u => ∃ vs, u = hoD t (zipK l vs) ∧ l.length ≤ big ∧ (∀ p ∈ l, KOk t p.1) ∧ Reps K F (l.map Prod.snd) vs
  | _, _ => False
theorem mut_hoD (t : Bool) (kvs : List (List Key × V)) : Mut (some (hoD t kvs)) := by cases t <;> exact trivial
theorem ObjR.mono {K : Fr} {F F' : Hp} (s : Sub F F') {o : MO} {h : Option HO} (q : ObjR K F o h) : ObjR K F' o h := by
  cases o with
  | lst ds =>
    cases h with
    | none => exact q
    | some u => cases u <;> first | exact q.elim | exact ⟨q.1, Reps.mono s q.2⟩
  | dct t l =>
    cases h with
    | none => exact q
    | some u => obtain ⟨vs, e, z, k, r⟩ := q; exact ⟨vs, e, z, k, Reps.mono s r⟩
theorem ObjR.mut {K : Fr} {F : Hp} {o : MO} {h : Option HO} (q : ObjR K F o h) : ∃ u, h = some u ∧ Mut (some u) := by
  cases o with
  | lst ds =>
    cases h with
    | none => exact q.elim
    | some u => cases u <;> first | exact q.elim | exact ⟨_, rfl, trivial⟩
  | dct t l =>
    cases h with
    | none => exact q.elim
    | some u => obtain ⟨vs, rfl, _⟩ := q; exact ⟨_, rfl, mut_hoD _ _⟩
/-- F: what stands still; μ: the places of the objects of the store M; H: all -/
structure Sim (K : Fr) (F : Hp) (μ : List Addr) (M : Mem) (H : Hp) : Prop where
  sub : Sub F H
  out : ∀ a ∈ μ, F a = none
  nd : μ.Nodup
  len : μ.length = M.length
  obj : ∀ (i : Nat) (o : MO) (a : Addr), M[i]? = some o → μ[i]? = some a → ObjR K F o (H a)
def RepV (K : Fr) (F : Hp) (μ : List Addr) : Val → V → Prop
  | .d x, v => Rep K F x v
  | .ref n, v => ∃ a, μ[n]? = some a ∧ v = .ref a
inductive RepVs (K : Fr) (F : Hp) (μ : List Addr) : List Val → List V → Prop
  | nil : RepVs K F μ [] []
  | cons {x : Val} {v : V} {xs : List Val} {vs : List V} : RepV K F μ x v → RepVs K F μ xs vs → RepVs K F μ (x :: xs) (v :: vs)
structure RepS (K : Fr) (F : Hp) (μ : List Addr) (δ : Sl) (σ : L2.St) : Prop where
  len : δ.length = σ.length
  at_ : ∀ (i : Nat) (x : Val), δ[i]? = some (some x) → ∃ v, σ[i]? = some (some v) ∧ RepV K F μ x v
/-- what may have changed: the first b objects of the store keep their places -/
structure Step (b : Nat) (F : Hp) (μ : List Addr) (H : Hp) (F' : Hp) (μ' : List Addr) (H' : Hp) : Prop where
  fr : Sub F F'
  pre : μ'.take b = μ.take b
  new : ∀ a ∈ μ', a ∈ μ ∨ H a = none
  keep : ∀ a o, H a = some o → a ∉ μ → H' a = some o
  up : ∀ a, H' a = none → H a = none
  newF : ∀ a o, F' a = some o → F a = some o ∨ H a = none ∨ (a ∈ μ ∧ a ∉ μ.take b) ∨ ∃ xs, o = .tup xs
theorem Step.refl (b : Nat) (F : Hp) (μ : List Addr) (H : Hp) : Step b F μ H F μ H :=
  ⟨Sub.refl F, rfl, fun _ h => .inl h, fun _ _ h _ => h, fun _ h => h, fun _ _ h => .inl h⟩
theorem Step.trans {b : Nat} {F F1 F2 : Hp} {μ μ1 μ2 : List Addr} {H H1 H2 : Hp} (s : Step b F μ H F1 μ1 H1) (t : Step b F1 μ1 H1 F2 μ2 H2) : Step b F μ H F2 μ2 H2 where
  fr := s.fr.trans t.fr
  pre := t.pre.trans s.pre
  new := fun a h => by
    rcases t.new a h with h | h
    · exact s.new a h
    · exact .inr (s.up a h)
  keep := fun a o h n => t.keep a o (s.keep a o h n) fun q => by
    rcases s.new a q with q | q
    · exact n q
    · rw [h] at q; cases q
  up := fun a h => s.up a (t.up a h)
  newF := fun a o h => by
    rcases t.newF a o h with h | h | ⟨h, n⟩ | h
    · exact s.newF a o h
    · exact .inr (.inl (s.up a h))
    · rw [s.pre] at n
      rcases s.new a h with h | h
      · exact .inr (.inr (.inl ⟨h, n⟩))
      · exact .inr (.inl h)
    · exact .inr (.inr (.inr h))
theorem Step.mono {b c : Nat} {F F1 : Hp} {μ μ1 : List Addr} {H H1 : Hp} (s : Step c F μ H F1 μ1 H1) (h : b ≤ c) : Step b F μ H F1 μ1 H1 where
  fr := s.fr
  pre := by
    have e := congrArg (List.take b) s.pre
    rw [List.take_take, List.take_take, Nat.min_eq_left h] at e
    exact e
  new := s.new
  keep := s.keep
  up := s.up
  newF := fun a o q => by
    rcases s.newF a o q with q | q | ⟨q, n⟩ | q
    · exact .inl q
    · exact .inr (.inl q)
    · refine .inr (.inr (.inl ⟨q, fun z => n ?_⟩))
      have e : μ.take b = (μ.take c).take b := by rw [List.take_take, Nat.min_eq_left h]
      rw [e] at z
      exact List.mem_of_mem_take z
    · exact .inr (.inr (.inr q))
/-- the store's places at the start stay -/
theorem Step.get {b : Nat} {F F1 : Hp} {μ μ1 : List Addr} {H H1 : Hp} (s : Step b F μ H F1 μ1 H1) {n : Nat} (hn : n < b) : μ1[n]? = μ[n]? := by
  have e := congrArg (fun l : List Addr => l[n]?) s.pre
  simpa [List.getElem?_take, hn] using e
theorem Sim.mutAt {K : Fr} {F : Hp} {μ : List Addr} {M : Mem} {H : Hp} (S : Sim K F μ M H) {a : Addr} (h : a ∈ μ) : ∃ u, H a = some u ∧ Mut (some u) := by
  obtain ⟨i, hi, e⟩ := List.getElem_of_mem h
  have e1 : μ[i]? = some a := by rw [List.getElem?_eq_getElem hi, e]
  have hm : i < M.length := by rw [← S.len]; exact hi
  exact (S.obj i M[i] a (List.getElem?_eq_getElem hm) e1).mut
theorem Sim.tracked {K : Fr} {F : Hp} {μ : List Addr} {M : Mem} {H : Hp} (S : Sim K F μ M H) {a : Addr} (h : a ∈ μ) : H a ≠ none := by
  obtain ⟨i, hi, e⟩ := List.getElem_of_mem h
  have e1 : μ[i]? = some a := by rw [List.getElem?_eq_getElem hi, e]
  have hm : i < M.length := by rw [← S.len]; exact hi
  have q := S.obj i M[i] a (List.getElem?_eq_getElem hm) e1
  intro z
  rw [z] at q
  cases hM : M[i] <;> rw [hM] at q <;> exact q
theorem Sim.alen {K : Fr} {F : Hp} {μ : List Addr} {M : Mem} {H : Hp} (S : Sim K F μ M H) {n : Nat} {a : Addr} (h : μ[n]? = some a) : n < M.length := by
  rw [← S.len]; exact (List.getElem?_eq_some_iff.mp h).1
theorem RepV.mono {K : Fr} {F F1 : Hp} {μ μ1 : List Addr} (s : Sub F F1) (p : μ1.take μ.length = μ) : ∀ {x : Val} {v : V}, RepV K F μ x v → RepV K F1 μ1 x v
  | .d _, _, h => Rep.mono s h
  | .ref n, _, ⟨a, h, e⟩ => ⟨a, by
      have hn : n < μ.length := (List.getElem?_eq_some_iff.mp h).1
      have q := congrArg (fun l : List Addr => l[n]?) p
      simp only [List.getElem?_take, hn, if_true] at q
      rw [q, h], e⟩
theorem RepVs.mono {K : Fr} {F F1 : Hp} {μ μ1 : List Addr} (s : Sub F F1) (p : μ1.take μ.length = μ) : ∀ {x : List Val} {v : List V}, RepVs K F μ x v → RepVs K F1 μ1 x v
  | _, _, .nil => .nil
  | _, _, .cons h r => .cons (h.mono s p) (r.mono s p)
theorem RepS.mono {K : Fr} {F F1 : Hp} {μ μ1 : List Addr} {δ : Sl} {σ : L2.St} (s : Sub F F1) (p : μ1.take μ.length = μ) (h : RepS K F μ δ σ) : RepS K F1 μ1 δ σ :=
  ⟨h.len, fun i x e => let ⟨v, e1, q⟩ := h.at_ i x e; ⟨v, e1, q.mono s p⟩⟩
/-- a step of an expression -/
abbrev StepE (F : Hp) (μ : List Addr) (H : Hp) (F' : Hp) (μ' : List Addr) (H' : Hp) : Prop := Step μ.length F μ H F' μ' H'
theorem Step.whole {F F' : Hp} {μ μ' : List Addr} {H H' : Hp} (s : StepE F μ H F' μ' H') : μ'.take μ.length = μ := by
  have e := s.pre
  rwa [List.take_length] at e
theorem Step.leE {F F' : Hp} {μ μ' : List Addr} {H H' : Hp} (s : StepE F μ H F' μ' H') : μ.length ≤ μ'.length := by
  have e := congrArg List.length s.whole
  rw [List.length_take] at e
  omega
theorem Step.transE {F F1 F2 : Hp} {μ μ1 μ2 : List Addr} {H H1 H2 : Hp} (s : StepE F μ H F1 μ1 H1) (t : StepE F1 μ1 H1 F2 μ2 H2) : StepE F μ H F2 μ2 H2 :=
  Step.trans s (t.mono s.leE)

/-! ### new objects that stand still -/
structure NewF (F H F' H' : Hp) : Prop where
  fr : Sub F F'
  sub : Sub F' H'
  keep : Sub H H'
  newF : ∀ a o, F' a = some o → F a = some o ∨ H a = none ∨ ∃ xs, o = .tup xs
theorem NewF.refl {F H : Hp} (s : Sub F H) : NewF F H F H := ⟨Sub.refl F, s, Sub.refl H, fun _ _ h => .inl h⟩
theorem NewF.alloc {F H : Hp} (s : Sub F H) {p : Addr} (hp : H p = none) (o : HO) : NewF F H (upd F p o) (upd H p o) where
  fr := fun a u h => by
    have e : a ≠ p := fun e => by subst e; rw [s _ _ h] at hp; cases hp
    rw [upd_ne e]; exact h
  sub := fun a u h => by
    by_cases e : a = p
    · subst e; rw [upd_same] at h ⊢; exact h
    · rw [upd_ne e] at h ⊢; exact s _ _ h
  keep := fun a u h => by rw [upd_ne (ne_of_none h hp)]; exact h
  newF := fun a u h => by
    by_cases e : a = p
    · subst e; exact .inr (.inl hp)
    · rw [upd_ne e] at h; exact .inl h
/-- a tuple that stood before stands still -/
theorem NewF.tupIn {F H : Hp} (s : Sub F H) {p : Addr} {xs : List V} (hp : H p = some (.tup xs)) : NewF F H (upd F p (.tup xs)) H where
  fr := fun a u h => by
    by_cases e : a = p
    · subst e; rw [s _ _ h] at hp; cases hp; exact upd_same
    · rw [upd_ne e]; exact h
  sub := fun a u h => by
    by_cases e : a = p
    · subst e; rw [upd_same] at h; cases h; exact hp
    · rw [upd_ne e] at h; exact s _ _ h
  keep := Sub.refl H
  newF := fun a u h => by
    by_cases e : a = p
    · subst e; rw [upd_same] at h; cases h; exact .inr (.inr ⟨_, rfl⟩)
    · rw [upd_ne e] at h; exact .inl h
theorem NewF.trans {F H F1 H1 F2 H2 : Hp} (a : NewF F H F1 H1) (b : NewF F1 H1 F2 H2) : NewF F H F2 H2 where
  fr := a.fr.trans b.fr
  sub := b.sub
  keep := a.keep.trans b.keep
  newF := fun c o h => by
    rcases b.newF c o h with h | h | h
    · exact a.newF c o h
    · refine .inr (.inl ?_)
      cases q : H c with
      | none => rfl
      | some u => rw [a.keep c u q] at h; cases h
    · exact .inr (.inr h)
theorem NewF.sim {K : Fr} {F H F' H' : Hp} {μ : List Addr} {M : Mem} (n : NewF F H F' H') (S : Sim K F μ M H) : Sim K F' μ M H' where
  sub := n.sub
  out := fun a h => by
    cases q : F' a with
    | none => rfl
    | some o =>
      rcases n.newF a o q with q1 | q1 | ⟨xs, rfl⟩
      · rw [S.out a h] at q1; cases q1
      · exact absurd q1 (S.tracked h)
      · obtain ⟨u, e, m⟩ := S.mutAt h
        have z := n.keep a u e
        rw [n.sub a _ q] at z
        cases z
        exact m.elim
  nd := S.nd
  len := S.len
  obj := fun i o a h1 h2 => by
    have q := S.obj i o a h1 h2
    cases e : H a with
    | none => exact absurd e (S.tracked (List.mem_of_getElem? h2))
    | some u =>
      rw [e] at q
      rw [n.keep a u e]
      exact q.mono n.fr
theorem NewF.step {F H F' H' : Hp} {μ : List Addr} (n : NewF F H F' H') : StepE F μ H F' μ H' where
  fr := n.fr
  pre := rfl
  new := fun _ h => .inl h
  keep := fun a o h _ => n.keep a o h
  up := fun a h => by
    cases q : H a with
    | none => rfl
    | some o => rw [n.keep a o q] at h; cases h
  newF := fun a o h => by
    rcases n.newF a o h with h | h | h
    · exact .inl h
    · exact .inr (.inl h)
    · exact .inr (.inr (.inr h))

/-! ### readings that are the evaluator's -/
theorem _root_.L2.PE.imp {X : Cx} {e : Expr} {t t' : TE} (h : PE X e t) (i : ∀ σ H Q, t' σ H Q → t σ H Q) : PE X e t' := ⟨fun pins s σ H Q I q => h.run pins s σ H Q I (i σ H Q q)⟩
theorem _root_.L2.PT.imp {X : Cx} {e : Expr} {t t' : TT} (h : PT X e t) (i : ∀ σ H Q, t' σ H Q → t σ H Q) : PT X e t' := ⟨fun pins s σ H Q I q => h.run pins s σ H Q I (i σ H Q q)⟩
theorem _root_.L2.PA.imp {X : Cx} {e : List Expr} {t t' : TA} (h : PA X e t) (i : ∀ σ H Q, t' σ H Q → t σ H Q) : PA X e t' := ⟨fun pos pins s σ H Q I q => h.run pos pins s σ H Q I (i σ H Q q)⟩
theorem _root_.L2.PK.imp {X : Cx} {e : List Keyword} {t t' : TA} (h : PK X e t) (i : ∀ σ H Q, t' σ H Q → t σ H Q) : PK X e t' := ⟨fun pos pins s σ H Q I q => h.run pos pins s σ H Q I (i σ H Q q)⟩
theorem _root_.L2.PS.imp {X : Cx} {e : Stmt} {t t' : TS} (h : PS X e t) (i : ∀ D σ H, t' D σ H → t D σ H) : PS X e t' := ⟨fun pins s σ H D I q => h.run pins s σ H D I (i D σ H q)⟩
theorem _root_.L2.PSs.imp {X : Cx} {e : List Stmt} {t t' : TS} (h : PSs X e t) (i : ∀ D σ H, t' D σ H → t D σ H) : PSs X e t' := ⟨fun pins s σ H D I q => h.run pins s σ H D I (i D σ H q)⟩

/-- fr: a list that is new and that nothing else holds; else what stands for the value -/
def PostV (fr : Bool) (K : Fr) (F : Hp) (μ : List Addr) (H0 H : Hp) (x : Val) (v : V) : Prop := match fr with
  | false => RepV K F μ x v
  | true => ∃ a ds vs, x = .d (.lst ds) ∧ v = .ref a ∧ H a = some (.lst vs) ∧ F a = none ∧ a ∉ μ ∧ H0 a = none ∧ ds.length ≤ big ∧ Reps K F ds vs
/-- what the evaluator says of an expression -/
def LE (fr : Bool) (K : Fr) (f : Sl → Mem → Res Val) : TE := fun σ H Q => ∃ δ M F μ x M', Sim K F μ M H ∧ RepS K F μ δ σ ∧ f δ M = .ok x M' ∧
  ∀ F' μ' H' v, StepE F μ H F' μ' H' → Sim K F' μ' M' H' → PostV fr K F' μ' H H' x v → Q v H'
def LT (K : Fr) (f : Sl → Mem → Res Bool) : TT := fun σ H Q => ∃ δ M F μ x M', Sim K F μ M H ∧ RepS K F μ δ σ ∧ f δ M = .ok x M' ∧
  ∀ F' μ' H', StepE F μ H F' μ' H' → Sim K F' μ' M' H' → Q x H'
def LA (K : Fr) (f : Sl → Mem → Res (List Val)) : TA := fun σ H Q => ∃ δ M F μ x M', Sim K F μ M H ∧ RepS K F μ δ σ ∧ f δ M = .ok x M' ∧
  ∀ F' μ' H' v, StepE F μ H F' μ' H' → Sim K F' μ' M' H' → RepVs K F' μ' x v → Q v H'
def LDs (K : Fr) (f : Sl → Mem → Res (List D)) : TA := fun σ H Q => ∃ δ M F μ x M', Sim K F μ M H ∧ RepS K F μ δ σ ∧ f δ M = .ok x M' ∧
  ∀ F' μ' H' v, StepE F μ H F' μ' H' → Sim K F' μ' M' H' → Reps K F' x v → Q v H'
/-- what is wanted behind a statement, from the state before it -/
def LSk (b : Nat) (K : Fr) (D : Ends) (F : Hp) (μ : List Addr) (H : Hp) (M' : Mem) : Flow → Prop
  | .nx δ' => ∀ F' μ' H' σ', b ≤ μ'.length → Step b F μ H F' μ' H' → Sim K F' μ' M' H' → RepS K F' μ' δ' σ' → D.nx σ' H'
  | .brk δ' => ∀ F' μ' H' σ', b ≤ μ'.length → Step b F μ H F' μ' H' → Sim K F' μ' M' H' → RepS K F' μ' δ' σ' → D.bk σ' H'
  | .cont δ' => ∀ F' μ' H' σ', b ≤ μ'.length → Step b F μ H F' μ' H' → Sim K F' μ' M' H' → RepS K F' μ' δ' σ' → D.ct σ' H'
  | .ret x => ∀ F' μ' H' v, b ≤ μ'.length → Step b F μ H F' μ' H' → Sim K F' μ' M' H' → RepV K F' μ' x v → D.rt v H'
theorem LSk.back {b : Nat} {K : Fr} {D : Ends} {F F1 : Hp} {μ μ1 : List Addr} {H H1 : Hp} {M' : Mem} {x : Flow} (st : Step b F μ H F1 μ1 H1) (k : LSk b K D F μ H M' x) : LSk b K D F1 μ1 H1 M' x := by
  cases x with
  | nx δ' => exact fun F' μ' H' σ' h1 h2 => k F' μ' H' σ' h1 (st.trans h2)
  | brk δ' => exact fun F' μ' H' σ' h1 h2 => k F' μ' H' σ' h1 (st.trans h2)
  | cont δ' => exact fun F' μ' H' σ' h1 h2 => k F' μ' H' σ' h1 (st.trans h2)
  | ret v => exact fun F' μ' H' w h1 h2 => k F' μ' H' w h1 (st.trans h2)
/-- base b: the def's callers' objects -/
def LS (b : Nat) (K : Fr) (f : Sl → Mem → Res Flow) : TS := fun D σ H => ∃ δ M F μ x M', b ≤ μ.length ∧ Sim K F μ M H ∧ RepS K F μ δ σ ∧ f δ M = .ok x M' ∧ LSk b K D F μ H M' x

theorem bind_ok {α β : Type} {r : Res α} {f : α → Mem → Res β} {y : β} {M : Mem} (h : r.bind f = .ok y M) : ∃ x M1, r = .ok x M1 ∧ f x M1 = .ok y M := by
  cases r with
  | ok x M1 => exact ⟨x, M1, rfl, h⟩
  | bad => cases h
theorem of_ok {α : Type} {o : Option α} {M M' : Mem} {x : α} (h : Res.of o M = .ok x M') : o = some x ∧ M' = M := by
  cases o with
  | none => cases h
  | some y => cases h; exact ⟨rfl, rfl⟩
/-- a new list is let stand still -/
theorem PostV.freeze {K : Fr} {F F' : Hp} {μ μ' : List Addr} {M' : Mem} {H H' : Hp} {x : Val} {v : V} (st : StepE F μ H F' μ' H') (S : Sim K F' μ' M' H') (p : PostV true K F' μ' H H' x v) :
    ∃ F'', StepE F μ H F'' μ' H' ∧ Sim K F'' μ' M' H' ∧ RepV K F'' μ' x v := by
  obtain ⟨a, ds, vs, rfl, rfl, h1, h2, h3, h4, h6, h5⟩ := p
  have sb : Sub F' (upd F' a (.lst vs)) := fun b o q => by
    have e : b ≠ a := fun e => by subst e; rw [h2] at q; cases q
    rw [upd_ne e]; exact q
  refine ⟨upd F' a (.lst vs), ⟨st.fr.trans sb, st.pre, st.new, st.keep, st.up, fun b o q => ?_⟩, ⟨fun b o q => ?_, fun b hb => ?_, S.nd, S.len, fun i o b q1 q2 => ?_⟩, ?_⟩
  · by_cases e : b = a
    · subst e; exact .inr (.inl h4)
    · rw [upd_ne e] at q; exact st.newF b o q
  · by_cases e : b = a
    · subst e; rw [upd_same] at q; cases q; exact h1
    · rw [upd_ne e] at q; exact S.sub b o q
  · rw [upd_ne (fun e => h3 (by rw [← e]; exact hb))]; exact S.out b hb
  · exact (S.obj i o b q1 q2).mono sb
  · exact Rep.lst h6 upd_same (Reps.mono sb h5)
theorem _root_.L2.PE.frozen {X : Cx} {e : Expr} {f : Sl → Mem → Res Val} (h : PE X e (LE true X.K f)) : PE X e (LE false X.K f) :=
  h.imp fun σ H Q ⟨δ, M, F, μ, x, M', S, R, ef, k⟩ => ⟨δ, M, F, μ, x, M', S, R, ef, fun F' μ' H' v st S' p => by
    obtain ⟨F'', st', S'', r⟩ := PostV.freeze st S' p
    exact k F'' μ' H' v st' S'' r⟩
/-- a new list is taken into the store -/
theorem _root_.L2.PE.newed {X : Cx} {e : Expr} {f : Sl → Mem → Res Val} (h : PE X e (LE true X.K f)) : PE X e (LE false X.K fun δ M => (f δ M).bind fun v M1 => match v with
    | .d (.lst l) => .ok (.ref M1.length) (M1 ++ [.lst l])
    | _ => .bad) :=
  h.imp fun σ H Q ⟨δ, M, F, μ, x, M', S, R, ef, k⟩ => by
    obtain ⟨y, M1, e1, e2⟩ := bind_ok ef
    refine ⟨δ, M, F, μ, y, M1, S, R, e1, fun F' μ' H' v st S' p => ?_⟩
    obtain ⟨a, ds, vs, rfl, rfl, h1, h2, h3, h4, h6, h5⟩ := p
    cases e2
    refine k F' (μ' ++ [a]) H' (.ref a) ⟨st.fr, ?_, fun b hb => ?_, st.keep, st.up, st.newF⟩ ⟨S'.sub, fun b hb => ?_, ?_, ?_, fun i o b q1 q2 => ?_⟩ ⟨a, ?_, rfl⟩
    · rw [List.take_append_of_le_length st.leE]; exact st.pre
    · rcases List.mem_append.mp hb with hb | hb
      · exact st.new b hb
      · rw [List.mem_singleton.mp hb]; exact .inr h4
    · rcases List.mem_append.mp hb with hb | hb
      · exact S'.out b hb
      · rw [List.mem_singleton.mp hb]; exact h2
    · exact List.nodup_append.mpr ⟨S'.nd, (by simp), fun b hb c hc e => by rw [List.mem_singleton.mp hc] at e; exact h3 (by rw [← e]; exact hb)⟩
    · rw [List.length_append, List.length_append, S'.len]; rfl
    · have hl := S'.len
      by_cases hi : i < M1.length
      · rw [List.getElem?_append_left hi] at q1
        rw [List.getElem?_append_left (by omega)] at q2
        exact S'.obj i o b q1 q2
      · rw [List.getElem?_append_right (by omega)] at q1 q2
        have z : i - M1.length = 0 := by
          have := (List.getElem?_eq_some_iff.mp q1).1
          simp at this; omega
        rw [z] at q1
        rw [hl, z] at q2
        cases q1; cases q2
        rw [h1]; exact ⟨h6, h5⟩
    · rw [List.getElem?_append_right (by rw [S'.len]; exact Nat.le_refl _), S'.len, Nat.sub_self]; rfl

/-! ### plain operators by values -/
/-- the data as they are seen: a list of the store by what it holds -/
inductive RepT (K : Fr) (F H : Hp) : D → V → Prop
  | d {x : D} {v : V} : Rep K F x v → RepT K F H x v
  | dct {a : Addr} (t : Bool) {l : List (List K1 × D)} {vs : List V} : l.length ≤ big → (∀ p ∈ l, KOk t p.1) → H a = some (hoD t (zipK l vs)) → Reps K F (l.map Prod.snd) vs → RepT K F H (.dct t l) (.ref a)
  | lst {a : Addr} {ds : List D} {vs : List V} : ds.length ≤ big → H a = some (.lst vs) → Reps K F ds vs → RepT K F H (.lst ds) (.ref a)
inductive RepTs (K : Fr) (F H : Hp) : List D → List V → Prop
  | nil : RepTs K F H [] []
  | cons {d : D} {v : V} {ds : List D} {vs : List V} : RepT K F H d v → RepTs K F H ds vs → RepTs K F H (d :: ds) (v :: vs)
theorem Sim.view {K : Fr} {F : Hp} {μ : List Addr} {M : Mem} {H : Hp} (S : Sim K F μ M H) {x : Val} {v : V} {d : D} (r : RepV K F μ x v) (h : view M x = some d) : RepT K F H d v := by
  cases x with
  | d y => cases h; exact .d r
  | ref n =>
    obtain ⟨a, ha, rfl⟩ := r
    rw [view_ref] at h
    cases e : M[n]? with
    | none => rw [e] at h; cases h
    | some o =>
      rw [e] at h
      cases h
      have q := S.obj n o a e ha
      cases o with
      | lst ds =>
        cases e2 : H a with
        | none => rw [e2] at q; exact q.elim
        | some u => rw [e2] at q; cases u <;> first | exact q.elim | exact .lst q.1 e2 q.2
      | dct t l =>
        cases e2 : H a with
        | none => rw [e2] at q; exact q.elim
        | some u => rw [e2] at q; obtain ⟨ws, rfl, z, kk, r⟩ := q; exact .dct t z kk e2 r
theorem Sim.views {K : Fr} {F : Hp} {μ : List Addr} {M : Mem} {H : Hp} (S : Sim K F μ M H) : ∀ {xs : List Val} {vs : List V} {ds : List D}, RepVs K F μ xs vs → views M xs = some ds → RepTs K F H ds vs
  | _, _, _, .nil, h => by cases h; exact .nil
  | x :: xs, _, ds, .cons r rs, h => by
    rw [views_cons] at h
    cases e1 : DL.view M x with
    | none => rw [e1] at h; cases h
    | some d =>
      cases e2 : DL.views M xs with
      | none => rw [e1, e2] at h; cases h
      | some l =>
        rw [e1, e2] at h
        cases h
        exact .cons (S.view r e1) (S.views rs e2)
/-- what an operator on data is to leave: fr as in PostV -/
def PostD (fr : Bool) (K : Fr) (F H : Hp) (d : D) (Q : VK) : Prop := match fr with
  | false => ∀ F' H' u, NewF F H F' H' → Rep K F' d u → Q u H'
  | true => ∀ F' H' a ds us, NewF F H F' H' → d = .lst ds → H' a = some (.lst us) → F' a = none → H a = none → ds.length ≤ big → Reps K F' ds us → Q (.ref a) H'
def r2D (fr : Bool) (K : Fr) (p : D → D → Option D) : R2 := fun v w H Q => ∃ F x y d, Sub F H ∧ RepT K F H x v ∧ RepT K F H y w ∧ p x y = some d ∧ PostD fr K F H d Q
def r1D (fr : Bool) (K : Fr) (p : D → Option D) : V → Hp → VK → Prop := fun v H Q => ∃ F x d, Sub F H ∧ RepT K F H x v ∧ p x = some d ∧ PostD fr K F H d Q
def rLD (fr : Bool) (K : Fr) (p : List D → Option D) : List V → Hp → VK → Prop := fun vs H Q => ∃ F xs d, Sub F H ∧ RepTs K F H xs vs ∧ p xs = some d ∧ PostD fr K F H d Q
def rMD (fr : Bool) (K : Fr) (p : D → List D → Option D) : V → List V → Hp → VK → Prop := fun v vs H Q => ∃ F x xs d, Sub F H ∧ RepT K F H x v ∧ RepTs K F H xs vs ∧ p x xs = some d ∧ PostD fr K F H d Q
/-- what PostD asks, from what LE asks behind the last argument -/
theorem PostD.of {fr : Bool} {K : Fr} {F : Hp} {μ : List Addr} {M : Mem} {H0 H : Hp} {d : D} {Q : VK} (S : Sim K F μ M H) (h0 : ∀ a, H a = none → H0 a = none)
    (k : ∀ F' H' v, NewF F H F' H' → Sim K F' μ M H' → PostV fr K F' μ H0 H' (.d d) v → Q v H') : PostD fr K F H d Q := by
  cases fr with
  | false => exact fun F' H' u n r => k F' H' u n (n.sim S) r
  | true =>
    refine fun F' H' a ds us n e h1 h2 h3 h4 r => k F' H' (.ref a) n (n.sim S) ⟨a, ds, us, by rw [e], rfl, h1, h2, fun z => S.tracked z h3, h0 a h3, h4, r⟩
end DL
end P_DL1
section P_DL2
set_option Elab.async false
set_option linter.all false
set_option maxRecDepth 100000
set_option maxHeartbeats 1000000
/-! The evaluator's forms of expressions over the rules of HandS. -/
namespace DL
open PySem PySem.Spec PyProof.Rows L2
section
variable {X : Cx} {fa fb fc : Sl → Mem → Res Val} {a b c e : Expr} {pos : Pos} {fr : Bool}

theorem res_map {o : Option D} {M M' : Mem} {x : Val} (h : Res.of (o.map Val.d) M = .ok x M') : ∃ d, o = some d ∧ x = .d d ∧ M' = M := by
  obtain ⟨h1, h2⟩ := of_ok h
  cases o with
  | none => cases h1
  | some d => cases h1; exact ⟨d, rfl, rfl, h2⟩
/-- two values, then an operator on what they are seen as -/
def ev2 (p : D → D → Option D) (fa fb : Sl → Mem → Res Val) : Sl → Mem → Res Val := fun s M => (fa s M).bind fun v M1 => (fb s M1).bind fun w M2 => match view M2 v, view M2 w with
  | some x, some y => Res.of ((p x y).map .d) M2
  | _, _ => .bad
theorem lift2 {K : Fr} {p : D → D → Option D} {σ : L2.St} {H : Hp} {Q : VK} (h : LE fr K (ev2 p fa fb) σ H Q) : tOp (r2D fr K p) (LE false K fa) (LE false K fb) σ H Q := by
  obtain ⟨δ, M, F, μ, x, M', S, R, e0, k⟩ := h
  obtain ⟨v, M1, e1, e0⟩ := bind_ok e0
  obtain ⟨w, M2, e2, e0⟩ := bind_ok e0
  refine ⟨δ, M, F, μ, v, M1, S, R, e1, fun F1 μ1 H1 v1 st1 S1 r1 => ⟨δ, M1, F1, μ1, w, M2, S1, R.mono st1.fr st1.whole, e2, fun F2 μ2 H2 v2 st2 S2 r2 => ?_⟩⟩
  cases hx : view M2 v with
  | none => rw [hx] at e0; cases e0
  | some dx =>
    cases hy : view M2 w with
    | none => rw [hx, hy] at e0; cases e0
    | some dy =>
      rw [hx, hy] at e0
      obtain ⟨d, hd, rfl, rfl⟩ := res_map e0
      exact ⟨F2, dx, dy, d, S2.sub, S2.view (RepV.mono st2.fr st2.whole r1) hx, S2.view r2 hy, hd, PostD.of S2 (fun a h => st1.up a (st2.up a h)) fun F' H' u n S' q => k F' μ2 H' u (st1.transE (st2.transE n.step)) S' q⟩
/-- one value -/
def ev1 (p : D → Option D) (fa : Sl → Mem → Res Val) : Sl → Mem → Res Val := fun s M => (fa s M).bind fun v M1 => match view M1 v with
  | some x => Res.of ((p x).map .d) M1
  | none => .bad
theorem lift1 {K : Fr} {p : D → Option D} {σ : L2.St} {H : Hp} {Q : VK} (h : LE fr K (ev1 p fa) σ H Q) : tUn (r1D fr K p) (LE false K fa) σ H Q := by
  obtain ⟨δ, M, F, μ, x, M', S, R, e0, k⟩ := h
  obtain ⟨v, M1, e1, e0⟩ := bind_ok e0
  refine ⟨δ, M, F, μ, v, M1, S, R, e1, fun F1 μ1 H1 v1 st1 S1 r1 => ?_⟩
  cases hx : view M1 v with
  | none => rw [hx] at e0; cases e0
  | some dx =>
    rw [hx] at e0
    obtain ⟨d, hd, rfl, rfl⟩ := res_map e0
    exact ⟨F1, dx, d, S1.sub, S1.view r1 hx, hd, PostD.of S1 (fun a h => st1.up a h) fun F' H' u n S' q => k F' μ1 H' u (st1.transE n.step) S' q⟩
/-- a test by a value -/
theorem liftT {K : Fr} {f : Sl → Mem → Res Val} {σ : L2.St} {H : Hp} {Q : Bool → Hp → Prop} (h : LT K (fun s M => toB (f s M)) σ H Q) : LE false K f σ H (fun x H' => ∃ k, x = .bl k ∧ Q k H') := by
  obtain ⟨δ, M, F, μ, x, M', S, R, e0, k⟩ := h
  obtain ⟨v, M1, e1, e0⟩ := bind_ok e0
  refine ⟨δ, M, F, μ, v, M1, S, R, e1, fun F1 μ1 H1 v1 st1 S1 r1 => ?_⟩
  cases v with
  | ref n => cases e0
  | d y =>
    cases y <;> first
      | (cases e0; cases r1; exact ⟨_, rfl, k F1 μ1 H1 st1 S1⟩)
      | cases e0

/-! ### values that are there -/
theorem q_const {x : D} {k : Nat} {co : Const} (h : ∀ (v : V), (∀ F, Rep X.K F x v) → PE X (.Constant co k pos) (tC v)) (hv : ∃ v, ∀ F, Rep X.K F x v) : PE X (.Constant co k pos) (LE false X.K fun _ M => .ok (.d x) M) := by
  obtain ⟨v, hr⟩ := hv
  refine (h v hr).imp fun σ H Q ⟨δ, M, F, μ, y, M', S, R, e0, kk⟩ => ?_
  cases e0
  exact kk F μ H v (Step.refl _ _ _ _) S (hr F)
theorem q_still {x : D} {v : V} (h : PE X e (tC v)) (hr : ∀ F, Rep X.K F x v) : PE X e (LE false X.K fun _ M => .ok (.d x) M) := by
  refine h.imp fun σ H Q ⟨δ, M, F, μ, y, M', S, R, e0, kk⟩ => ?_
  cases e0
  exact kk F μ H v (Step.refl _ _ _ _) S (hr F)
theorem q_var {i : Nat} {x : Str} (hN : X.N[i]? = some x) (hv : Vis X.env.scope x) (hd : (x == ("__debug__" : Str)) = false) (hcd : (x == ("__classdict__" : Str)) = false) :
    PE X (.Name x pos) (LE false X.K fun s M => match s[i]? with
      | some (some v) => .ok v M
      | _ => .bad) := by
  refine (pe_var hN hv hd hcd).imp fun σ H Q ⟨δ, M, F, μ, y, M', S, R, e0, kk⟩ => ?_
  cases h1 : δ[i]? with
  | none => simp only [h1] at e0; cases e0
  | some o =>
    cases o with
    | none => simp only [h1] at e0; cases e0
    | some z =>
      simp only [h1] at e0
      cases e0
      obtain ⟨v, e1, r⟩ := R.at_ i _ h1
      exact ⟨v, e1, kk F μ H v (Step.refl _ _ _ _) S r⟩

/-! ### operators -/
theorem q_bin {op : Operator} {p : D → D → Option D} (ho : OpR X (binaryOp op) (r2D fr X.K p)) (ha : PE X a (LE false X.K fa)) (hb : PE X b (LE false X.K fb)) : PE X (.BinOp a op b pos) (LE fr X.K (ev2 p fa fb)) :=
  (pe_op ho ha hb).imp fun _ _ _ h => lift2 h
theorem q_un {op : UnaryOp} {p : D → Option D} (ho : UnR X (unaryOp op) (r1D fr X.K p)) (ha : PE X a (LE false X.K fa)) : PE X (.UnaryOp op a pos) (LE fr X.K (ev1 p fa)) :=
  (pe_un ho ha).imp fun _ _ _ h => lift1 h
theorem q_cmp {op : CmpOp} {p : D → D → Option D} (ho : OpR X (compareOp op) (r2D false X.K p)) (ha : PE X a (LE false X.K fa)) (hb : PE X b (LE false X.K fb)) (hm : behindInMarks op b = false) : PE X (.Compare a [op] [b] pos) (LE false X.K (ev2 p fa fb)) :=
  (pe_cmpR ho ha hb hm).imp fun _ _ _ h => lift2 h
theorem q_cmpT {op : CmpOp} {p : D → D → Option D} (ho : OpR X (compareOp op) (r2D false X.K p)) (ha : PE X a (LE false X.K fa)) (hb : PE X b (LE false X.K fb)) (hm : behindInMarks op b = false) : PT X (.Compare a [op] [b] pos) (LT X.K fun s M => toB (ev2 p fa fb s M)) :=
  (pt_cmpR ho ha hb hm).imp fun _ _ _ h => lift2 (liftT h)
def ev3 (p q : D → D → Option D) (fa fb fc : Sl → Mem → Res Val) : Sl → Mem → Res Val := fun s M => (fa s M).bind fun v M1 => (fb s M1).bind fun w M2 => match view M2 v, view M2 w with
    | some x, some y => match p x y with
      | some (.bl true) => (fc s M2).bind fun u M3 => match view M3 w, view M3 u with
        | some y', some z => Res.of ((q y' z).map .d) M3
        | _, _ => .bad
      | some (.bl false) => .ok (.d (.bl false)) M2
      | _ => .bad
    | _, _ => .bad
theorem lift3 {K : Fr} {p q : D → D → Option D} {σ : L2.St} {H : Hp} {Q : VK} (h : LE false K (ev3 p q fa fb fc) σ H Q) : tChain (r2D false K p) (r2D false K q) (LE false K fa) (LE false K fb) (LE false K fc) σ H Q := by
  obtain ⟨δ, M, F, μ, x, M', S, R, e0, k⟩ := h
  obtain ⟨v, M1, e1, e0⟩ := bind_ok e0
  obtain ⟨w, M2, e2, e0⟩ := bind_ok e0
  refine ⟨δ, M, F, μ, v, M1, S, R, e1, fun F1 μ1 H1 v1 st1 S1 r1 => ⟨δ, M1, F1, μ1, w, M2, S1, R.mono st1.fr st1.whole, e2, fun F2 μ2 H2 v2 st2 S2 r2 => ?_⟩⟩
  have R2 := (R.mono st1.fr st1.whole).mono st2.fr st2.whole
  cases hx : view M2 v with
  | none => rw [hx] at e0; cases e0
  | some dx =>
    cases hy : view M2 w with
    | none => rw [hx, hy] at e0; cases e0
    | some dy =>
      rw [hx, hy] at e0
      cases hp : p dx dy with
      | none => simp only [hp] at e0; cases e0
      | some d =>
        simp only [hp] at e0
        refine ⟨F2, dx, dy, d, S2.sub, S2.view (RepV.mono st2.fr st2.whole r1) hx, S2.view r2 hy, hp, fun F' H' u n ru => ?_⟩
        cases d with
        | bl t =>
          cases ru
          refine ⟨t, rfl, ?_⟩
          cases t with
          | false =>
            rw [if_neg Bool.false_ne_true]
            cases e0
            exact k F' μ2 H' (.bl false) (st1.transE (st2.transE n.step)) (n.sim S2) (.bl false)
          | true =>
            rw [if_pos rfl]
            obtain ⟨u', M3, e3, e0⟩ := bind_ok e0
            refine ⟨δ, M2, F', μ2, u', M3, n.sim S2, R2.mono n.fr (List.take_length), e3, fun F3 μ3 H3 v3 st3 S3 r3 => ?_⟩
            cases hy' : view M3 w with
            | none => rw [hy'] at e0; cases e0
            | some dy' =>
              cases hz : view M3 u' with
              | none => rw [hy', hz] at e0; cases e0
              | some dz =>
                rw [hy', hz] at e0
                obtain ⟨d2, hd2, rfl, rfl⟩ := res_map e0
                have r2' : RepV K F' μ2 w v2 := RepV.mono n.fr (List.take_length) r2
                refine ⟨F3, dy', dz, d2, S3.sub, S3.view (RepV.mono st3.fr st3.whole r2') hy', S3.view r3 hz, hd2, fun F4 H4 u4 n4 ru4 => ?_⟩
                exact k F4 μ3 H4 u4 (st1.transE (st2.transE (n.step.transE (st3.transE n4.step)))) (n4.sim S3) ru4
        | _ => cases e0
theorem q_cmp3 {op op' : CmpOp} {p q : D → D → Option D} (ho : OpR X (compareOp op) (r2D false X.K p)) (ho' : OpR X (compareOp op') (r2D false X.K q)) (ha : PE X a (LE false X.K fa)) (hb : PE X b (LE false X.K fb)) (hc : PE X c (LE false X.K fc))
    (hm : lastMarks [op, op'] [b, c] = false) : PE X (.Compare a [op, op'] [b, c] pos) (LE false X.K (ev3 p q fa fb fc)) :=
  (pe_chain ho ho' ha hb hc hm).imp fun _ _ _ h => lift3 h
theorem q_cmp3T {op op' : CmpOp} {p q : D → D → Option D} (ho : OpR X (compareOp op) (r2D false X.K p)) (ho' : OpR X (compareOp op') (r2D false X.K q)) (ha : PE X a (LE false X.K fa)) (hb : PE X b (LE false X.K fb)) (hc : PE X c (LE false X.K fc))
    (hm : lastMarks [op, op'] [b, c] = false) : PT X (.Compare a [op, op'] [b, c] pos) (LT X.K fun s M => toB (ev3 p q fa fb fc s M)) :=
  (pt_chain ho ho' ha hb hc hm).imp fun _ _ _ h => lift3 (liftT h)

/-! ### tests -/
theorem q_val (h : PE X e (LE false X.K fa)) (he : ∀ whole, isTrue e X.env whole = (do let v ← whole; standAt e.pos; holding [v] (truthy v))) : PT X e (LT X.K fun s M => toB (fa s M)) :=
  (pt_val h he).imp fun _ _ _ h => liftT h
theorem liftN {K : Fr} {f : Sl → Mem → Res Bool} {σ : L2.St} {H : Hp} {Q : Bool → Hp → Prop} (h : LT K (fun s M => toB ((f s M).bind fun b M1 => .ok (.d (.bl (!b))) M1)) σ H Q) : LT K f σ H (fun b H' => Q (!b) H') := by
  obtain ⟨δ, M, F, μ, x, M', S, R, e0, k⟩ := h
  obtain ⟨v, M1, e1, e0⟩ := bind_ok e0
  obtain ⟨t, M2, e1, e2⟩ := bind_ok e1
  cases e2
  cases e0
  exact ⟨δ, M, F, μ, t, _, S, R, e1, k⟩
theorem q_not (h : PE X a (LE false X.K fa)) : PE X (.UnaryOp .Not a pos) (LE false X.K fun s M => (toB (fa s M)).bind fun b M1 => .ok (.d (.bl (!b))) M1) := by
  refine (pe_not h).imp fun σ H Q ⟨δ, M, F, μ, x, M', S, R, e0, k⟩ => ?_
  obtain ⟨t, M1, e1, e0⟩ := bind_ok e0
  cases e0
  exact liftT ⟨δ, M, F, μ, t, _, S, R, e1, fun F' μ' H' st S' => k F' μ' H' _ st S' (.bl _)⟩
theorem q_notT {fT : Sl → Mem → Res Bool} (h : PT X a (LT X.K fT)) : PT X (.UnaryOp .Not a pos) (LT X.K fun s M => toB ((fT s M).bind fun b M1 => .ok (.d (.bl (!b))) M1)) :=
  (pt_not h).imp fun _ _ _ h => liftN h
/-! ### and, or -/
variable {rest : List Expr} {x1 : Expr}
def evAnd (fa fr : Sl → Mem → Res Val) : Sl → Mem → Res Val := fun s M => (toB (fa s M)).bind fun b M1 => if b then fr s M1 else .ok (.d (.bl false)) M1
def evOr (fa fr : Sl → Mem → Res Val) : Sl → Mem → Res Val := fun s M => (toB (fa s M)).bind fun b M1 => if b then .ok (.d (.bl true)) M1 else fr s M1
theorem q_and (ha : PE X a (LE false X.K fa)) (hb : PE X (.BoolOp .And (x1 :: rest) pos) (LE false X.K fb)) : PE X (.BoolOp .And (a :: x1 :: rest) pos) (LE false X.K (evAnd fa fb)) := by
  refine (pe_and ha hb).imp fun σ H Q ⟨δ, M, F, μ, x, M', S, R, e0, k⟩ => ?_
  obtain ⟨t, M1, e1, e0⟩ := bind_ok e0
  refine liftT ⟨δ, M, F, μ, t, _, S, R, e1, fun F1 μ1 H1 st1 S1 => ?_⟩
  cases t with
  | false => rw [if_neg Bool.false_ne_true]; cases e0; exact k F1 μ1 H1 _ st1 S1 (.bl _)
  | true => rw [if_pos rfl]; exact ⟨δ, M1, F1, μ1, x, M', S1, R.mono st1.fr st1.whole, e0, fun F' μ' H' v st S' p => k F' μ' H' v (st1.transE st) S' p⟩
theorem q_or (ha : PE X a (LE false X.K fa)) (hb : PE X (.BoolOp .Or (x1 :: rest) pos) (LE false X.K fb)) : PE X (.BoolOp .Or (a :: x1 :: rest) pos) (LE false X.K (evOr fa fb)) := by
  refine (pe_or ha hb).imp fun σ H Q ⟨δ, M, F, μ, x, M', S, R, e0, k⟩ => ?_
  obtain ⟨t, M1, e1, e0⟩ := bind_ok e0
  refine liftT ⟨δ, M, F, μ, t, _, S, R, e1, fun F1 μ1 H1 st1 S1 => ?_⟩
  cases t with
  | true => rw [if_pos rfl]; cases e0; exact k F1 μ1 H1 _ st1 S1 (.bl _)
  | false => rw [if_neg Bool.false_ne_true]; exact ⟨δ, M1, F1, μ1, x, M', S1, R.mono st1.fr st1.whole, e0, fun F' μ' H' v st S' p => k F' μ' H' v (st1.transE st) S' p⟩
theorem q_boolop1 {op} (ha : PE X a (LE false X.K fa)) : PE X (.BoolOp op [a] pos) (LE false X.K fa) := pe_one ha
theorem q_andW {op} (ha : PT X a (LT X.K fun s M => toB (fa s M))) : PW X (.BoolOp op [a] pos) (LT X.K fun s M => toB (fa s M)) := by
  cases op with
  | And => exact pw_and1 ha
  | Or => exact pw_or1 ha
theorem toB_and {s : Sl} {M M' : Mem} {x : Bool} (h : toB (evAnd fa fb s M) = .ok x M') : ∃ t M1, toB (fa s M) = .ok t M1 ∧ ((t = true ∧ toB (fb s M1) = .ok x M') ∨ (t = false ∧ x = false ∧ M' = M1)) := by
  obtain ⟨v, M2, e1, e2⟩ := bind_ok h
  obtain ⟨t, M1, e3, e4⟩ := bind_ok e1
  refine ⟨t, M1, e3, ?_⟩
  cases t with
  | true => refine .inl ⟨rfl, ?_⟩; rw [if_pos rfl] at e4; unfold toB; rw [e4]; exact e2
  | false => cases e4; cases e2; exact .inr ⟨rfl, rfl, rfl⟩
theorem toB_or {s : Sl} {M M' : Mem} {x : Bool} (h : toB (evOr fa fb s M) = .ok x M') : ∃ t M1, toB (fa s M) = .ok t M1 ∧ ((t = false ∧ toB (fb s M1) = .ok x M') ∨ (t = true ∧ x = true ∧ M' = M1)) := by
  obtain ⟨v, M2, e1, e2⟩ := bind_ok h
  obtain ⟨t, M1, e3, e4⟩ := bind_ok e1
  refine ⟨t, M1, e3, ?_⟩
  cases t with
  | false => refine .inl ⟨rfl, ?_⟩; rw [if_neg Bool.false_ne_true] at e4; unfold toB; rw [e4]; exact e2
  | true => cases e4; cases e2; exact .inr ⟨rfl, rfl, rfl⟩
theorem _root_.L2.PW.imp {X : Cx} {e : Expr} {t t' : TT} (h : PW X e t) (i : ∀ σ H Q, t' σ H Q → t σ H Q) : PW X e t' := ⟨fun wh pins s σ H Q I q => h.run wh pins s σ H Q I (i σ H Q q)⟩
theorem q_andT (ha : PT X a (LT X.K fun s M => toB (fa s M))) (hb : PW X (.BoolOp .And (x1 :: rest) pos) (LT X.K fun s M => toB (fb s M))) : PW X (.BoolOp .And (a :: x1 :: rest) pos) (LT X.K fun s M => toB (evAnd fa fb s M)) := by
  refine (pw_and ha hb).imp fun σ H Q ⟨δ, M, F, μ, x, M', S, R, e0, k⟩ => ?_
  obtain ⟨t, M1, e1, h⟩ := toB_and e0
  refine ⟨δ, M, F, μ, t, M1, S, R, e1, fun F1 μ1 H1 st1 S1 => ?_⟩
  rcases h with ⟨rfl, e2⟩ | ⟨rfl, rfl, rfl⟩
  · rw [if_pos rfl]; exact ⟨δ, M1, F1, μ1, x, M', S1, R.mono st1.fr st1.whole, e2, fun F' μ' H' st S' => k F' μ' H' (st1.transE st) S'⟩
  · rw [if_neg Bool.false_ne_true]; exact k F1 μ1 H1 st1 S1
theorem q_orT (ha : PT X a (LT X.K fun s M => toB (fa s M))) (hb : PW X (.BoolOp .Or (x1 :: rest) pos) (LT X.K fun s M => toB (fb s M))) : PW X (.BoolOp .Or (a :: x1 :: rest) pos) (LT X.K fun s M => toB (evOr fa fb s M)) := by
  refine (pw_or ha hb).imp fun σ H Q ⟨δ, M, F, μ, x, M', S, R, e0, k⟩ => ?_
  obtain ⟨t, M1, e1, h⟩ := toB_or e0
  refine ⟨δ, M, F, μ, t, M1, S, R, e1, fun F1 μ1 H1 st1 S1 => ?_⟩
  rcases h with ⟨rfl, e2⟩ | ⟨rfl, rfl, rfl⟩
  · rw [if_neg Bool.false_ne_true]; exact ⟨δ, M1, F1, μ1, x, M', S1, R.mono st1.fr st1.whole, e2, fun F' μ' H' st S' => k F' μ' H' (st1.transE st) S'⟩
  · rw [if_pos rfl]; exact k F1 μ1 H1 st1 S1
/-! ### a if t else b -/
def evIf (fT : Sl → Mem → Res Bool) (fa fb : Sl → Mem → Res Val) : Sl → Mem → Res Val := fun s M => (fT s M).bind fun t M1 => if t then fa s M1 else fb s M1
theorem q_ifx {fT : Sl → Mem → Res Bool} (hc : PT X c (LT X.K fT)) (ha : PE X a (LE fr X.K fa)) (hb : PE X b (LE fr X.K fb)) : PE X (.IfExp c a b pos) (LE fr X.K (evIf fT fa fb)) := by
  refine (pe_ifExp hc ha hb).imp fun σ H Q ⟨δ, M, F, μ, x, M', S, R, e0, k⟩ => ?_
  obtain ⟨t, M1, e1, e0⟩ := bind_ok e0
  have post : ∀ {F1 μ1 H1}, StepE F μ H F1 μ1 H1 → ∀ F' μ' H' v, StepE F1 μ1 H1 F' μ' H' → Sim X.K F' μ' M' H' → PostV fr X.K F' μ' H1 H' x v → Q v H' := fun {F1 μ1 H1} st1 F' μ' H' v st S' p => by
    refine k F' μ' H' v (st1.transE st) S' ?_
    cases fr with
    | false => exact p
    | true =>
      obtain ⟨a, ds, vs, h1, h2, h3, h4, h5, h6, h7⟩ := p
      exact ⟨a, ds, vs, h1, h2, h3, h4, h5, st1.up a h6, h7⟩
  refine ⟨δ, M, F, μ, t, M1, S, R, e1, fun F1 μ1 H1 st1 S1 => ?_⟩
  cases t with
  | true => rw [if_pos rfl] at e0 ⊢; exact ⟨δ, M1, F1, μ1, x, M', S1, R.mono st1.fr st1.whole, e0, post st1⟩
  | false => rw [if_neg Bool.false_ne_true] at e0 ⊢; exact ⟨δ, M1, F1, μ1, x, M', S1, R.mono st1.fr st1.whole, e0, post st1⟩
theorem q_ifxT {fT : Sl → Mem → Res Bool} (hc : PT X c (LT X.K fT)) (ha : PT X a (LT X.K fun s M => toB (fa s M))) (hb : PT X b (LT X.K fun s M => toB (fb s M))) : PT X (.IfExp c a b pos) (LT X.K fun s M => toB (evIf fT fa fb s M)) := by
  refine ⟨fun pins s σ H Q I ⟨δ, M, F, μ, x, M', S, R, e0, k⟩ => ?_⟩
  obtain ⟨v, M2, e1, e2⟩ := bind_ok e0
  obtain ⟨t, M1, e3, e4⟩ := bind_ok e1
  show wpAny _ _ (do if ← isTrue c X.env (eval c X.env) then isTrue a X.env (eval a X.env) else isTrue b X.env (eval b X.env)) _ _ _
  refine wpAny_bind (thn (hc.run pins s σ H (fun u H1 => if u = true then LT X.K (fun s M => toB (fa s M)) σ H1 Q else LT X.K (fun s M => toB (fb s M)) σ H1 Q) I ⟨δ, M, F, μ, t, M1, S, R, e3, fun F1 μ1 H1 st1 S1 => ?_⟩) fun u s1 ⟨H1, I1, q1⟩ => ?_)
  · cases t with
    | true => rw [if_pos rfl] at e4 ⊢; exact ⟨δ, M1, F1, μ1, x, M', S1, R.mono st1.fr st1.whole, by show (fa δ M1).bind _ = _; rw [e4]; exact e2, fun F' μ' H' st S' => k F' μ' H' (st1.transE st) S'⟩
    | false => rw [if_neg Bool.false_ne_true] at e4 ⊢; exact ⟨δ, M1, F1, μ1, x, M', S1, R.mono st1.fr st1.whole, by show (fb δ M1).bind _ = _; rw [e4]; exact e2, fun F' μ' H' st S' => k F' μ' H' (st1.transE st) S'⟩
  · cases u with
    | true => rw [if_pos rfl] at q1; exact ha.run pins s1 σ H1 Q I1 q1
    | false => rw [if_neg Bool.false_ne_true] at q1; exact hb.run pins s1 σ H1 Q I1 q1

/-! ### lists of arguments, displays -/
variable {es : List Expr}
/-- e is no *e -/
def plainArg : Expr → Bool
  | .Starred _ _ => false
  | _ => true
theorem star_plain (h : plainArg e = true) (es : List Expr) (env : Env) : starEach (e :: es) env = (false, eval e env) :: starEach es env := by
  cases e <;> first | rfl | cases h
theorem star_any {p : Pos} {env : Env} : ∀ {es : List Expr}, es.all plainArg = true → (backTo p (starEach es env)).any (·.1) = false := by
  intro es
  induction es with
  | nil => intro _; rfl
  | cons e es ih =>
    intro h
    rw [List.all_cons, Bool.and_eq_true] at h
    rw [star_plain h.1]
    have := ih h.2
    simp only [backTo, List.map_cons, List.any_cons, Bool.or_eq_false_iff] at this ⊢
    exact ⟨trivial, this⟩
theorem q_nil : PA X [] (LA X.K fun _ M => .ok [] M) :=
  pa_nil.imp fun σ H Q ⟨δ, M, F, μ, x, M', S, R, e0, k⟩ => by
    cases e0
    exact k F μ H [] (Step.refl _ _ _ _) S .nil
def evCons (fa : Sl → Mem → Res Val) (fl : Sl → Mem → Res (List Val)) : Sl → Mem → Res (List Val) := fun s M => (fa s M).bind fun v M1 => (fl s M1).bind fun vs M2 => .ok (v :: vs) M2
theorem liftC {K : Fr} {fl : Sl → Mem → Res (List Val)} {σ : L2.St} {H : Hp} {Q : List V → Hp → Prop} (h : LA K (evCons fa fl) σ H Q) : tCons (LE false K fa) (LA K fl) σ H Q := by
  obtain ⟨δ, M, F, μ, x, M', S, R, e0, k⟩ := h
  obtain ⟨v, M1, e1, e0⟩ := bind_ok e0
  obtain ⟨vs, M2, e2, e0⟩ := bind_ok e0
  cases e0
  refine ⟨δ, M, F, μ, v, M1, S, R, e1, fun F1 μ1 H1 v1 st1 S1 r1 => ⟨δ, M1, F1, μ1, vs, _, S1, R.mono st1.fr st1.whole, e2, fun F2 μ2 H2 vs2 st2 S2 r2 => ?_⟩⟩
  exact k F2 μ2 H2 _ (st1.transE st2) S2 (.cons (RepV.mono st2.fr st2.whole r1) r2)
theorem q_cons {fl : Sl → Mem → Res (List Val)} (hp : plainArg e = true) (ha : PE X e (LE false X.K fa)) (hr : PA X es (LA X.K fl)) : PA X (e :: es) (LA X.K (evCons fa fl)) :=
  (pa_cons ha hr (star_plain hp es X.env)).imp fun _ _ _ h => liftC h
theorem q_dnil : PA X [] (LDs X.K fun _ M => .ok [] M) :=
  pa_nil.imp fun σ H Q ⟨δ, M, F, μ, x, M', S, R, e0, k⟩ => by
    cases e0
    exact k F μ H [] (Step.refl _ _ _ _) S .nil
def evConsD (fa : Sl → Mem → Res Val) (fl : Sl → Mem → Res (List D)) : Sl → Mem → Res (List D) := fun s M => (fa s M).bind fun v M1 => match v with
  | .d x => (fl s M1).bind fun xs M2 => .ok (x :: xs) M2
  | _ => .bad
theorem q_dcons {fl : Sl → Mem → Res (List D)} (hp : plainArg e = true) (ha : PE X e (LE false X.K fa)) (hr : PA X es (LDs X.K fl)) : PA X (e :: es) (LDs X.K (evConsD fa fl)) := by
  refine (pa_cons ha hr (star_plain hp es X.env)).imp fun σ H Q ⟨δ, M, F, μ, x, M', S, R, e0, k⟩ => ?_
  obtain ⟨v, M1, e1, e0⟩ := bind_ok e0
  cases v with
  | ref n => cases e0
  | d y =>
    obtain ⟨vs, M2, e2, e0⟩ := bind_ok e0
    cases e0
    refine ⟨δ, M, F, μ, .d y, M1, S, R, e1, fun F1 μ1 H1 v1 st1 S1 r1 => ⟨δ, M1, F1, μ1, vs, _, S1, R.mono st1.fr st1.whole, e2, fun F2 μ2 H2 vs2 st2 S2 r2 => ?_⟩⟩
    exact k F2 μ2 H2 _ (st1.transE st2) S2 (.cons (Rep.mono st2.fr r1) r2)
theorem big_line : big = sizeLine := sizeLine_eq.symm
def evTup (fl : Sl → Mem → Res (List D)) : Sl → Mem → Res Val := fun s M => (fl s M).bind fun xs M1 => if xs.length ≤ big then .ok (.d (.tup xs)) M1 else .bad
def evLst (fl : Sl → Mem → Res (List D)) : Sl → Mem → Res Val := fun s M => (fl s M).bind fun xs M1 => if xs.length ≤ big then .ok (.d (.lst xs)) M1 else .bad
theorem q_tup {fl : Sl → Mem → Res (List D)} {k : Nat} (h : PA X es (LDs X.K fl)) : PE X (.Tuple es k pos) (LE false X.K (evTup fl)) := by
  refine (pe_tup h).imp fun σ H Q ⟨δ, M, F, μ, x, M', S, R, e0, kk⟩ => ?_
  obtain ⟨xs, M1, e1, e0⟩ := bind_ok e0
  by_cases hl : xs.length ≤ big
  · rw [if_pos hl] at e0
    cases e0
    refine ⟨δ, M, F, μ, xs, _, S, R, e1, fun F1 μ1 H1 vs st1 S1 r1 => ⟨by rw [← r1.length, sizeLine_eq]; exact hl, fun p hp => ?_⟩⟩
    have n := NewF.alloc S1.sub hp (.tup vs)
    exact kk _ μ1 _ _ (st1.transE n.step) (n.sim S1) (Rep.tup hl upd_same (Reps.mono n.fr r1))
  · rw [if_neg hl] at e0; cases e0
theorem q_lst {fl : Sl → Mem → Res (List D)} (h : PA X es (LDs X.K fl)) : PE X (.List es pos) (LE true X.K (evLst fl)) := by
  refine (pe_lst h).imp fun σ H Q ⟨δ, M, F, μ, x, M', S, R, e0, kk⟩ => ?_
  obtain ⟨xs, M1, e1, e0⟩ := bind_ok e0
  by_cases hl : xs.length ≤ big
  · rw [if_pos hl] at e0
    cases e0
    refine ⟨δ, M, F, μ, xs, _, S, R, e1, fun F1 μ1 H1 vs st1 S1 r1 => ⟨by rw [← r1.length, sizeLine_eq]; exact hl, fun p hp => ?_⟩⟩
    have n := NewF.alloc S1.sub hp (.lst vs)
    have n2 : NewF F1 H1 F1 (upd H1 p (.lst vs)) := ⟨Sub.refl _, S1.sub.trans n.keep, n.keep, fun a o h => .inl h⟩
    refine kk F1 μ1 _ _ (st1.transE n2.step) (n2.sim S1) ⟨p, xs, vs, rfl, rfl, upd_same, ?_, fun z => S1.tracked z hp, st1.up p hp, hl, r1⟩
    cases q : F1 p with
    | none => rfl
    | some o => rw [S1.sub p o q] at hp; cases hp
  · rw [if_neg hl] at e0; cases e0
end
end DL
end P_DL2
section P_DL3
set_option Elab.async false
set_option linter.all false
set_option maxRecDepth 100000
set_option maxHeartbeats 1000000
/-! Calls of built-in functions, of methods; subscripts; comprehensions. -/
namespace DL
open PySem PySem.Spec PyProof.Rows L2
section
variable {X : Cx} {fa fb fc : Sl → Mem → Res Val} {fl : Sl → Mem → Res (List Val)} {a b c e : Expr} {es : List Expr} {pos : Pos} {fr : Bool}

def evB (p : List D → Option D) (fl : Sl → Mem → Res (List Val)) : Sl → Mem → Res Val := fun s M => (fl s M).bind fun vs M1 => match views M1 vs with
  | some xs => Res.of ((p xs).map .d) M1
  | none => .bad
theorem liftB {K : Fr} {p : List D → Option D} {σ : L2.St} {H : Hp} {Q : VK} (h : LE fr K (evB p fl) σ H Q) : tCB (rLD fr K p) (LA K fl) σ H Q := by
  obtain ⟨δ, M, F, μ, x, M', S, R, e0, k⟩ := h
  obtain ⟨vs, M1, e1, e0⟩ := bind_ok e0
  refine ⟨δ, M, F, μ, vs, M1, S, R, e1, fun F1 μ1 H1 v1 st1 S1 r1 => ?_⟩
  cases hx : views M1 vs with
  | none => simp only [hx] at e0; cases e0
  | some xs =>
    simp only [hx] at e0
    obtain ⟨d, hd, rfl, rfl⟩ := res_map e0
    exact ⟨F1, xs, d, S1.sub, S1.views r1 hx, hd, PostD.of S1 (fun a h => st1.up a h) fun F' H' u n S' q => k F' μ1 H' u (st1.transE n.step) S' q⟩
theorem q_callB {id : String} {x : Str} {pn : Pos} {p : List D → Option D} (hc : CallR X (.builtin id) (rLD fr X.K p)) (hg : Gl X x) (hm : X.mg x = none) (hv : bootBuiltins x = some (.builtin id)) (ha : PA X (e :: es) (LA X.K fl)) (hpl : (e :: es).all plainArg = true)
    (hn : x ≠ "__name__") (hdb : (x == ("__debug__" : Str)) = false) : PE X (.Call (.Name x pn) (e :: es) [] pos) (LE fr X.K (evB p fl)) := by
  rw [List.all_cons, Bool.and_eq_true] at hpl
  exact (pe_callB hc hg hm hv ha hn hdb (star_plain hpl.1 es X.env) (star_any hpl.2)).imp fun _ _ _ h => liftB h
theorem q_callTy {T : String} {x : Str} {pn : Pos} {p : List D → Option D} (hc : CallR X (.type T) (rLD fr X.K p)) (hg : Gl X x) (hm : X.mg x = none) (hv : bootBuiltins x = some (.type T)) (ha : PA X (e :: es) (LA X.K fl)) (hpl : (e :: es).all plainArg = true)
    (hn : x ≠ "__name__") (hdb : (x == ("__debug__" : Str)) = false) : PE X (.Call (.Name x pn) (e :: es) [] pos) (LE fr X.K (evB p fl)) := by
  rw [List.all_cons, Bool.and_eq_true] at hpl
  exact (pe_callTy hc hg hm hv ha hn hdb (star_plain hpl.1 es X.env) (star_any hpl.2)).imp fun _ _ _ h => liftB h

/-! ### methods -/
/-- a method of the type T by values -/
structure MeFact (X : Cx) (name : Str) (T id : String) (r : V → List V → Hp → VK → Prop) : Prop where
  pa : PlainAttrs T
  slot : Slot T name id
  ty : typeOf (.builtin id) = pure (.type "method_descriptor")
  rule : MtR X id r
/-- o is no call without arguments -/
def notBare : Expr → Bool
  | .Call _ [] [] _ => false
  | _ => true
theorem base_plain {o : Expr} (h : notBare o = true) (name : Str) (env : Env) : attributeBase o name env (eval o env) = eval o env := by
  cases o with
  | Call f args kws p =>
    cases args with
    | nil =>
      cases kws with
      | nil => cases h
      | cons _ _ => cases f <;> rfl
    | cons _ _ => cases f <;> rfl
  | _ => rfl
theorem star_few {p : Pos} {env : Env} : ∀ {es : List Expr}, es.all plainArg = true → (backTo p (starEach es env)).all (fun x => !x.1) = true := by
  intro es
  induction es with
  | nil => intro _; rfl
  | cons e es ih =>
    intro h
    rw [List.all_cons, Bool.and_eq_true] at h
    rw [star_plain h.1]
    have := ih h.2
    simp only [backTo, List.map_cons, List.all_cons, Bool.and_eq_true] at this ⊢
    exact ⟨rfl, this⟩
def tBMU (X : Cx) (name : Str) (to : TE) (t : TA) : TE := fun σ H Q => to σ H fun x H1 => ∃ T id r, MeFact X name T id r ∧ tyV X.K T x H1 ∧ t σ H1 fun xs H2 => r x xs H2 Q
theorem pe_bmU {name : Str} {o : Expr} {to : TE} {t : TA} {apos : Pos} (ho : PE X o to) (ha : PA X es t) (hb : notBare o = true) (hpl : es.all plainArg = true) (hl : es.length < 30) (hline : (apos.endLine == pos.line) = true) :
    PE X (.Call (.Attribute o name apos) es [] pos) (tBMU X name to t) := by
  refine ⟨fun pins s σ H Q I h => ?_⟩
  have hfew : ((backTo pos (starEach es X.env)).all (fun x => !x.1) && (backToKw pos (keywordEach [] X.env)).all (fun x => x.1.isSome) && decide (es.length + ([] : List Keyword).length + (if ([] : List Keyword).isEmpty then 0 else 1) < 30)) = true := by
    rw [star_few hpl]
    simp only [List.length_nil, List.isEmpty_nil, if_true, Nat.add_zero, decide_eq_true hl, Bool.and_true, Bool.true_and]
    rfl
  refine wpAny_Call_method_late (base_plain hb name X.env) hfew hline rfl (thn (ho.run pins s σ H _ I h) fun v s1 ⟨x, H1, I1, r1, T, id, r, m, ty, q1⟩ => ?_)
  obtain ⟨h1, h2⟩ := tyV_is I1 r1 ty
  refine ⟨T, id, m.pa, m.slot, m.ty, h1, h2, ?_⟩
  cases es with
  | nil =>
    have hA := ha.run pos pins s1 σ H1 _ I1 q1
    refine Calls.callWith_builtin rfl ?_
    unfold evalArgs
    show wpAny _ _ (spliced [] >>= _) _ _ _
    refine wpAny_bind (thn (show wpAny (model X.prog X.w) X.A (spliced []) (AP X pins σ fun xs H2 => r x xs H2 Q) X.xe s1 from hA) fun us s2 ⟨vs, H2, I2, r2, q2⟩ => ?_)
    refine wpAny_bind (wpAny_pure (wpAny_holding (wpAny_bind (wpAny_pure (wpAny_bind (wpAny_pure (wpAny_pure ?_)))))))
    exact m.rule pins s2 σ H2 x vs v us Q I2 r1 r2 q2
  | cons e es =>
    have hA := ha.run pos pins s1 σ H1 _ I1 q1
    rw [List.all_cons, Bool.and_eq_true] at hpl
    rw [star_plain hpl.1] at hA ⊢
    refine Calls.callWith_builtin (by show (false || (backTo pos (starEach es X.env)).any (·.1)) = false; rw [star_any hpl.2]; rfl) (Calls.evalArgs_plain ?_)
    exact thn hA fun us s2 ⟨vs, H2, I2, r2, q2⟩ => m.rule pins s2 σ H2 x vs v us Q I2 r1 r2 q2

/-- the part of p for receivers of one kind -/
def atKd (k : Kd) (p : D → List D → Option D) : D → List D → Option D := fun x xs => if kd x = k then p x xs else none
/-- a method's name by kinds -/
structure MeTab (X : Cx) (fr : Bool) (name : Str) (p : D → List D → Option D) : Prop where
  str : (∃ id, MeFact X name "str" id (rMD fr X.K (atKd .str p))) ∨ ∀ x xs, kd x = .str → p x xs = none
  lst : (∃ id, MeFact X name "list" id (rMD fr X.K (atKd .lst p))) ∨ ∀ x xs, kd x = .lst → p x xs = none
  dic : ∀ x xs, kd x = .dic → p x xs = none
  tup : ∀ x xs, kd x = .tup → p x xs = none
  oth : ∀ x xs, kd x = .oth → p x xs = none
def evM (p : D → List D → Option D) (fa : Sl → Mem → Res Val) (fl : Sl → Mem → Res (List Val)) : Sl → Mem → Res Val := fun s M => (fa s M).bind fun v M1 => match view M1 v with
  | some x1 => (fl s M1).bind fun vs M2 => (match view M2 v, views M2 vs with
    | some x, some xs => if kd x1 = kd x then Res.of ((p x xs).map .d) M2 else .bad
    | _, _ => .bad)
  | none => .bad
theorem q_me {name : Str} {o : Expr} {apos : Pos} {p : D → List D → Option D} (tb : MeTab X fr name p) (ho : PE X o (LE false X.K fa)) (ha : PA X es (LA X.K fl)) (hb : notBare o = true) (hpl : es.all plainArg = true) (hl : es.length < 30) (hline : (apos.endLine == pos.line) = true) :
    PE X (.Call (.Attribute o name apos) es [] pos) (LE fr X.K (evM p fa fl)) := by
  refine (pe_bmU ho ha hb hpl hl hline).imp fun σ H Q ⟨δ, M, F, μ, x, M', S, R, e0, k⟩ => ?_
  obtain ⟨v, M1, e1, e0⟩ := bind_ok e0
  cases hx1 : view M1 v with
  | none => simp only [hx1] at e0; cases e0
  | some x1 =>
  simp only [hx1] at e0
  obtain ⟨vs, M2', e2, e0⟩ := bind_ok e0
  cases hx : view M2' v with
  | none => simp only [hx] at e0; cases e0
  | some dx =>
    cases hy : views M2' vs with
    | none => simp only [hx, hy] at e0; cases e0
    | some dxs =>
      simp only [hx, hy] at e0
      by_cases hk : kd x1 = kd dx
      · rw [if_pos hk] at e0
        obtain ⟨d, hd, rfl, rfl⟩ := res_map e0
        refine ⟨δ, M, F, μ, v, M1, S, R, e1, fun F1 μ1 H1 v1 st1 S1 r1 => ?_⟩
        have key : ∀ (T id : String) (r : V → List V → Hp → VK → Prop), MeFact X name T id (rMD fr X.K (atKd (kd x1) p)) → tyV X.K T v1 H1 →
            ∃ T id r, MeFact X name T id r ∧ tyV X.K T v1 H1 ∧ LA X.K fl σ H1 fun xs H2 => r v1 xs H2 Q := fun T id r m ty => by
          refine ⟨T, id, _, m, ty, δ, M1, F1, μ1, vs, M', S1, R.mono st1.fr st1.whole, e2, fun F2 μ2 H2 vs2 st2 S2 r2 => ?_⟩
          exact ⟨F2, dx, dxs, d, S2.sub, S2.view (RepV.mono st2.fr st2.whole r1) hx, S2.views r2 hy, by unfold atKd; rw [if_pos hk.symm]; exact hd, PostD.of S2 (fun a h => st1.up a (st2.up a h)) fun F' H' u n S' q => k F' μ2 H' u (st1.transE (st2.transE n.step)) S' q⟩
        have no : ∀ {q : Prop}, p dx dxs = none → q := fun z => by rw [hd] at z; cases z
        -- the receiver's type, as it is at its own reading
        have rt := S1.view r1 hx1
        cases hk1 : kd x1 with
        | oth => exact no (tb.oth dx dxs (by rw [← hk, hk1]))
        | tup => exact no (tb.tup dx dxs (by rw [← hk, hk1]))
        | str =>
          rcases tb.str with ⟨id, m⟩ | z
          · rw [← hk1] at m
            refine key _ _ (rMD fr X.K (atKd (kd x1) p)) m ?_
            cases rt with
            | d rr => cases rr <;> first | (cases hk1; done) | rfl
            | lst _ _ _ => cases hk1
            | dct _ _ _ _ _ => cases hk1
          · exact no (z dx dxs (by rw [← hk, hk1]))
        | lst =>
          rcases tb.lst with ⟨id, m⟩ | z
          · rw [← hk1] at m
            refine key _ _ (rMD fr X.K (atKd (kd x1) p)) m ?_
            cases rt with
            | d rr => cases rr with
              | lst _ h _ => exact .inl ⟨rfl, _, SqL.of (S1.sub _ _ h)⟩
              | _ => cases hk1
            | lst _ h _ => exact .inl ⟨rfl, _, SqL.of h⟩
            | dct _ _ _ _ _ => cases hk1
          · exact no (z dx dxs (by rw [← hk, hk1]))
        | dic => exact no (tb.dic dx dxs (by rw [← hk, hk1]))
      · rw [if_neg hk] at e0; cases e0

/-! ### methods that change a list of the store -/
/-- what stands for the arguments -/
def ArgsR (K : Fr) (F H : Hp) (m : Mu) (xs : List D) (vs : List V) : Prop := match m with
  | .extend => RepTs K F H xs vs
  | _ => Reps K F xs vs
theorem plainVs_rep {K : Fr} {F : Hp} {μ : List Addr} : ∀ {xs : List Val} {vs : List V} {ds : List D}, RepVs K F μ xs vs → plainVs xs = some ds → Reps K F ds vs
  | _, _, _, .nil, h => by cases h; exact .nil
  | .d x :: xs, _, ds, .cons r rs, h => by
    obtain ⟨l, hl, rfl⟩ := Option.map_eq_some_iff.mp (show (plainVs xs).map (x :: ·) = some ds from h)
    exact .cons r (plainVs_rep rs hl)
  | .ref _ :: xs, _, ds, .cons r rs, h => by cases h
theorem argsOf_rep {K : Fr} {F : Hp} {μ : List Addr} {M : Mem} {H : Hp} {m : Mu} {xs : List Val} {vs : List V} {ds : List D} (S : Sim K F μ M H) (r : RepVs K F μ xs vs) (h : argsOf m M xs = some ds) : ArgsR K F H m ds vs := by
  cases m <;> first | exact S.views r h | exact plainVs_rep r h
/-- the change of a list at a by a method -/
def rMuD (K : Fr) (m : Mu) : V → List V → Hp → VK → Prop := fun v vs H Q => ∃ F a ds ws xs y es, v = .ref a ∧ H a = some (.lst ws) ∧ F a = none ∧ Sub F H ∧ ds.length ≤ big ∧ Reps K F ds ws ∧ ArgsR K F H m xs vs ∧ muD m (.lst ds) xs = some (y, .lst es) ∧
  ∀ us u, Reps K F es us → es.length ≤ big → Rep K F y u → Q u (upd H a (.lst us))
/-- a dict stands there -/
def isDc (M : Mem) (n : Nat) : Bool := match M[n]? with
  | some (.dct _ _) => true
  | _ => false
def evMu (m : Mu) (i : Nat) (fl : Sl → Mem → Res (List Val)) : Sl → Mem → Res Val := fun s M => match s[i]? with
  | some (some (.ref n)) => if isDc M n then .bad else (fl s M).bind fun vs M1 => match M1[n]?, argsOf m M1 vs with
    | some o, some xs => match muD m o xs with
      | some (y, o') => .ok (.d y) (M1.set n o')
      | none => .bad
    | _, _ => .bad
  | _ => .bad
/-- an object of the store is changed -/
theorem Sim.put {K : Fr} {F : Hp} {μ : List Addr} {M : Mem} {H : Hp} (S : Sim K F μ M H) {n : Nat} {a : Addr} {es : List D} {us : List V} (ha : μ[n]? = some a) (hl : es.length ≤ big) (r : Reps K F es us) : Sim K F μ (M.set n (.lst es)) (upd H a (.lst us)) where
  sub := fun b o h => by
    have e : b ≠ a := fun e => by subst e; rw [S.out b (List.mem_of_getElem? ha)] at h; cases h
    rw [upd_ne e]; exact S.sub b o h
  out := S.out
  nd := S.nd
  len := by rw [List.length_set]; exact S.len
  obj := fun i o b h1 h2 => by
    by_cases e : i = n
    · subst e
      have hi : i < M.length := S.alen ha
      rw [List.getElem?_set_self hi] at h1
      rw [ha] at h2
      cases h1; cases h2
      rw [upd_same]; exact ⟨hl, r⟩
    · rw [List.getElem?_set_ne (Ne.symm e)] at h1
      have hb : b ≠ a := fun z => e (by
        subst z
        obtain ⟨p1, q1⟩ := List.getElem?_eq_some_iff.mp h2
        obtain ⟨p2, q2⟩ := List.getElem?_eq_some_iff.mp ha
        exact (List.getElem_inj S.nd).mp (q1.trans q2.symm))
      rw [upd_ne hb]; exact S.obj i o b h1 h2
theorem Sim.putStep {K : Fr} {F : Hp} {μ : List Addr} {M : Mem} {H : Hp} (S : Sim K F μ M H) {n : Nat} {a : Addr} (ha : μ[n]? = some a) (o : HO) : StepE F μ H F μ (upd H a o) where
  fr := Sub.refl F
  pre := rfl
  new := fun _ h => .inl h
  keep := fun b u h n => by rw [upd_ne (fun e => n (by rw [e]; exact List.mem_of_getElem? ha))]; exact h
  up := fun b h => by
    by_cases e : b = a
    · rw [e, upd_same] at h; cases h
    · rw [upd_ne e] at h; exact h
  newF := fun _ _ h => .inl h
theorem q_mu {name x : Str} {i : Nat} {id : String} {xpos apos : Pos} {m : Mu} (mf : MeFact X name "list" id (rMuD X.K m)) (hN : X.N[i]? = some x) (hv : Vis X.env.scope x) (hd : (x == ("__debug__" : Str)) = false) (hcd : (x == ("__classdict__" : Str)) = false)
    (ha : PA X es (LA X.K fl)) (hpl : es.all plainArg = true) (hl : es.length < 30) (hline : (apos.endLine == pos.line) = true) :
    PE X (.Call (.Attribute (.Name x xpos) name apos) es [] pos) (LE false X.K (evMu m i fl)) := by
  refine (pe_bmU (pe_var hN hv hd hcd) ha rfl hpl hl hline).imp fun σ H Q ⟨δ, M, F, μ, z, M', S, R, e0, k⟩ => ?_
  unfold evMu at e0
  cases h1 : δ[i]? with
  | none => simp only [h1] at e0; cases e0
  | some o =>
    cases o with
    | none => simp only [h1] at e0; cases e0
    | some w =>
      cases w with
      | d y => simp only [h1] at e0; cases e0
      | ref n =>
        simp only [h1] at e0
        obtain ⟨v, ev, r⟩ := R.at_ i _ h1
        obtain ⟨a, ha1, rfl⟩ := r
        split at e0
        · cases e0
        rename_i nd
        obtain ⟨vs, M1, e1, e0⟩ := bind_ok e0
        have hm : n < M.length := S.alen ha1
        have q := S.obj n M[n] a (List.getElem?_eq_getElem hm) ha1
        refine ⟨_, ev, "list", id, _, mf, ?_, δ, M, F, μ, vs, M1, S, R, e1, fun F1 μ1 H1 vs1 st1 S1 r1 => ?_⟩
        · cases hM : M[n] with
          | dct t l => exact absurd (show isDc M n = true by unfold isDc; rw [List.getElem?_eq_getElem hm, hM]) nd
          | lst l =>
            rw [hM] at q
            cases hH : H a with
            | none => rw [hH] at q; exact q.elim
            | some u =>
              rw [hH] at q
              cases u <;> first | exact .inl ⟨rfl, _, SqL.of hH⟩ | exact q.elim
        · cases hM : M1[n]? with
          | none => simp only [hM] at e0; cases e0
          | some o =>
            cases hx : argsOf m M1 vs with
            | none => simp only [hM, hx] at e0; cases e0
            | some xs =>
              simp only [hM, hx] at e0
              have ha2 : μ1[n]? = some a := by
                have hn : n < μ.length := (List.getElem?_eq_some_iff.mp ha1).1
                rw [st1.get hn]; exact ha1
              have q1 := S1.obj n o a hM ha2
              cases o with
              | dct t l => cases hmu : muD m (.dct t l) xs <;> simp only [hmu] at e0 <;> first | (cases e0; done) | (cases m <;> simp [muD] at hmu)
              | lst ds =>
                cases hH : H1 a with
                | none => rw [hH] at q1; exact q1.elim
                | some u =>
                  rw [hH] at q1
                  cases u with
                  | lst ws =>
                    cases hmu : muD m (.lst ds) xs with
                    | none => simp only [hmu] at e0; cases e0
                    | some yo =>
                      obtain ⟨y, o'⟩ := yo
                      simp only [hmu] at e0
                      cases e0
                      obtain ⟨es', rfl⟩ : ∃ es', o' = .lst es' := by
                        cases m <;> simp only [muD] at hmu <;> (repeat' split at hmu) <;> first
                          | (cases hmu; exact ⟨_, rfl⟩)
                          | (obtain ⟨_, _, hh⟩ := Option.map_eq_some_iff.mp hmu; cases hh; exact ⟨_, rfl⟩)
                          | cases hmu
                      refine ⟨F1, a, ds, ws, xs, y, es', rfl, hH, S1.out a (List.mem_of_getElem? ha2), S1.sub, q1.1, q1.2, argsOf_rep S1 r1 hx, hmu, fun us u ru hl' ry => ?_⟩
                      exact k F1 μ1 _ u (st1.transE (S1.putStep ha2 _)) (S1.put ha2 hl' ru) ry
                  | _ => exact q1.elim

/-! ### subscripts -/
def isSlice : Expr → Bool
  | .Slice _ _ _ _ => true
  | _ => false
theorem plainIx (h : isSlice b = false) : PlainIx b := fun o i => by
  cases b <;> first | rfl | cases h
theorem q_sub {p : D → D → Option D} (hr : IxR X (r2D fr X.K p)) (ha : PE X a (LE false X.K fa)) (hb : PE X b (LE false X.K fb)) (hs : isSlice b = false) : PE X (.Subscript a b pos) (LE fr X.K (ev2 p fa fb)) :=
  (pe_ix hr ha hb (plainIx hs)).imp fun _ _ _ h => lift2 h
def rSlD (fr : Bool) (K : Fr) : V → Option Int → Option Int → Hp → VK → Prop := fun v lo hi H Q => ∃ F x d, Sub F H ∧ RepT K F H x v ∧ (match x with
  | .lst l => some (.lst (cut l lo hi))
  | .scr l => some (.lst (cut l lo hi))
  | .tup l => some (.tup (cut l lo hi))
  | .str s => some (.str (cut s lo hi))
  | _ => none) = some d ∧ PostD fr K F H d Q
theorem repT_int {K : Fr} {F H : Hp} {i : Int} {v : V} (r : RepT K F H (.int i) v) : v = .int i := by
  cases r with
  | d r => cases r; rfl
theorem bnd_int {y : D} {o : Option Int} (h : bndD (some y) = some o) : ∃ i, y = .int i ∧ o = some i := by
  cases y <;> first | (cases h; exact ⟨_, rfl, rfl⟩) | cases h
theorem q_slL {p2 : Pos} (hr : SlR X (rSlD fr X.K)) (ha : PE X a (LE false X.K fa)) (hb : PE X b (LE false X.K fb)) : PE X (.Subscript a (.Slice (some b) none none p2) pos) (LE fr X.K (ev2 (fun x y => sliceD x (some y) none) fa fb)) := by
  refine (pe_slice hr ha (po_some hb) po_none).imp fun σ H Q h => ?_
  have z := lift2 (fr := fr) (p := fun x y => sliceD x (some y) none) h
  obtain ⟨δ, M, F, μ, x, M', S, R, e0, k⟩ := z
  refine ⟨δ, M, F, μ, x, M', S, R, e0, fun F1 μ1 H1 v1 st1 S1 r1 => ?_⟩
  obtain ⟨δ, M, F, μ, x, M', S, R, e0, k⟩ := k F1 μ1 H1 v1 st1 S1 r1
  refine ⟨δ, M, F, μ, x, M', S, R, e0, fun F2 μ2 H2 v2 st2 S2 r2 => ?_⟩
  obtain ⟨F3, x3, y3, d, sb, rx, ry, hp, q⟩ := k F2 μ2 H2 v2 st2 S2 r2
  cases hb : bndD (some y3) with
  | none => simp only [sliceD, hb] at hp; cases hp
  | some o =>
    obtain ⟨i, rfl, rfl⟩ := bnd_int hb
    exact ⟨i, repT_int ry, F3, x3, d, sb, rx, hp, q⟩
theorem q_slH {p2 : Pos} (hr : SlR X (rSlD fr X.K)) (ha : PE X a (LE false X.K fa)) (hb : PE X b (LE false X.K fb)) : PE X (.Subscript a (.Slice none (some b) none p2) pos) (LE fr X.K (ev2 (fun x y => sliceD x none (some y)) fa fb)) := by
  refine (pe_slice hr ha po_none (po_some hb)).imp fun σ H Q h => ?_
  have z := lift2 (fr := fr) (p := fun x y => sliceD x none (some y)) h
  obtain ⟨δ, M, F, μ, x, M', S, R, e0, k⟩ := z
  refine ⟨δ, M, F, μ, x, M', S, R, e0, fun F1 μ1 H1 v1 st1 S1 r1 => ?_⟩
  obtain ⟨δ, M, F, μ, x, M', S, R, e0, k⟩ := k F1 μ1 H1 v1 st1 S1 r1
  refine ⟨δ, M, F, μ, x, M', S, R, e0, fun F2 μ2 H2 v2 st2 S2 r2 => ?_⟩
  obtain ⟨F3, x3, y3, d, sb, rx, ry, hp, q⟩ := k F2 μ2 H2 v2 st2 S2 r2
  cases hb : bndD (some y3) with
  | none => simp only [sliceD, hb] at hp; cases hp
  | some o =>
    obtain ⟨i, rfl, rfl⟩ := bnd_int hb
    exact ⟨i, repT_int ry, F3, x3, d, sb, rx, hp, q⟩
def evSl (fa fb fc : Sl → Mem → Res Val) : Sl → Mem → Res Val := fun s M => (fa s M).bind fun v M1 => (fb s M1).bind fun w M2 => (fc s M2).bind fun u M3 => match view M3 v, view M3 w, view M3 u with
    | some x, some y, some z => Res.of ((sliceD x (some y) (some z)).map .d) M3
    | _, _, _ => .bad
theorem q_slLH {p2 : Pos} (hr : SlR X (rSlD fr X.K)) (ha : PE X a (LE false X.K fa)) (hb : PE X b (LE false X.K fb)) (hc : PE X c (LE false X.K fc)) : PE X (.Subscript a (.Slice (some b) (some c) none p2) pos) (LE fr X.K (evSl fa fb fc)) := by
  refine (pe_slice hr ha (po_some hb) (po_some hc)).imp fun σ H Q ⟨δ, M, F, μ, x, M', S, R, e0, k⟩ => ?_
  obtain ⟨v, M1, e1, e0⟩ := bind_ok e0
  obtain ⟨w, M2', e2, e0⟩ := bind_ok e0
  obtain ⟨u, M3, e3, e0⟩ := bind_ok e0
  refine ⟨δ, M, F, μ, v, M1, S, R, e1, fun F1 μ1 H1 v1 st1 S1 r1 => ⟨δ, M1, F1, μ1, w, M2', S1, R.mono st1.fr st1.whole, e2, fun F2 μ2 H2 v2 st2 S2 r2 => ?_⟩⟩
  cases hx : view M3 v with
  | none => simp only [hx] at e0; cases e0
  | some dx =>
    cases hy : view M3 w with
    | none => simp only [hx, hy] at e0; cases e0
    | some dy =>
      cases hz : view M3 u with
      | none => simp only [hx, hy, hz] at e0; cases e0
      | some dz =>
        simp only [hx, hy, hz] at e0
        obtain ⟨d, hd, rfl, rfl⟩ := res_map e0
        cases hb1 : bndD (some dy) with
        | none => simp only [sliceD, hb1] at hd; cases hd
        | some o1 =>
          cases hb2 : bndD (some dz) with
          | none => simp only [sliceD, hb1, hb2] at hd; cases hd
          | some o2 =>
            obtain ⟨i, rfl, rfl⟩ := bnd_int hb1
            obtain ⟨j, rfl, rfl⟩ := bnd_int hb2
            -- the bounds are plain numbers
            have hw : w = .d (.int i) := by
              cases w with
              | d y => cases hy; rfl
              | ref n =>
                rw [view_ref] at hy
                cases e : M'[n]? with
                | none => rw [e] at hy; cases hy
                | some o => rw [e] at hy; cases o <;> cases hy
            subst hw
            refine ⟨i, repT_int (.d (H := H2) r2), δ, M2', F2, μ2, u, M', S2, (R.mono st1.fr st1.whole).mono st2.fr st2.whole, e3, fun F3 μ3 H3 v3 st3 S3 r3 => ⟨j, repT_int (S3.view r3 hz), F3, dx, d, S3.sub, S3.view (RepV.mono st3.fr st3.whole (RepV.mono st2.fr st2.whole r1)) hx, hd, ?_⟩⟩
            exact PostD.of S3 (fun a h => st1.up a (st2.up a (st3.up a h))) fun F' H' u n S' q => k F' μ3 H' u (st1.transE (st2.transE (st3.transE n.step))) S' q
end
end DL
end P_DL3
section P_DL4
set_option Elab.async false
set_option linter.all false
set_option maxRecDepth 100000
set_option maxHeartbeats 1000000
/-! What is walked; targets; comprehensions; statements. -/
namespace DL
open PySem PySem.Spec PyProof.Rows L2
section
variable {X : Cx} {fa fb fc : Sl → Mem → Res Val} {fl : Sl → Mem → Res (List Val)} {a b c e tg iter elt : Expr} {es : List Expr} {pos : Pos} {fr : Bool}

/-! ### what is walked -/
/-- at turn i the walk J gives what stands for the i-th of xs, wherever F stands -/
structure Its (K : Fr) (F : Hp) (xs : List D) (J : L2.It) : Prop where
  few : xs.length ≤ big
  goes : ∀ i H, i < xs.length → Sub F H → J.go i H
  stops : ∀ H, Sub F H → J.stop xs.length H
  yields : ∀ i H x H' d F0, xs[i]? = some d → Sub F F0 → Sub F0 H → J.yld i H x H' → ∃ F1, NewF F0 H F1 H' ∧ Rep K F1 d x
def LI (K : Fr) (f : Sl → Mem → Res (List D)) : TI := fun σ H R => ∃ δ M F μ xs M', Sim K F μ M H ∧ RepS K F μ δ σ ∧ f δ M = .ok xs M' ∧
  ∀ F' μ' H' J, StepE F μ H F' μ' H' → Sim K F' μ' M' H' → Its K F' xs J → R J H'
theorem _root_.L2.PI.imp {X : Cx} {tg e : Expr} {t t' : TI} (h : PI X tg e t) (i : ∀ σ H Q, t' σ H Q → t σ H Q) : PI X tg e t' := ⟨fun pins s σ H Q I q => h.run pins s σ H Q I (i σ H Q q)⟩
theorem its_list {K : Fr} {F : Hp} {p : Addr} {vs : List V} {ds : List D} (hl : ds.length ≤ big) (h : SqL K F p vs) (r : Reps K F ds vs) : Its K F ds (Itl K p) where
  few := hl
  goes := fun i H hi s => ⟨vs, vs[i]'(by rw [← r.length]; exact hi), s.sqL h, by simp⟩
  stops := fun H s => ⟨vs, s.sqL h, by rw [r.length]; exact Nat.le_refl _⟩
  yields := fun i H x H' d F0 hd s0 s1 ⟨e, y⟩ => by
    obtain ⟨v, hv, rv⟩ := r.get hd
    have z := y vs ((s0.trans s1).sqL h)
    rw [hv] at z; cases z
    subst e
    exact ⟨F0, NewF.refl s1, rv.mono s0⟩
theorem its_tup {K : Fr} {F : Hp} {p : Addr} {vs : List V} {ds : List D} (hl : ds.length ≤ big) (h : SqT K F p vs) (r : Reps K F ds vs) : Its K F ds (Itt K p) where
  few := hl
  goes := fun i H hi s => ⟨vs, vs[i]'(by rw [← r.length]; exact hi), s.sqT h, by simp⟩
  stops := fun H s => ⟨vs, s.sqT h, by rw [r.length]; exact Nat.le_refl _⟩
  yields := fun i H x H' d F0 hd s0 s1 ⟨e, y⟩ => by
    obtain ⟨v, hv, rv⟩ := r.get hd
    have z := y vs ((s0.trans s1).sqT h)
    rw [hv] at z; cases z
    subst e
    exact ⟨F0, NewF.refl s1, rv.mono s0⟩
theorem enc_get {s : List Char} {i : Nat} {c : Nat} (h : (enc s).cps[i]? = some c) : ∃ ch, s[i]? = some ch ∧ c = ch.toNat := by
  unfold enc at h
  simp only [List.getElem?_toArray, List.getElem?_map] at h
  obtain ⟨ch, h1, h2⟩ := Option.map_eq_some_iff.mp h
  exact ⟨ch, h1, h2.symm⟩
theorem enc_size (s : List Char) : (enc s).cps.size = s.length := by simp [enc]
theorem enc_length (s : List Char) : (enc s).length = s.length := by simp [enc, Str.length]
theorem enc_one (c : Char) : enc [c] = ⟨#[c.toNat]⟩ := rfl
theorem its_str {K : Fr} {F : Hp} {s : List Char} (hl : s.length ≤ big) : Its K F (s.map fun c => .str [c]) (L2.Its (enc s)) where
  few := by rw [List.length_map]; exact hl
  goes := fun i H hi _ => walk_str.goes i H (by rw [enc_size]; rwa [List.length_map] at hi) trivial
  stops := fun H _ => by
    have z := (walk_str (z := enc s)).stops H trivial
    rw [enc_size] at z
    rw [List.length_map]; exact z
  yields := fun i H x H' d F0 hd s0 s1 y => by
    have hi : i < (enc s).cps.size := by
      rw [enc_size]
      have := (List.getElem?_eq_some_iff.mp hd).1
      rwa [List.length_map] at this
    obtain ⟨e, c, hc, rfl⟩ := (walk_str (z := enc s)).yields i H x H' hi trivial y
    subst e
    obtain ⟨ch, h1, rfl⟩ := enc_get hc
    rw [List.getElem?_map, h1] at hd
    cases hd
    exact ⟨F0, NewF.refl s1, Rep.str [ch] (by show 1 ≤ big; decide)⟩
theorem upto_length : ∀ (n : Nat) (i : Int), (upto n i).length = n
  | 0, _ => rfl
  | n + 1, i => congrArg (· + 1) (upto_length n (i + 1))
theorem upto_get : ∀ (n : Nat) (i : Int) (k : Nat), k < n → (upto n i)[k]? = some (.int (i + k))
  | n + 1, i, 0, _ => by simp [upto]
  | n + 1, i, k + 1, h => by
    have z := upto_get n (i + 1) k (by omega)
    simp only [upto, List.getElem?_cons_succ, z]
    congr 2
    omega
theorem its_range {K : Fr} {F : Hp} {lo : Int} {n : Nat} (hl : n ≤ big) : Its K F (upto n lo) (Itr lo n) where
  few := by rw [upto_length]; exact hl
  goes := fun i H hi _ => by rw [upto_length] at hi; exact hi
  stops := fun H _ => by rw [upto_length]; exact Nat.le_refl _
  yields := fun i H x H' d F0 hd s0 s1 ⟨e, y⟩ => by
    have hi : i < n := by
      have := (List.getElem?_eq_some_iff.mp hd).1
      rwa [upto_length] at this
    rw [upto_get n lo i hi] at hd
    cases hd
    subst e y
    exact ⟨F0, NewF.refl s1, .int _⟩
/-- an expression's value, walked: a list, a tuple, a text -/
def iAny (K : Fr) (te : TE) : TI := fun σ H R => te σ H fun x H1 => (∃ p, x = .ref p ∧ (∃ vs, SqL K H1 p vs) ∧ R (Itl K p) H1) ∨ (∃ p, x = .ref p ∧ (∃ vs, SqT K H1 p vs) ∧ R (Itt K p) H1) ∨ ∃ z, x = .str z ∧ R (L2.Its z) H1
/-- te as it is with one answer fixed -/
def atV (x : V) : TE := fun _ H Q => Q x H
theorem pi_any {te : TE} (he : PE X e te) : PI X tg e (iAny X.K te) := by
  refine ⟨fun pins s σ H R I h => ?_⟩
  refine thn (he.run pins s σ H _ I h) fun v s1 ⟨x, H1, I1, r1, q1⟩ => ?_
  rcases q1 with ⟨p, rfl, ⟨vs, hq⟩, q⟩ | ⟨p, rfl, ⟨vs, hq⟩, q⟩ | ⟨z, rfl, q⟩
  · cases r1
    obtain ⟨its, rv, pl, hz⟩ := I1.list hq
    refine wpAny_pyIter_list pl.isList ?_
    refine ⟨s1.heap.objs.size, [s1.heap.objs.size], _, _, H1, rfl, I1.kept (t' := s1.toks) fun b o e => Heap.get?_push_of_some _ e, turn_list p _, ⟨_, Heap.get?_push_size _ rfl, rfl, rfl⟩, fun b hb => ?_, q⟩
    have e : b = s1.heap.objs.size := by simpa using hb
    subst e
    exact I1.fpOk (Nat.le_refl _) (I1.hok.fresh (Nat.le_refl _))
  · cases r1
    obtain ⟨its, rv, pl, hz⟩ := I1.tuple hq
    refine wpAny_pyIter_tuple (show s1.heap.IsTuple p its.toArray from pl) ?_
    refine ⟨s1.heap.objs.size, [s1.heap.objs.size], _, _, H1, rfl, I1.kept (t' := s1.toks) fun b o e => Heap.get?_push_of_some _ e, turn_tuple p _, ⟨_, Heap.get?_push_size _ rfl, rfl, rfl⟩, fun b hb => ?_, q⟩
    have e : b = s1.heap.objs.size := by simpa using hb
    subst e
    exact I1.fpOk (Nat.le_refl _) (I1.hok.fresh (Nat.le_refl _))
  · obtain ⟨t, rfl⟩ := r1
    cases ha : z.cps.all (· < 128)
    · exact wpAny_pyIter_wide ha (pi_one (tk := s1.toks) I1 _ (turn_str _ z t "str_iterator" (.inr rfl)) ⟨_, Heap.get?_push_size _ rfl, rfl, rfl⟩ q)
    · exact wpAny_pyIter_ascii ha (pi_one (tk := s1.toks) I1 _ (turn_str _ z t "str_ascii_iterator" (.inl rfl)) ⟨_, Heap.get?_push_size _ rfl, rfl, rfl⟩ q)
def evIt (fa : Sl → Mem → Res Val) : Sl → Mem → Res (List D) := fun s M => (fa s M).bind fun v M1 => match v with
  | .d x => Res.of (items x) M1
  | _ => .bad
theorem q_it (he : PE X e (LE false X.K fa)) : PI X tg e (LI X.K (evIt fa)) := by
  refine (pi_any he).imp fun σ H R ⟨δ, M, F, μ, xs, M', S, RS, e0, k⟩ => ?_
  obtain ⟨v, M1, e1, e0⟩ := bind_ok e0
  cases v with
  | ref n => cases e0
  | d y =>
    obtain ⟨h1, rfl⟩ := of_ok e0
    refine ⟨δ, M, F, μ, .d y, M', S, RS, e1, fun F1 μ1 H1 v1 st1 S1 r1 => ?_⟩
    have r1' : Rep X.K F1 y v1 := r1
    cases r1' with
    | lst hl h r => cases h1; exact .inl ⟨_, rfl, ⟨_, S1.sub.sqL (SqL.of h)⟩, k F1 μ1 H1 _ st1 S1 (its_list hl (SqL.of h) r)⟩
    | scr hl h r => cases h1; exact .inl ⟨_, rfl, ⟨_, S1.sub.sqL h⟩, k F1 μ1 H1 _ st1 S1 (its_list hl h r)⟩
    | tup hl h r => cases h1; exact .inr (.inl ⟨_, rfl, ⟨_, S1.sub.sqT (SqT.of h)⟩, k F1 μ1 H1 _ st1 S1 (its_tup hl (SqT.of h) r)⟩)
    | str s hl => cases h1; exact .inr (.inr ⟨_, rfl, k F1 μ1 H1 _ st1 S1 (its_str hl)⟩)
    | _ => cases h1
def evRng (fl : Sl → Mem → Res (List Val)) : Sl → Mem → Res (List D) := fun s M => (fl s M).bind fun vs M1 => match views M1 vs with
  | some xs => Res.of (rngD xs) M1
  | none => .bad
theorem repTs_1 {K : Fr} {F H : Hp} {x : D} {vs : List V} (r : RepTs K F H [x] vs) : ∃ v, vs = [v] ∧ RepT K F H x v := by
  cases r with | cons a b => cases b; exact ⟨_, rfl, a⟩
theorem repTs_2 {K : Fr} {F H : Hp} {x y : D} {vs : List V} (r : RepTs K F H [x, y] vs) : ∃ v w, vs = [v, w] ∧ RepT K F H x v ∧ RepT K F H y w := by
  cases r with | cons a b => cases b with | cons c d => cases d; exact ⟨_, _, rfl, a, c⟩
def evNil : Sl → Mem → Res (List Val) := fun _ M => .ok [] M
theorem one_len {s : Sl} {M M1 : Mem} {vs : List Val} (h : evCons fa evNil s M = .ok vs M1) : vs.length = 1 := by
  obtain ⟨v, M2, e1, h⟩ := bind_ok h
  obtain ⟨ws, M3, e2, h⟩ := bind_ok h
  cases h; cases e2; rfl
theorem two_len {s : Sl} {M M1 : Mem} {vs : List Val} (h : evCons fa (evCons fb evNil) s M = .ok vs M1) : vs.length = 2 := by
  obtain ⟨v, M2, e1, h⟩ := bind_ok h
  obtain ⟨ws, M3, e2, h⟩ := bind_ok h
  cases h
  rw [List.length_cons, one_len e2]
theorem q_rng1 {p : Pos} (hg : Gl X "range") (hm : X.mg "range" = none) (ha : PE X a (LE false X.K fa)) (hp : plainArg a = true) : PI X tg (.Call (.Name "range" p) [a] [] pos) (LI X.K (evRng (evCons fa evNil))) := by
  refine (pi_range1 hg hm (q_cons hp ha q_nil) (star_plain hp [] X.env)).imp fun σ H R ⟨δ, M, F, μ, xs, M', S, RS, e0, k⟩ => ?_
  obtain ⟨vs, M1, e1, e0⟩ := bind_ok e0
  cases hx : views M1 vs with
  | none => simp only [hx] at e0; cases e0
  | some ys =>
    simp only [hx] at e0
    obtain ⟨h1, rfl⟩ := of_ok e0
    refine ⟨δ, M, F, μ, vs, M', S, RS, e1, fun F1 μ1 H1 vs1 st1 S1 r1 => ?_⟩
    have rt := S1.views r1 hx
    have hl := one_len e1
    unfold rngD at h1
    split at h1
    · rename_i n
      obtain ⟨v, rfl, rv⟩ := repTs_1 rt
      obtain rfl := repT_int rv
      split at h1
      · rename_i hn
        cases h1
        exact ⟨n, rfl, by omega, by omega, k F1 μ1 H1 _ st1 S1 (its_range (by show n.toNat ≤ 16777216; omega))⟩
      · cases h1
    · obtain ⟨v, w, rfl, _, _⟩ := repTs_2 rt
      cases r1 with | cons p q => cases q with | cons p' q' => cases q'; simp at hl
    · cases h1
theorem q_rng2 {p : Pos} (hg : Gl X "range") (hm : X.mg "range" = none) (ha : PE X a (LE false X.K fa)) (hb : PE X b (LE false X.K fb)) (hp : plainArg a = true) (hp2 : plainArg b = true) : PI X tg (.Call (.Name "range" p) [a, b] [] pos) (LI X.K (evRng (evCons fa (evCons fb evNil)))) := by
  refine (pi_range2 hg hm (q_cons hp ha (q_cons hp2 hb q_nil)) (by rw [star_plain hp, star_plain hp2]; rfl) (by rw [star_plain hp2]; rfl)).imp fun σ H R ⟨δ, M, F, μ, xs, M', S, RS, e0, k⟩ => ?_
  obtain ⟨vs, M1, e1, e0⟩ := bind_ok e0
  cases hx : views M1 vs with
  | none => simp only [hx] at e0; cases e0
  | some ys =>
    simp only [hx] at e0
    obtain ⟨h1, rfl⟩ := of_ok e0
    refine ⟨δ, M, F, μ, vs, M', S, RS, e1, fun F1 μ1 H1 vs1 st1 S1 r1 => ?_⟩
    have rt := S1.views r1 hx
    have hl := two_len e1
    unfold rngD at h1
    split at h1
    · obtain ⟨v, rfl, rv⟩ := repTs_1 rt
      cases r1 with | cons p q => cases q; simp at hl
    · rename_i i j
      obtain ⟨v, w, rfl, rv, rw'⟩ := repTs_2 rt
      obtain rfl := repT_int rv
      obtain rfl := repT_int rw'
      split at h1
      · rename_i hn
        cases h1
        exact ⟨i, j, rfl, ⟨by omega, by omega, by omega, by omega⟩, k F1 μ1 H1 _ st1 S1 (its_range (by show (j - i).toNat ≤ 16777216; omega))⟩
      · cases h1
    · cases h1

/-! ### targets -/
/-- behind a target: the slots as the evaluator has them; all others as they were -/
def LG (K : Fr) (t : Tg) (own : List Nat) : TG := fun v σ H Q => ∃ δ F μ x δ', RepS K F μ δ σ ∧ Rep K F x v ∧ Sub F H ∧ bindTg t x δ = some δ' ∧
  ∀ σ', RepS K F μ δ' σ' → σ'.length = σ.length → (∀ i, i ∉ own → σ'[i]? = σ[i]?) → Q σ' H
theorem _root_.L2.PG.imp {X : Cx} {e : Expr} {t t' : TG} (h : PG X e t) (i : ∀ v σ H Q, t' v σ H Q → t v σ H Q) : PG X e t' := ⟨fun pins s σ H v u Q I r q => h.run pins s σ H v u Q I r (i v σ H Q q)⟩
theorem RepS.put {K : Fr} {F : Hp} {μ : List Addr} {δ : Sl} {σ : L2.St} (R : RepS K F μ δ σ) {i : Nat} {x : Val} {v : V} (h : RepV K F μ x v) : RepS K F μ (δ.set i (some x)) (σ.set i (some v)) := by
  refine ⟨by rw [List.length_set, List.length_set]; exact R.len, fun j y e => ?_⟩
  by_cases hj : i = j
  · subst hj
    by_cases hi : i < δ.length
    · rw [List.getElem?_set_self hi] at e
      cases e
      exact ⟨v, List.getElem?_set_self (by rw [← R.len]; exact hi), h⟩
    · rw [List.getElem?_eq_none (by rw [List.length_set]; omega)] at e; cases e
  · rw [List.getElem?_set_ne hj] at e ⊢
    exact R.at_ j y e
theorem q_tgn {i : Nat} {x : Str} (hN : X.N.Nodup) (hi : X.N[i]? = some x) (hx : Loc X.env.scope x) (hf : X.fn x = true ∨ X.env.scope.names.lookup x = some .local) : PG X (.Name x pos) (LG X.K (.n i) [i]) := by
  refine (pg_name hN hi hx hf).imp fun v σ H Q ⟨δ, F, μ, y, δ', R, r, sb, hb, k⟩ => ?_
  unfold bindTg at hb
  split at hb
  · cases hb
    refine k _ (R.put (x := .d y) r) (List.length_set ..) fun j hj => ?_
    rw [List.getElem?_set_ne (by simpa [eq_comm] using hj)]
  · cases hb
def LGs (K : Fr) (ts : List Tg) (own : List Nat) : TGs := fun vs σ H Q => ∃ δ F μ xs δ', RepS K F μ δ σ ∧ Reps K F xs vs ∧ Sub F H ∧ bindTgs ts xs δ = some δ' ∧
  ∀ σ', RepS K F μ δ' σ' → σ'.length = σ.length → (∀ i, i ∉ own → σ'[i]? = σ[i]?) → Q σ' H
theorem _root_.L2.PGs.imp {X : Cx} {e : List Expr} {t t' : TGs} (h : PGs X e t) (i : ∀ v σ H Q, t' v σ H Q → t v σ H Q) : PGs X e t' := ⟨fun pins s σ H v u Q I r q => h.run pins s σ H v u Q I r (i v σ H Q q)⟩
theorem q_tgsnil : PGs X [] (LGs X.K [] []) := by
  refine pgs_nil.imp fun vs σ H Q ⟨δ, F, μ, xs, δ', R, r, sb, hb, k⟩ => ?_
  cases r with
  | nil => cases hb; exact ⟨rfl, k σ R rfl fun _ _ => rfl⟩
  | cons _ _ => cases hb
/-- e is no *e -/
theorem asg_plain (h : plainArg e = true) (es : List Expr) (env : Env) : assignEach (e :: es) env = (false, assign e env) :: assignEach es env := by
  cases e <;> first | rfl | cases h
theorem q_tgscons {t : Tg} {ts : List Tg} {o1 o2 : List Nat} (h1 : PG X e (LG X.K t o1)) (h2 : PGs X es (LGs X.K ts o2)) (hp : plainArg e = true) : PGs X (e :: es) (LGs X.K (t :: ts) (o1 ++ o2)) := by
  refine (pgs_cons h1 h2 (by rw [asg_plain hp]; rfl)).imp fun vs σ H Q ⟨δ, F, μ, xs, δ', R, r, sb, hb, k⟩ => ?_
  cases r with
  | nil => cases hb
  | @cons y v ys ws r rs =>
    unfold bindTgs at hb
    cases hd : bindTg t y δ with
    | none => simp only [hd] at hb; cases hb
    | some δ1 =>
      simp only [hd] at hb
      refine ⟨v, ws, rfl, δ, F, μ, y, δ1, R, r, sb, hd, fun σ1 R1 l1 s1 => ⟨δ1, F, μ, ys, δ', R1, rs, sb, hb, fun σ2 R2 l2 s2 => k σ2 R2 (l2.trans l1) fun i hi => ?_⟩⟩
      rw [List.mem_append, not_or] at hi
      rw [s2 i hi.2, s1 i hi.1]
theorem asg_len : ∀ {es : List Expr} {env : Env}, es.all plainArg = true → (assignEach es env).length = es.length := by
  intro es env
  induction es with
  | nil => intro _; rfl
  | cons e es ih =>
    intro h
    rw [List.all_cons, Bool.and_eq_true] at h
    rw [asg_plain h.1, List.length_cons, List.length_cons, ih h.2]
theorem asg_star : ∀ {es : List Expr} {env : Env}, es.all plainArg = true → (assignEach es env).findIdx? (·.1) = none := by
  intro es env
  induction es with
  | nil => intro _; rfl
  | cons e es ih =>
    intro h
    rw [List.all_cons, Bool.and_eq_true] at h
    rw [asg_plain h.1, List.findIdx?_cons, ih h.2]
    rfl
theorem bindTgs_len : ∀ {ts : List Tg} {xs : List D} {δ δ' : Sl}, bindTgs ts xs δ = some δ' → ts.length = xs.length
  | [], [], _, _, _ => rfl
  | [], _ :: _, _, _, h => by cases h
  | _ :: _, [], _, _, h => by cases h
  | t :: ts, x :: xs, δ, δ', h => by
    unfold bindTgs at h
    split at h
    · rw [List.length_cons, List.length_cons, bindTgs_len h]
    · cases h
theorem q_tgt {ts : List Tg} {o : List Nat} {kk : Nat} (hc : X.calm = true) (h : PGs X es (LGs X.K ts o)) (hp : es.all plainArg = true) (hl : es.length = ts.length) : PG X (.Tuple es kk pos) (LG X.K (.t ts) o) := by
  refine (pg_tup hc h (asg_len hp) (asg_star hp)).imp fun v σ H Q ⟨δ, F, μ, y, δ', R, r, sb, hb, k⟩ => ?_
  cases r with
  | @tup p vs ds hz hs rs =>
    unfold bindTg at hb
    exact ⟨p, vs, rfl, sb.sqT (SqT.of hs), by rw [hl, bindTgs_len hb, rs.length], δ, F, μ, ds, δ', R, rs, sb, hb, k⟩
  | _ => unfold bindTg at hb; cases hb

/-! ### comprehensions -/
theorem wipeS_length (s : Sl) : ∀ vs : List Nat, (wipeS s vs).length = s.length
  | [] => rfl
  | v :: vs => by unfold wipeS; rw [List.length_set, wipeS_length s vs]
theorem wipeS_get {s : Sl} {i : Nat} : ∀ {vs : List Nat}, i ∉ vs → (wipeS s vs)[i]? = s[i]?
  | [], _ => rfl
  | v :: vs, h => by
    rw [List.mem_cons, not_or] at h
    unfold wipeS
    rw [List.getElem?_set_ne (Ne.symm h.1), wipeS_get h.2]
theorem wipeS_in {s : Sl} {i : Nat} : ∀ {vs : List Nat}, i ∈ vs → ∀ x, (wipeS s vs)[i]? ≠ some (some x)
  | v :: vs, h, x, e => by
    unfold wipeS at e
    by_cases hv : v = i
    · subst hv
      by_cases hl : v < (wipeS s vs).length
      · rw [List.getElem?_set_self hl] at e; cases e
      · rw [List.getElem?_eq_none (by rw [List.length_set]; omega)] at e; cases e
    · rw [List.getElem?_set_ne hv] at e
      rcases List.mem_cons.mp h with h | h
      · exact hv h.symm
      · exact wipeS_in h x e
theorem wipe_getN {σ : L2.St} {i : Nat} : ∀ {vs : List Nat}, i ∉ vs → (wipe σ vs)[i]? = σ[i]?
  | [], _ => rfl
  | v :: vs, h => by
    rw [List.mem_cons, not_or] at h
    unfold wipe
    rw [List.getElem?_set_ne (Ne.symm h.1), wipe_getN h.2]
theorem wipe_getI {σ : L2.St} {i : Nat} : ∀ {vs : List Nat}, i ∈ vs → (wipe σ vs)[i]? = if i < σ.length then some none else none
  | v :: vs, h => by
    unfold wipe
    by_cases hv : v = i
    · subst hv
      by_cases hl : v < σ.length
      · rw [List.getElem?_set_self (by rw [wipe_length]; exact hl), if_pos hl]
      · rw [List.getElem?_eq_none (by rw [List.length_set, wipe_length]; omega), if_neg hl]
    · rw [List.getElem?_set_ne hv]
      rcases List.mem_cons.mp h with h | h
      · exact absurd h.symm hv
      · exact wipe_getI h
theorem RepS.wipe {K : Fr} {F : Hp} {μ : List Addr} {δ : Sl} {σ : L2.St} (R : RepS K F μ δ σ) (vs : List Nat) : RepS K F μ (wipeS δ vs) (wipe σ vs) := by
  refine ⟨by rw [wipeS_length, wipe_length]; exact R.len, fun i x e => ?_⟩
  by_cases hi : i ∈ vs
  · exact absurd e (wipeS_in hi x)
  · rw [wipeS_get hi] at e
    obtain ⟨v, e1, r⟩ := R.at_ i x e
    exact ⟨v, by rw [wipe_getN hi]; exact e1, r⟩
/-- slots changed within vs alone are the same behind the wipe -/
theorem wipe_same {σ τ : L2.St} {vs : List Nat} (hl : τ.length = σ.length) (h : ∀ i, i ∉ vs → τ[i]? = (wipe σ vs)[i]?) : wipe τ vs = wipe σ vs := by
  refine List.ext_getElem? fun i => ?_
  by_cases hi : i ∈ vs
  · rw [wipe_getI hi, wipe_getI hi, hl]
  · rw [wipe_getN hi, h i hi]
def evBlk (own : List Nat) (t : Tg) (fifs : Sl → Mem → Res Bool) (fa : Sl → Mem → Res Val) (s : Sl) : D → Mem → Res (Option D) := fun x M' => match bindTg t x (wipeS s own) with
  | some s' => (fifs s' M').bind fun b M2 => if b then (fa s' M2).bind fun v M3 => (match v with | .d y => .ok (some y) M3 | _ => .bad) else .ok none M2
  | none => .bad
def evLc (own : List Nat) (t : Tg) (fI : Sl → Mem → Res (List D)) (fifs : Sl → Mem → Res Bool) (fa : Sl → Mem → Res Val) : Sl → Mem → Res Val := fun s M => (fI s M).bind fun xs M1 =>
  (compLoop (evBlk own t fifs fa s) xs M1).bind fun ys M2 => .ok (.d (.lst ys)) M2
theorem compLoop_len {b : D → Mem → Res (Option D)} : ∀ {xs : List D} {M M' : Mem} {ys : List D}, compLoop b xs M = .ok ys M' → ys.length ≤ xs.length
  | [], _, _, _, h => by cases h; exact Nat.le_refl _
  | x :: xs, M, M', ys, h => by
    unfold compLoop at h
    obtain ⟨o, M1, e1, h⟩ := bind_ok h
    obtain ⟨zs, M2, e2, h⟩ := bind_ok h
    have := compLoop_len e2
    cases o with
    | none => cases h; rw [List.length_cons]; omega
    | some y => cases h; rw [List.length_cons, List.length_cons]; omega
/-- a new object's content is told anew -/
theorem Step.updNew {b : Nat} {F F' : Hp} {μ μ' : List Addr} {H H' : Hp} (s : Step b F μ H F' μ' H') {p : Addr} (hp : H p = none) (o : HO) : Step b F μ H F' μ' (upd H' p o) where
  fr := s.fr
  pre := s.pre
  new := s.new
  keep := fun a u h n => by rw [upd_ne (ne_of_none h hp)]; exact s.keep a u h n
  up := fun a h => by
    by_cases e : a = p
    · rw [e, upd_same] at h; cases h
    · rw [upd_ne e] at h; exact s.up a h
  newF := s.newF
theorem Sim.updNew {K : Fr} {F : Hp} {μ : List Addr} {M : Mem} {H : Hp} (S : Sim K F μ M H) {p : Addr} (h1 : F p = none) (h2 : p ∉ μ) (o : HO) : Sim K F μ M (upd H p o) where
  sub := fun a u h => by
    have e : a ≠ p := fun e => by rw [e, h1] at h; cases h
    rw [upd_ne e]; exact S.sub a u h
  out := S.out
  nd := S.nd
  len := S.len
  obj := fun i u a q1 q2 => by
    have e : a ≠ p := fun e => h2 (by rw [← e]; exact List.mem_of_getElem? q2)
    rw [upd_ne e]; exact S.obj i u a q1 q2
/-- what is neither still nor of the store stays so, and as it is -/
theorem Step.apart {F F' : Hp} {μ μ' : List Addr} {H H' : Hp} (s : StepE F μ H F' μ' H') (sb : Sub F' H') {p : Addr} {o : HO} (hp : H p = some o) (h1 : F p = none) (h2 : p ∉ μ) (hm : Mut (some o) := by trivial) : H' p = some o ∧ F' p = none ∧ p ∉ μ' := by
  refine ⟨s.keep p o hp h2, ?_, fun z => ?_⟩
  · cases q : F' p with
    | none => rfl
    | some u =>
      rcases s.newF p u q with z | z | ⟨z, _⟩ | ⟨xs, rfl⟩
      · rw [h1] at z; cases z
      · rw [hp] at z; cases z
      · exact absurd z h2
      · have e := s.keep p o hp h2
        rw [sb p _ q] at e
        cases e
        exact hm.elim
  · rcases s.new p z with z | z
    · exact h2 z
    · rw [hp] at z; cases z
theorem liftLc {K : Fr} {own o : List Nat} {t : Tg} {fI : Sl → Mem → Res (List D)} {fifs : Sl → Mem → Res Bool} {σ : L2.St} {H : Hp} {Q : VK} (ho : ∀ i ∈ o, i ∈ own) (h : LE true K (evLc own t fI fifs fa) σ H Q) :
    tLc (LI K fI) (LG K t o) (LT K fifs) (LE false K fa) own σ H Q := by
  obtain ⟨δ, M, F, μ, x, M', S, R, e0, k⟩ := h
  obtain ⟨xs, M1, e1, e0⟩ := bind_ok e0
  obtain ⟨rs, M2', e2, e0⟩ := bind_ok e0
  cases e0
  refine ⟨δ, M, F, μ, xs, M1, S, R, e1, fun F1 μ1 H1 J st1 S1 its D hD => ?_⟩
  have wk : Walk J xs.length (fun H => Sub F1 H) (fun i H x H' => Sub F1 H ∧ J.yld i H x H') := ⟨fun i H hi g => its.goes i H hi g, its.stops, fun i H x H' hi g y => ⟨g, y⟩⟩
  have R1 := R.mono st1.fr st1.whole
  have F1D : F1 D = none := by
    cases q : F1 D with
    | none => rfl
    | some u => rw [S1.sub D u q] at hD; cases hD
  -- behind i items: ys are made, standing at D; the rest makes zs
  refine lc_it wk (fun i Hi => ∃ Fi μi Mi ys zs acc, StepE F1 μ1 H1 Fi μi Hi ∧ Sim K Fi μi Mi Hi ∧ Hi D = some (.lst acc) ∧ Fi D = none ∧ D ∉ μi ∧ Reps K Fi ys acc ∧ ys.length ≤ i ∧ rs = ys ++ zs ∧ compLoop (evBlk own t fifs fa δ) (xs.drop i) Mi = .ok zs M') ?_ ?_ ?_ ?_
  · exact ⟨F1, μ1, M1, [], rs, [], (Step.refl _ _ _ _).updNew hD _, S1.updNew F1D (fun z => S1.tracked z hD) _, upd_same, F1D, fun z => S1.tracked z hD, .nil, Nat.le_refl _, rfl, e2⟩
  · rintro i Hi _ ⟨Fi, μi, Mi, ys, zs, acc, st, Si, _⟩
    exact st.fr.trans Si.sub
  · rintro i v Hi H2 hi ⟨Fi, μi, Mi, ys, zs, acc, st, Si, hacc, FD, mD, ra, hyl, hrs, hrun⟩ ⟨_, hy⟩
    have hx : xs[i]? = some xs[i] := List.getElem?_eq_getElem hi
    rw [List.drop_eq_getElem_cons hi] at hrun
    unfold compLoop at hrun
    obtain ⟨oy, M3, e3, hrun⟩ := bind_ok hrun
    obtain ⟨zs', M4, e4, hrun⟩ := bind_ok hrun
    obtain ⟨F2, nf, rx⟩ := its.yields i Hi v H2 xs[i] Fi hx st.fr Si.sub hy
    have st2 : StepE Fi μi Hi F2 μi H2 := nf.step
    have S2 := nf.sim Si
    obtain ⟨hacc2, FD2, mD2⟩ := st2.apart S2.sub hacc FD mD
    unfold evBlk at e3
    cases hb : bindTg t xs[i] (wipeS δ own) with
    | none => simp only [hb] at e3; cases e3
    | some δ' =>
      simp only [hb] at e3
      obtain ⟨b, M5, e5, e3⟩ := bind_ok e3
      have Rw : RepS K F2 μi (wipeS δ own) (wipe σ own) := ((R1.mono st.fr st.whole).mono st2.fr st2.whole).wipe own
      refine ⟨wipeS δ own, F2, μi, xs[i], δ', Rw, rx, S2.sub, hb, fun σ2 R2 l2 s2 => ⟨wipe_same (by rw [l2, wipe_length]) fun j hj => s2 j fun z => hj (ho j z), ?_⟩⟩
      refine ⟨δ', Mi, F2, μi, b, M5, S2, R2, e5, fun F5 μ5 H5 st5 S5 => ?_⟩
      obtain ⟨hacc5, FD5, mD5⟩ := st5.apart S5.sub hacc2 FD2 mD2
      have r5 : Reps K F5 ys acc := Reps.mono (st2.fr.trans st5.fr) ra
      have stt := (Step.transE st (Step.transE st2 st5))
      cases b with
      | false =>
        rw [if_neg Bool.false_ne_true] at e3 ⊢
        cases e3
        cases hrun
        exact ⟨F5, μ5, _, ys, zs, acc, stt, S5, hacc5, FD5, mD5, r5, by omega, hrs, e4⟩
      | true =>
        rw [if_pos rfl] at e3 ⊢
        obtain ⟨w, M6, e6, e3⟩ := bind_ok e3
        cases w with
        | ref n => cases e3
        | d y =>
          cases e3
          cases hrun
          refine ⟨δ', M5, F5, μ5, .d y, _, S5, R2.mono st5.fr st5.whole, e6, fun F6 μ6 H6 w st6 S6 r6 => ?_⟩
          obtain ⟨hacc6, FD6, mD6⟩ := st6.apart S6.sub hacc5 FD5 mD5
          have hfew : xs.length ≤ 16777216 := its.few
          refine ⟨acc, hacc6, by rw [← r5.length, sizeLine_eq]; omega, F6, μ6, _, ys ++ [y], zs', acc ++ [w], (stt.transE st6).updNew hD _, S6.updNew FD6 mD6 _, upd_same, FD6, mD6, (Reps.mono st6.fr r5).append (.cons r6 .nil), by rw [List.length_append, List.length_singleton]; omega, by rw [hrs, List.append_assoc]; rfl, e4⟩
  · rintro Hn ⟨Fi, μi, Mi, ys, zs, acc, st, Si, hacc, FD, mD, ra, hyl, hrs, hrun⟩
    rw [List.drop_length] at hrun
    cases hrun
    rw [List.append_nil] at hrs
    subst hrs
    have hfew : xs.length ≤ 16777216 := its.few
    refine k Fi μi Hn _ (st1.transE st) Si ⟨D, rs, acc, rfl, rfl, hacc, FD, mD, st1.up D hD, by show rs.length ≤ 16777216; omega, ra⟩
theorem q_lc {scope : Scope} {own : List (Str × Nat)} {ifs : List Expr} {o : List Nat} {t : Tg} {fI : Sl → Mem → Res (List D)} {fifs : Sl → Mem → Res Bool} (ho : ∀ i ∈ o, i ∈ own.map (·.2)) (hc : X.calm = true) (hN : X.N.Nodup) (hi : PI X tg iter (LI X.K fI)) (ok : BlkOk X.N X.env.scope scope own)
    (hg : ∀ (s : Shared) (H : Hp) (C : Addr) (cl : List (Str × Addr)) (fp : List Addr), PG (X.blk s H scope (compEnvC scope cl C X.env) fp) tg (LG X.K t o)) (ht : ∀ (s : Shared) (H : Hp) (C : Addr) (cl : List (Str × Addr)) (fp : List Addr), PTs (X.blk s H scope (compEnvC scope cl C X.env) fp) ifs (LT X.K fifs))
    (he : ∀ (s : Shared) (H : Hp) (C : Addr) (cl : List (Str × Addr)) (fp : List Addr), PE (X.blk s H scope (compEnvC scope cl C X.env) fp) elt (LE false X.K fa)) (hs : ∀ x, foldedSetIterable iter X.env x = pure x) :
    PE X (.ListComp elt [⟨tg, iter, ifs, 0⟩] scope pos) (LE true X.K (evLc (own.map (·.2)) t fI fifs fa)) :=
  (pe_lc hc hN hi ok hg ht he hs).imp fun _ _ _ h => liftLc ho h
theorem q_ifs0 : PTs X [] (LT X.K fun _ M => .ok true M) := by
  refine ⟨fun pins s σ H Q I ⟨δ, M, F, μ, x, M', S, R, e0, k⟩ => ?_⟩
  cases e0
  exact pts_nil.run pins s σ H Q I (k F μ H (Step.refl _ _ _ _) S)
theorem q_ifs1 {fT : Sl → Mem → Res Bool} (h : PT X e (LT X.K fT)) : PTs X [e] (LT X.K fun s M => (fT s M).bind fun b M1 => if b then .ok true M1 else .ok false M1) := by
  refine ⟨fun pins s σ H Q I ⟨δ, M, F, μ, x, M', S, R, e0, k⟩ => (pts_one h).run pins s σ H Q I ?_⟩
  obtain ⟨b, M1, e1, e0⟩ := bind_ok e0
  cases b <;> cases e0 <;> exact ⟨δ, M, F, μ, _, _, S, R, e1, k⟩
theorem folded_plain (h : ∀ es k p, iter ≠ .Set es k p) (env : Env) (x : Value) : foldedSetIterable iter env x = pure x := by
  cases iter <;> first | rfl | exact absurd rfl (h _ _ _)
end
end DL
end P_DL4
section P_DL5
set_option Elab.async false
set_option linter.all false
set_option maxRecDepth 100000
set_option maxHeartbeats 1000000
/-! Calls of defs; statements; a def by its body. -/
namespace DL
open PySem PySem.Spec PyProof.Rows L2

/-! ### a def's promise -/
/-- called with what stands for xs it hands back what g says -/
def spF (fr : Bool) (K : Fr) (n : Nat) (g : List Val → Mem → Res Val) : Sp := fun vs H Q _ => vs.length = n ∧ ∃ xs M F μ x M', Sim K F μ M H ∧ RepVs K F μ xs vs ∧ g xs M = .ok x M' ∧
  ∀ F' μ' H' v, StepE F μ H F' μ' H' → Sim K F' μ' M' H' → PostV fr K F' μ' H H' x v → Q v H'
section
variable {X : Cx} {fa fb fc : Sl → Mem → Res Val} {fl : Sl → Mem → Res (List Val)} {a b c e tg iter elt : Expr} {es : List Expr} {pos : Pos} {fr : Bool}
def evCall (g : List Val → Mem → Res Val) (fl : Sl → Mem → Res (List Val)) : Sl → Mem → Res Val := fun s M => (fl s M).bind fun vs M1 => g vs M1
theorem RepVs.length {K : Fr} {F : Hp} {μ : List Addr} : ∀ {xs : List Val} {vs : List V}, RepVs K F μ xs vs → xs.length = vs.length
  | _, _, .nil => rfl
  | _, _, .cons _ r => congrArg (· + 1) r.length
theorem PostV.back {K : Fr} {F : Hp} {μ : List Addr} {H0 H1 H : Hp} {x : Val} {v : V} (h : ∀ a, H1 a = none → H0 a = none) (p : PostV fr K F μ H1 H x v) : PostV fr K F μ H0 H x v := by
  cases fr with
  | false => exact p
  | true =>
    obtain ⟨a, ds, vs, h1, h2, h3, h4, h5, h6, h7⟩ := p
    exact ⟨a, ds, vs, h1, h2, h3, h4, h5, h a h6, h7⟩
theorem liftCall {K : Fr} {n : Nat} {g : List Val → Mem → Res Val} (hg : ∀ xs M x M', g xs M = .ok x M' → xs.length = n) {σ : L2.St} {H : Hp} {Q : VK} (h : LE fr K (evCall g fl) σ H Q) : tCall (spF fr K n g) [] E0 (LA K fl) σ H Q := by
  obtain ⟨δ, M, F, μ, x, M', S, R, e0, k⟩ := h
  obtain ⟨vs, M1, e1, e0⟩ := bind_ok e0
  refine ⟨δ, M, F, μ, vs, M1, S, R, e1, fun F1 μ1 H1 ws st1 S1 r1 => ?_⟩
  show spF fr K n g (ws ++ []) H1 Q E0
  rw [List.append_nil]
  exact ⟨by rw [← r1.length, hg _ _ _ _ e0], vs, M1, F1, μ1, x, M', S1, r1, e0, fun F' μ' H' v st S' p => k F' μ' H' v (st1.transE st) S' (p.back fun a => st1.up a)⟩
theorem q_call {n k : Nat} {f : Addr} {fd : FuncData} {x : Str} {p : Pos} {ps : List Str} {g : List Val → Mem → Res Val} (hl : ∀ xs M x M', g xs M = .ok x M' → xs.length = n) (F : FnOk X.prog X.w X.K X.mg X.base CX0 k f fd ps (spF fr X.K n g)) (hr : Room k X.A) (hg : Gl X x) (hm : X.mg x = some (.ref f))
    (hk : PySem.W.keepIn X.K (.ref f) = true) (hb : Binds X.K fd ps []) (ha : PA X (e :: es) (LA X.K fl)) (hp : (e :: es).all plainArg = true) (hdb : (x == ("__debug__" : Str)) = false) : PE X (.Call (.Name x p) (e :: es) [] pos) (LE fr X.K (evCall g fl)) := by
  rw [List.all_cons, Bool.and_eq_true] at hp
  exact (pe_call F hr hg hm hk hb .nil pass0 ha hdb (star_plain hp.1 es X.env) (star_any hp.2)).imp fun _ _ _ h => liftCall hl h

/-! ### keywords -/
theorem q_knil : PK X [] (LA X.K fun _ M => .ok [] M) :=
  pk_nil.imp fun σ H Q ⟨δ, M, F, μ, x, M', S, R, e0, k⟩ => by
    cases e0
    exact k F μ H [] (Step.refl _ _ _ _) S .nil
theorem q_kcons {nm : Option Str} {kpos : Pos} {kws : List Keyword} (ha : PE X e (LE false X.K fa)) (hr : PK X kws (LA X.K fl)) : PK X (⟨nm, e, kpos⟩ :: kws) (LA X.K (evCons fa fl)) :=
  (pk_cons ha hr).imp fun _ _ _ h => liftC h
/-- the values by place, then those by name (ks: their places), in the parameters' order -/
def placeBy {α : Type} (n : Nat) (us : List α) (ks : List Nat) (ws : List α) : List α := (List.range n).filterMap fun i => if i < us.length then us[i]? else ((ks.zip ws).find? (·.1 == i)).map (·.2)
def evCallK (n : Nat) (g : List Val → Mem → Res Val) (ks : List Nat) (fl fk : Sl → Mem → Res (List Val)) : Sl → Mem → Res Val := fun s M => (fl s M).bind fun vs M1 => (fk s M1).bind fun ws M2 => match byNames n vs ks ws with
    | some us => g us M2
    | none => .bad
theorem find_zip {α β : Type} {R : α → β → Prop} : ∀ (ks : List Nat) {us : List α} {ws : List β}, Paired R us ws → ∀ i, (∃ u w, ((ks.zip us).find? (·.1 == i)).map (·.2) = some u ∧ ((ks.zip ws).find? (·.1 == i)).map (·.2) = some w ∧ R u w) ∨
    (((ks.zip us).find? (·.1 == i)).map (·.2) = none ∧ ((ks.zip ws).find? (·.1 == i)).map (·.2) = none)
  | [], _, _, _, i => .inr ⟨rfl, rfl⟩
  | k :: ks, _, _, .nil, i => .inr ⟨rfl, rfl⟩
  | k :: ks, _, _, .cons (a := u) (b := w) r t, i => by
    by_cases h : (k == i) = true
    · exact .inl ⟨u, w, by simp [List.zip_cons_cons, List.find?_cons, h], by simp [List.zip_cons_cons, List.find?_cons, h], r⟩
    · have h' : (k == i) = false := by simpa using h
      rcases find_zip ks t i with ⟨u', w', e1, e2, q⟩ | ⟨e1, e2⟩
      · exact .inl ⟨u', w', by simp only [List.zip_cons_cons, List.find?_cons, h']; exact e1, by simp only [List.zip_cons_cons, List.find?_cons, h']; exact e2, q⟩
      · exact .inr ⟨by simp only [List.zip_cons_cons, List.find?_cons, h']; exact e1, by simp only [List.zip_cons_cons, List.find?_cons, h']; exact e2⟩
theorem Paired.getP {α β : Type} {R : α → β → Prop} : ∀ {us : List α} {ws : List β}, Paired R us ws → ∀ i : Nat, (∃ u w, us[i]? = some u ∧ ws[i]? = some w ∧ R u w) ∨ (us[i]? = none ∧ ws[i]? = none)
  | _, _, .nil, i => .inr ⟨by simp, by simp⟩
  | _, _, .cons (a := u) (b := w) r t, 0 => .inl ⟨u, w, rfl, rfl, r⟩
  | _, _, .cons r t, i + 1 => by simpa using Paired.getP t i
theorem place_pair {α β : Type} {R : α → β → Prop} {us : List α} {ws : List β} {us2 : List α} {ws2 : List β} (h : Paired R us ws) (h2 : Paired R us2 ws2) (ks : List Nat) : ∀ l : List Nat,
    Paired R (l.filterMap fun i => if i < us.length then us[i]? else ((ks.zip us2).find? (·.1 == i)).map (·.2)) (l.filterMap fun i => if i < ws.length then ws[i]? else ((ks.zip ws2).find? (·.1 == i)).map (·.2))
  | [] => .nil
  | i :: l => by
    have ih := place_pair h h2 ks l
    have hl := Paired.length h
    simp only [List.filterMap_cons]
    by_cases hi : i < us.length
    · rw [if_pos hi, if_pos (by omega)]
      rcases Paired.getP h i with ⟨u, w, e1, e2, r⟩ | ⟨e1, e2⟩
      · rw [e1, e2]; exact .cons r ih
      · rw [e1, e2]; exact ih
    · rw [if_neg hi, if_neg (by omega)]
      rcases find_zip ks h2 i with ⟨u, w, e1, e2, r⟩ | ⟨e1, e2⟩
      · rw [e1, e2]; exact .cons r ih
      · rw [e1, e2]; exact ih
theorem mapM_filter {α β : Type} {f : α → Option β} : ∀ {l : List α} {r : List β}, l.mapM f = some r → l.filterMap f = r
  | [], r, h => by cases h; rfl
  | a :: l, r, h => by
    rw [List.mapM_cons] at h
    cases e : f a with
    | none => rw [e] at h; cases h
    | some b =>
      rw [e] at h
      cases e2 : l.mapM f with
      | none => simp only [e2] at h; cases h
      | some rs =>
        simp only [e2] at h
        cases h
        rw [List.filterMap_cons, e, mapM_filter e2]
theorem RepVs.paired {K : Fr} {F : Hp} {μ : List Addr} : ∀ {xs : List Val} {vs : List V}, RepVs K F μ xs vs → Paired (RepV K F μ) xs vs
  | _, _, .nil => .nil
  | _, _, .cons a r => .cons a r.paired
theorem RepVs.of {K : Fr} {F : Hp} {μ : List Addr} : ∀ {xs : List Val} {vs : List V}, Paired (RepV K F μ) xs vs → RepVs K F μ xs vs
  | _, _, .nil => .nil
  | _, _, .cons a r => .cons a (RepVs.of r)
theorem q_callK {n k : Nat} {f : Addr} {fd : FuncData} {x : Str} {p : Pos} {ps kn : List Str} {ks : List Nat} {kws : List Keyword} {fk : Sl → Mem → Res (List Val)} {g : List Val → Mem → Res Val} (hl : ∀ xs M x M', g xs M = .ok x M' → xs.length = n) (F : FnOk X.prog X.w X.K X.mg X.base CX0 k f fd ps (spF fr X.K n g)) (hr : Room k X.A) (hg : Gl X x) (hm : X.mg x = some (.ref f))
    (hk : PySem.W.keepIn X.K (.ref f) = true) (hb : KBinds X.K fd ps kn (fun us ws => placeBy n us ks ws) (fun us ws => placeBy n us ks ws)) (ha : PA X (e :: es) (LA X.K fl)) (hkw : PK X kws (LA X.K fk)) (hall : (backToKw pos (keywordEach kws X.env)).all (·.1.isSome) = true) (hks : (backToKw pos (keywordEach kws X.env)).filterMap (·.1) = kn)
    (hdb : (x == ("__debug__" : Str)) = false) (hp : (e :: es).all plainArg = true) (hany : (backToKw pos (keywordEach kws X.env)).any (·.1.isNone) = false) :
    PE X (.Call (.Name x p) (e :: es) kws pos) (LE fr X.K (evCallK n g ks fl fk)) := by
  have hp' := hp
  rw [List.all_cons, Bool.and_eq_true] at hp
  refine (pe_callK F hr hg hm hk hb pass0 ha hkw hall hks hdb (star_plain hp.1 es X.env) (by rw [star_any hp', hany]; rfl)).imp fun σ H Q ⟨δ, M, F, μ, x, M', S, R, e0, k⟩ => ?_
  obtain ⟨vs, M1, e1, e0⟩ := bind_ok e0
  obtain ⟨ws, M2', e2, e0⟩ := bind_ok e0
  refine ⟨δ, M, F, μ, vs, M1, S, R, e1, fun F1 μ1 H1 v1 st1 S1 r1 => ⟨δ, M1, F1, μ1, ws, M2', S1, R.mono st1.fr st1.whole, e2, fun F2 μ2 H2 v2 st2 S2 r2 => ?_⟩⟩
  cases hbn : byNames n vs ks ws with
  | none => simp only [hbn] at e0; cases e0
  | some us =>
    simp only [hbn] at e0
    have hus : placeBy n vs ks ws = us := mapM_filter hbn
    have rr : RepVs X.K F2 μ2 us (placeBy n v1 ks v2) := by
      rw [← hus]
      exact RepVs.of (place_pair (r1.mono st2.fr st2.whole).paired r2.paired ks _)
    exact ⟨by rw [← rr.length, hl _ _ _ _ e0], us, M2', F2, μ2, x, M', S2, rr, e0, fun F' μ' H' v st S' p => k F' μ' H' v (st1.transE (st2.transE st)) S' (p.back fun a h => st1.up a (st2.up a h))⟩

/-! ### statements -/
variable {bs : Nat} {y : Str}
theorem LS.mono {bs : Nat} {K : Fr} {F F1 : Hp} {μ μ1 : List Addr} {H H1 : Hp} {M1 : Mem} (hb : bs ≤ μ.length) (st : StepE F μ H F1 μ1 H1) : bs ≤ μ1.length ∧ Step bs F μ H F1 μ1 H1 :=
  ⟨Nat.le_trans hb st.leE, Step.mono st hb⟩
/-- a value stored -/
def evAsg (fa : Sl → Mem → Res Val) (st : Val → Sl → Mem → Res Sl) : Sl → Mem → Res Flow := fun s M => (fa s M).bind fun v M1 => (st v s M1).bind fun s1 M2 => .ok (.nx s1) M2
def stN (i : Nat) : Val → Sl → Mem → Res Sl := fun v s M => if i < s.length then .ok (s.set i (some v)) M else .bad
theorem liftAsgN {K : Fr} {i : Nat} {D : Ends} {σ : L2.St} {H : Hp} (h : LS bs K (evAsg fa (stN i)) D σ H) : tAsg (LE false K fa) (gName i) D σ H := by
  obtain ⟨δ, M, F, μ, x, M', hb, S, R, e0, k⟩ := h
  obtain ⟨v, M1, e1, e0⟩ := bind_ok e0
  obtain ⟨s1, M2', e2, e0⟩ := bind_ok e0
  cases e0
  unfold stN at e2
  split at e2
  · cases e2
    refine ⟨δ, M, F, μ, v, _, S, R, e1, fun F1 μ1 H1 w st S1 r => ?_⟩
    exact k F1 μ1 H1 _ (Nat.le_trans hb st.leE) (Step.mono st hb) S1 ((R.mono st.fr st.whole).put r)
  · cases e2
theorem q_asgn {i : Nat} {py : Pos} (hN : X.N.Nodup) (hi : X.N[i]? = some y) (hx : Loc X.env.scope y) (he : PE X e (LE false X.K fa)) (hs : swapsWith e (some (.Name y py)) pos.line X.env = pure false) (hf : X.fn y = true ∨ X.env.scope.names.lookup y = some .local) :
    PS X (.Assign [.Name y py] e pos) (LS bs X.K (evAsg fa (stN i))) :=
  (ps_set hN hi hx he hs hf).imp fun _ _ _ h => liftAsgN h
theorem LE_frozen {K : Fr} {f : Sl → Mem → Res Val} {σ : L2.St} {H : Hp} {Q : VK} : LE false K f σ H Q → LE true K f σ H Q := fun ⟨δ, M, F, μ, x, M', S, R, ef, k⟩ => ⟨δ, M, F, μ, x, M', S, R, ef, fun F' μ' H' v st S' p => by
    obtain ⟨F'', st', S'', r⟩ := PostV.freeze st S' p
    exact k F'' μ' H' v st' S'' r⟩
def newOf (f : Sl → Mem → Res Val) : Sl → Mem → Res Val := fun δ M => (f δ M).bind fun v M1 => match v with
    | .d (.lst l) => .ok (.ref M1.length) (M1 ++ [.lst l])
    | _ => .bad
theorem LE_newed {K : Fr} {f : Sl → Mem → Res Val} {σ : L2.St} {H : Hp} {Q : VK} : LE false K (newOf f) σ H Q → LE true K f σ H Q := fun ⟨δ, M, F, μ, x, M', S, R, ef, k⟩ => by
    obtain ⟨y, M1, e1, e2⟩ := bind_ok ef
    refine ⟨δ, M, F, μ, y, M1, S, R, e1, fun F' μ' H' v st S' p => ?_⟩
    obtain ⟨a, ds, vs, rfl, rfl, h1, h2, h3, h4, h6, h5⟩ := p
    cases e2
    refine k F' (μ' ++ [a]) H' (.ref a) ⟨st.fr, ?_, fun b hb => ?_, st.keep, st.up, st.newF⟩ ⟨S'.sub, fun b hb => ?_, ?_, ?_, fun i o b q1 q2 => ?_⟩ ⟨a, ?_, rfl⟩
    · rw [List.take_append_of_le_length st.leE]; exact st.pre
    · rcases List.mem_append.mp hb with hb | hb
      · exact st.new b hb
      · rw [List.mem_singleton.mp hb]; exact .inr h4
    · rcases List.mem_append.mp hb with hb | hb
      · exact S'.out b hb
      · rw [List.mem_singleton.mp hb]; exact h2
    · exact List.nodup_append.mpr ⟨S'.nd, (by simp), fun b hb c hc e => by rw [List.mem_singleton.mp hc] at e; exact h3 (by rw [← e]; exact hb)⟩
    · rw [List.length_append, List.length_append, S'.len]; rfl
    · have hl := S'.len
      by_cases hi : i < M1.length
      · rw [List.getElem?_append_left hi] at q1
        rw [List.getElem?_append_left (by omega)] at q2
        exact S'.obj i o b q1 q2
      · rw [List.getElem?_append_right (by omega)] at q1 q2
        have z : i - M1.length = 0 := by
          have := (List.getElem?_eq_some_iff.mp q1).1
          simp at this; omega
        rw [z] at q1
        rw [hl, z] at q2
        cases q1; cases q2
        rw [h1]; exact ⟨h6, h5⟩
    · rw [List.getElem?_append_right (by rw [S'.len]; exact Nat.le_refl _), S'.len, Nat.sub_self]; rfl
/-- name = [..] on one line -/
theorem q_setLc {i : Nat} {py : Pos} {spos : Pos} {scope : Scope} {own : List (Str × Nat)} {ifs : List Expr} {o : List Nat} {t : Tg} {fI : Sl → Mem → Res (List D)} {fifs : Sl → Mem → Res Bool} (ho : ∀ i ∈ o, i ∈ own.map (·.2)) (hc : X.calm = true) (hN : X.N.Nodup) (hy : X.N[i]? = some y) (hyl : X.env.scope.names.lookup y = some .local)
    (hsw : swapsWith (.ListComp elt [⟨tg, iter, ifs, 0⟩] scope pos) (some (.Name y py)) spos.line X.env = pure true) (hi : PI X tg iter (LI X.K fI)) (ok : BlkOk X.N X.env.scope scope own)
    (hg : ∀ (s : Shared) (H : Hp) (C : Addr) (cl : List (Str × Addr)) (fp : List Addr), PG (X.blk s H scope (compEnvC scope cl C X.env) fp) tg (LG X.K t o)) (ht : ∀ (s : Shared) (H : Hp) (C : Addr) (cl : List (Str × Addr)) (fp : List Addr), PTs (X.blk s H scope (compEnvC scope cl C X.env) fp) ifs (LT X.K fifs))
    (he : ∀ (s : Shared) (H : Hp) (C : Addr) (cl : List (Str × Addr)) (fp : List Addr), PE (X.blk s H scope (compEnvC scope cl C X.env) fp) elt (LE false X.K fa)) (hs : ∀ x, foldedSetIterable iter X.env x = pure x) :
    PS X (.Assign [.Name y py] (.ListComp elt [⟨tg, iter, ifs, 0⟩] scope pos) spos) (LS bs X.K (evAsg (evLc (own.map (·.2)) t fI fifs fa) (stN i))) ∧
    PS X (.Assign [.Name y py] (.ListComp elt [⟨tg, iter, ifs, 0⟩] scope pos) spos) (LS bs X.K (evAsg (newOf (evLc (own.map (·.2)) t fI fifs fa)) (stN i))) :=
  ⟨(ps_setLc hc hN hy hyl hsw hi ok hg ht he hs).imp fun _ _ _ h => liftLc ho (LE_frozen (liftAsgN h)), (ps_setLc hc hN hy hyl hsw hi ok hg ht he hs).imp fun _ _ _ h => liftLc ho (LE_newed (liftAsgN h))⟩

/-! ### stores of other forms -/
def LGa (K : Fr) (st : Val → Sl → Mem → Res Sl) : TG := fun v σ H Q => ∃ δ M F μ x δ' M', Sim K F μ M H ∧ RepS K F μ δ σ ∧ RepV K F μ x v ∧ st x δ M = .ok δ' M' ∧
  ∀ F' μ' H' σ', StepE F μ H F' μ' H' → Sim K F' μ' M' H' → RepS K F' μ' δ' σ' → Q σ' H'
def LGas (K : Fr) (st : List D → Sl → Mem → Res Sl) : TGs := fun vs σ H Q => ∃ δ M F μ xs δ' M', Sim K F μ M H ∧ RepS K F μ δ σ ∧ Reps K F xs vs ∧ st xs δ M = .ok δ' M' ∧
  ∀ F' μ' H' σ', StepE F μ H F' μ' H' → Sim K F' μ' M' H' → RepS K F' μ' δ' σ' → Q σ' H'
theorem q_an {i : Nat} (hN : X.N.Nodup) (hi : X.N[i]? = some y) (hx : Loc X.env.scope y) (hf : X.fn y = true ∨ X.env.scope.names.lookup y = some .local) : PG X (.Name y pos) (LGa X.K (stN i)) := by
  refine (pg_name hN hi hx hf).imp fun v σ H Q ⟨δ, M, F, μ, x, δ', M', S, R, r, e0, k⟩ => ?_
  unfold stN at e0
  split at e0
  · cases e0; exact k F μ H _ (Step.refl _ _ _ _) S (R.put r)
  · cases e0
/-- o[i] = v by values -/
def rSetD (K : Fr) : TSet := fun o i v H Q => ∃ F a ds ws k x es, o = .ref a ∧ H a = some (.lst ws) ∧ F a = none ∧ Sub F H ∧ ds.length ≤ big ∧ Reps K F ds ws ∧ RepT K F H k i ∧ Rep K F x v ∧ setD (.lst ds) k x = some (.lst es) ∧
  ∀ us, Reps K F es us → es.length ≤ big → Q (upd H a (.lst us))
def stSub (x : Nat) (fa : Sl → Mem → Res Val) : Val → Sl → Mem → Res Sl := fun v s M => match v with
  | .d y => (match s[x]? with
    | some (some (.ref n)) => (fa s M).bind fun w M1 => match M1[n]?, view M1 w with
      | some o, some k => match setD o k y with
        | some o' => .ok s (M1.set n o')
        | none => .bad
      | _, _ => .bad
    | _ => .bad)
  | _ => .bad
theorem setD_lst {o o' : MO} {k x : D} (h : setD o k x = some o') : ∃ es, o' = .lst es := by
  unfold setD at h
  split at h
  · split at h
    · cases h; exact ⟨_, rfl⟩
    · split at h
      · cases h; exact ⟨_, rfl⟩
      · cases h
  · cases h
theorem assign_sub (o : Expr) {i : Expr} (h : isSlice i = false) (p : Pos) (env : Env) (v : Value) : assign (.Subscript o i p) env v = (do
      let ov ← holding [v] (eval o env)
      let iv ← holding [v, ov] (eval i env)
      standAt p
      holding [v, ov, iv] (setItem ov iv v)
      release [v, ov, iv] []) := by
  rw [arm_assign_Subscript]
  cases i <;> first | rfl | (simp [isSlice] at h)
theorem q_asub {i : Nat} {x : Str} {px : Pos} (hs : PSet X (rSetD X.K)) (hN : X.N[i]? = some x) (hv : Vis X.env.scope x) (hd : (x == ("__debug__" : Str)) = false) (hcd : (x == ("__classdict__" : Str)) = false) (ha : PE X a (LE false X.K fa)) (hsl : isSlice a = false) : PG X (.Subscript (.Name x px) a pos) (LGa X.K (stSub i fa)) := by
  refine (pg_sub (pe_var hN hv hd hcd) ha hs (assign_sub _ hsl _ _)).imp fun v σ H Q ⟨δ, M, F, μ, z, δ', M', S, R, r, e0, k⟩ => ?_
  unfold stSub at e0
  cases z with
  | ref n => cases e0
  | d y =>
    simp only at e0
    cases h1 : δ[i]? with
    | none => simp only [h1] at e0; cases e0
    | some o =>
      cases o with
      | none => simp only [h1] at e0; cases e0
      | some w =>
        cases w with
        | d y => simp only [h1] at e0; cases e0
        | ref n =>
          simp only [h1] at e0
          obtain ⟨vv, ev, rr⟩ := R.at_ i _ h1
          obtain ⟨p, ha1, rfl⟩ := rr
          obtain ⟨w, M1, e1, e0⟩ := bind_ok e0
          cases hM : M1[n]? with
          | none => simp only [hM] at e0; cases e0
          | some o =>
            cases hx : view M1 w with
            | none => simp only [hM, hx] at e0; cases e0
            | some kx =>
              simp only [hM, hx] at e0
              cases hst : setD o kx y with
              | none => simp only [hst] at e0; cases e0
              | some o' =>
                simp only [hst] at e0
                cases e0
                refine ⟨_, ev, δ, M, F, μ, w, M1, S, R, e1, fun F1 μ1 H1 w1 st1 S1 r1 => ?_⟩
                have ha2 : μ1[n]? = some p := by
                  have hn : n < μ.length := (List.getElem?_eq_some_iff.mp ha1).1
                  rw [st1.get hn]; exact ha1
                have q1 := S1.obj n o p hM ha2
                cases o with
                | dct t l => simp [setD] at hst
                | lst ds =>
                  cases hH : H1 p with
                  | none => rw [hH] at q1; exact q1.elim
                  | some u =>
                    rw [hH] at q1
                    cases u with
                    | lst ws =>
                      obtain ⟨es, rfl⟩ := setD_lst hst
                      refine ⟨F1, p, ds, ws, kx, y, es, rfl, hH, S1.out p (List.mem_of_getElem? ha2), S1.sub, q1.1, q1.2, S1.view r1 hx, Rep.mono st1.fr r, hst, fun us ru hl' => ?_⟩
                      exact k F1 μ1 _ σ (st1.transE (S1.putStep ha2 _)) (S1.put ha2 hl' ru) (R.mono st1.fr st1.whole)
                    | _ => exact q1.elim
def stNil : List D → Sl → Mem → Res Sl := fun xs s M => match xs with | [] => .ok s M | _ => .bad
def stCons (st : Val → Sl → Mem → Res Sl) (sts : List D → Sl → Mem → Res Sl) : List D → Sl → Mem → Res Sl := fun xs s M => match xs with
  | x :: xs => (st (.d x) s M).bind fun s1 M1 => sts xs s1 M1
  | [] => .bad
theorem q_anil : PGs X [] (LGas X.K stNil) := by
  refine pgs_nil.imp fun vs σ H Q ⟨δ, M, F, μ, xs, δ', M', S, R, r, e0, k⟩ => ?_
  cases r with
  | nil => cases e0; exact ⟨rfl, k F μ H σ (Step.refl _ _ _ _) S R⟩
  | cons _ _ => cases e0
theorem q_acons {st : Val → Sl → Mem → Res Sl} {sts : List D → Sl → Mem → Res Sl} (h1 : PG X e (LGa X.K st)) (h2 : PGs X es (LGas X.K sts)) (hp : plainArg e = true) : PGs X (e :: es) (LGas X.K (stCons st sts)) := by
  refine (pgs_cons h1 h2 (by rw [asg_plain hp]; rfl)).imp fun vs σ H Q ⟨δ, M, F, μ, xs, δ', M', S, R, r, e0, k⟩ => ?_
  cases r with
  | nil => cases e0
  | @cons y v ys ws r rs =>
    obtain ⟨s1, M1, e1, e0⟩ := bind_ok e0
    exact ⟨v, ws, rfl, δ, M, F, μ, .d y, s1, M1, S, R, r, e1, fun F1 μ1 H1 σ1 st1 S1 R1 => ⟨s1, M1, F1, μ1, ys, δ', M', S1, R1, rs.mono st1.fr, e0, fun F2 μ2 H2 σ2 st2 S2 R2 => k F2 μ2 H2 σ2 (st1.transE st2) S2 R2⟩⟩
def stTup (n : Nat) (sts : List D → Sl → Mem → Res Sl) : Val → Sl → Mem → Res Sl := fun v s M => match v with
  | .d (.tup xs) => if xs.length = n then sts xs s M else .bad
  | _ => .bad
theorem q_atup {sts : List D → Sl → Mem → Res Sl} {kk : Nat} (hc : X.calm = true) (h : PGs X es (LGas X.K sts)) (hp : es.all plainArg = true) : PG X (.Tuple es kk pos) (LGa X.K (stTup es.length sts)) := by
  refine (pg_tup hc h (asg_len hp) (asg_star hp)).imp fun v σ H Q ⟨δ, M, F, μ, x, δ', M', S, R, r, e0, k⟩ => ?_
  unfold stTup at e0
  cases x with
  | ref n => cases e0
  | d x =>
    have r' : Rep X.K F x v := r
    cases r' with
    | @tup p vs ds hz hs rs =>
      simp only at e0
      split at e0
      · rename_i hl
        exact ⟨p, vs, rfl, S.sub.sqT (SqT.of hs), by rw [← rs.length, hl], δ, M, F, μ, ds, δ', M', S, R, rs, e0, k⟩
      · cases e0
    | _ => cases e0
theorem q_asg {st : Val → Sl → Mem → Res Sl} (he : PE X e (LE false X.K fa)) (hg : PG X tg (LGa X.K st)) (hs : swapsWithSole [tg] e pos.line X.env = pure false) (hw : swappedStores [tg] e X.env = pure none) (hp : plainArg tg = true) :
    PS X (.Assign [tg] e pos) (LS bs X.K (evAsg fa st)) := by
  refine (ps_asg he hg hs hw (by rw [asg_plain hp]; rfl)).imp fun D σ H ⟨δ, M, F, μ, x, M', hb, S, R, e0, k⟩ => ?_
  obtain ⟨v, M1, e1, e0⟩ := bind_ok e0
  obtain ⟨s1, M2', e2, e0⟩ := bind_ok e0
  cases e0
  refine ⟨δ, M, F, μ, v, M1, S, R, e1, fun F1 μ1 H1 w st1 S1 r => ⟨δ, M1, F1, μ1, v, s1, _, S1, R.mono st1.fr st1.whole, r, e2, fun F2 μ2 H2 σ2 st2 S2 R2 => ?_⟩⟩
  exact k F2 μ2 H2 σ2 (Nat.le_trans hb (st1.transE st2).leE) (Step.mono (st1.transE st2) hb) S2 R2

/-! ### several names at once -/
def evPar (is : List Nat) (fl : Sl → Mem → Res (List Val)) : Sl → Mem → Res Flow := fun s M => (fl s M).bind fun vs M1 => match setMany is vs s with
  | some s1 => .ok (.nx s1) M1
  | none => .bad
theorem setMany_len : ∀ {is : List Nat} {vs : List Val} {s s' : Sl}, setMany is vs s = some s' → is.length = vs.length
  | [], [], _, _, _ => rfl
  | [], _ :: _, _, _, h => by cases h
  | _ :: _, [], _, _, h => by cases h
  | i :: is, v :: vs, s, s', h => by
    unfold setMany at h
    split at h
    · rw [List.length_cons, List.length_cons, setMany_len h]
    · cases h
def setV : List Nat → List V → L2.St → L2.St
  | i :: is, v :: vs, σ => setV is vs (σ.set i (some v))
  | _, _, σ => σ
theorem setMany_rep {K : Fr} {F : Hp} {μ : List Addr} : ∀ {is : List Nat} {xs : List Val} {vs : List V} {δ δ' : Sl} {σ : L2.St}, RepS K F μ δ σ → RepVs K F μ xs vs → setMany is xs δ = some δ' → RepS K F μ δ' (setV is vs σ)
  | [], [], _, _, _, _, R, .nil, h => by cases h; exact R
  | [], _ :: _, _, _, _, _, _, .cons _ _, h => by cases h
  | _ :: _, [], _, _, _, _, _, .nil, h => by cases h
  | i :: is, x :: xs, _, _, _, _, R, .cons r rs, h => by
    unfold setMany at h
    split at h
    · exact setMany_rep (is := is) (xs := xs) (R.put r) rs h
    · cases h
theorem q_par2 {i j : Nat} {x y : Str} {px py pt : Pos} {kt k2 pt2} (hc : X.calm = true) (hN : X.N.Nodup) (hi : X.N[i]? = some x) (hj : X.N[j]? = some y) (hij : i ≠ j)
    (hx : X.env.scope.names.lookup x = some .local) (hy : X.env.scope.names.lookup y = some .local) (ha : PA X [a, b] (LA X.K fl))
    (hw : swappedStores [.Tuple [.Name x px, .Name y py] kt pt] (.Tuple [a, b] k2 pt2) X.env = pure (some [x, y])) : PS X (.Assign [.Tuple [.Name x px, .Name y py] kt pt] (.Tuple [a, b] k2 pt2) pos) (LS bs X.K (evPar [i, j] fl)) := by
  refine (ps_par hc hN hi hj hij hx hy ha hw).imp fun D σ H ⟨δ, M, F, μ, x, M', hb, S, R, e0, k⟩ => ?_
  obtain ⟨vs, M1, e1, e0⟩ := bind_ok e0
  cases hs : setMany [i, j] vs δ with
  | none => simp only [hs] at e0; cases e0
  | some s1 =>
    simp only [hs] at e0
    cases e0
    refine ⟨δ, M, F, μ, vs, _, S, R, e1, fun F1 μ1 H1 ws st S1 r => ?_⟩
    have hl := setMany_len hs
    have rr := setMany_rep (R.mono st.fr st.whole) r hs
    cases r with
    | nil => cases hl
    | cons r1 r => cases r with
      | nil => cases hl
      | cons r2 r => cases r with
        | cons _ _ => cases hl
        | nil => exact ⟨_, _, rfl, k F1 μ1 H1 _ (Nat.le_trans hb st.leE) (Step.mono st hb) S1 rr⟩
theorem q_par3 {i j l : Nat} {x y z : Str} {px py pz pt : Pos} {kt k2 pt2} (hc : X.calm = true) (hN : X.N.Nodup) (hi : X.N[i]? = some x) (hj : X.N[j]? = some y) (hl : X.N[l]? = some z) (hij : i ≠ j) (hil : i ≠ l) (hjl : j ≠ l)
    (hx : X.env.scope.names.lookup x = some .local) (hy : X.env.scope.names.lookup y = some .local) (hz : X.env.scope.names.lookup z = some .local) (ha : PA X [a, b, c] (LA X.K fl))
    (hw : swappedStores [.Tuple [.Name x px, .Name y py, .Name z pz] kt pt] (.Tuple [a, b, c] k2 pt2) X.env = pure (some [x, y, z])) : PS X (.Assign [.Tuple [.Name x px, .Name y py, .Name z pz] kt pt] (.Tuple [a, b, c] k2 pt2) pos) (LS bs X.K (evPar [i, j, l] fl)) := by
  refine (ps_par3 hc hN hi hj hl hij hil hjl hx hy hz ha hw).imp fun D σ H ⟨δ, M, F, μ, x, M', hb, S, R, e0, k⟩ => ?_
  obtain ⟨vs, M1, e1, e0⟩ := bind_ok e0
  cases hs : setMany [i, j, l] vs δ with
  | none => simp only [hs] at e0; cases e0
  | some s1 =>
    simp only [hs] at e0
    cases e0
    refine ⟨δ, M, F, μ, vs, _, S, R, e1, fun F1 μ1 H1 ws st S1 r => ?_⟩
    have hl := setMany_len hs
    have rr := setMany_rep (R.mono st.fr st.whole) r hs
    cases r with
    | nil => cases hl
    | cons r1 r => cases r with
      | nil => cases hl
      | cons r2 r => cases r with
        | nil => cases hl
        | cons r3 r => cases r with
          | cons _ _ => cases hl
          | nil => exact ⟨_, _, _, rfl, k F1 μ1 H1 _ (Nat.le_trans hb st.leE) (Step.mono st hb) S1 rr⟩
/-- names taken one by one -/
def gNs (is : List Nat) : TGs := fun vs σ H Q => vs.length = is.length ∧ Q (setV is vs σ) H
theorem q_names0 : PGs X [] (gNs []) := pgs_nil.imp fun vs σ H Q ⟨h, q⟩ => by
  cases vs with
  | nil => exact ⟨rfl, q⟩
  | cons _ _ => cases h
theorem q_names {i : Nat} {is : List Nat} {p : Pos} (hN : X.N.Nodup) (hi : X.N[i]? = some y) (hx : Loc X.env.scope y) (hf : X.fn y = true ∨ X.env.scope.names.lookup y = some .local) (h : PGs X es (gNs is)) : PGs X (.Name y p :: es) (gNs (i :: is)) :=
  (pgs_cons (pg_name hN hi hx hf) h rfl).imp fun vs σ H Q ⟨hl, q⟩ => by
    cases vs with
    | nil => cases hl
    | cons v vs => exact ⟨v, vs, rfl, by simpa using hl, q⟩
/-- through a tuple that is made and taken apart -/
theorem q_parT {is : List Nat} {ns vs : List Expr} {kt k2 : Nat} {pt pt2 : Pos} (hc : X.calm = true) (ha : PA X vs (LA X.K fl)) (hg : PGs X ns (gNs is)) (hp : ns.all plainArg = true) (hl : ns.length = is.length) (hbig : ns.length ≤ 100)
    (hw : swappedStores [.Tuple ns kt pt] (.Tuple vs k2 pt2) X.env = pure none) : PS X (.Assign [.Tuple ns kt pt] (.Tuple vs k2 pt2) pos) (LS bs X.K (evPar is fl)) := by
  refine (ps_asg (pe_tup ha) (pg_tup hc hg (asg_len hp) (asg_star hp)) rfl hw rfl).imp fun D σ H ⟨δ, M, F, μ, x, M', hb, S, R, e0, k⟩ => ?_
  obtain ⟨ws, M1, e1, e0⟩ := bind_ok e0
  cases hs : setMany is ws δ with
  | none => simp only [hs] at e0; cases e0
  | some s1 =>
    simp only [hs] at e0
    cases e0
    refine ⟨δ, M, F, μ, ws, _, S, R, e1, fun F1 μ1 H1 us st S1 r => ?_⟩
    have hl2 := setMany_len hs
    have hl3 := r.length
    have rr := setMany_rep (R.mono st.fr st.whole) r hs
    refine ⟨by rw [sizeLine_eq]; omega, fun p hpn => ?_⟩
    refine ⟨p, us, rfl, SqT.of upd_same, by omega, by omega, ?_⟩
    have n1 : F1 p = none := by
      cases q : F1 p with
      | none => rfl
      | some u => rw [S1.sub p u q] at hpn; cases hpn
    have n2 : p ∉ μ1 := fun z => S1.tracked z hpn
    exact k F1 μ1 _ _ (Nat.le_trans hb st.leE) (Step.mono (st.transE ((Step.refl _ _ _ _).updNew hpn _)) hb) (S1.updNew n1 n2 _) rr

/-! ### small statements -/
theorem q_ex (he : PE X e (LE false X.K fa)) (hs : swapsWith e none pos.line X.env = pure false) : PS X (.Expr e pos) (LS bs X.K fun s M => (fa s M).bind fun _ M1 => .ok (.nx s) M1) := by
  refine (ps_expr he hs).imp fun D σ H ⟨δ, M, F, μ, x, M', hb, S, R, e0, k⟩ => ?_
  obtain ⟨v, M1, e1, e0⟩ := bind_ok e0
  cases e0
  exact ⟨δ, M, F, μ, v, _, S, R, e1, fun F1 μ1 H1 w st S1 r => k F1 μ1 H1 σ (Nat.le_trans hb st.leE) (Step.mono st hb) S1 (R.mono st.fr st.whole)⟩
theorem q_ret (he : PE X e (LE false X.K fa)) : PS X (.Return (some e) pos) (LS bs X.K fun s M => (fa s M).bind fun v M1 => .ok (.ret v) M1) := by
  refine (ps_ret he).imp fun D σ H ⟨δ, M, F, μ, x, M', hb, S, R, e0, k⟩ => ?_
  obtain ⟨v, M1, e1, e0⟩ := bind_ok e0
  cases e0
  exact ⟨δ, M, F, μ, v, _, S, R, e1, fun F1 μ1 H1 w st S1 r => k F1 μ1 H1 w (Nat.le_trans hb st.leE) (Step.mono st hb) S1 r⟩
theorem q_retN : PS X (.Return none pos) (LS bs X.K fun _ M => .ok (.ret (.d .non)) M) := by
  refine ps_retN.imp fun D σ H ⟨δ, M, F, μ, x, M', hb, S, R, e0, k⟩ => ?_
  cases e0
  exact k F μ H .non hb (Step.refl _ _ _ _) S .non
theorem q_pass : PS X (.Pass pos) (LS bs X.K fun s M => .ok (.nx s) M) := by
  refine ps_pass.imp fun D σ H ⟨δ, M, F, μ, x, M', hb, S, R, e0, k⟩ => ?_
  cases e0
  exact k F μ H σ hb (Step.refl _ _ _ _) S R
theorem q_brk : PS X (.Break pos) (LS bs X.K fun s M => .ok (.brk s) M) := by
  refine ps_break.imp fun D σ H ⟨δ, M, F, μ, x, M', hb, S, R, e0, k⟩ => ?_
  cases e0
  exact k F μ H σ hb (Step.refl _ _ _ _) S R
theorem q_cont : PS X (.Continue pos) (LS bs X.K fun s M => .ok (.cont s) M) := by
  refine ps_continue.imp fun D σ H ⟨δ, M, F, μ, x, M', hb, S, R, e0, k⟩ => ?_
  cases e0
  exact k F μ H σ hb (Step.refl _ _ _ _) S R
theorem q_never {st : Stmt} : PS X st (LS bs X.K fun _ _ => .bad) := ps_never.imp fun D σ H ⟨δ, M, F, μ, x, M', hb, S, R, e0, k⟩ => by cases e0
/-- one result after another: from the state behind a step -/
theorem LS.after {bs : Nat} {K : Fr} {f : Sl → Mem → Res Flow} {D : Ends} {F F1 : Hp} {μ μ1 : List Addr} {H H1 : Hp} {σ1 : L2.St} {δ1 : Sl} {M1 M' : Mem} {x : Flow} (st : Step bs F μ H F1 μ1 H1) (hb : bs ≤ μ1.length) (S : Sim K F1 μ1 M1 H1) (R : RepS K F1 μ1 δ1 σ1) (e : f δ1 M1 = .ok x M')
    (k : LSk bs K D F μ H M' x) : LS bs K f D σ1 H1 := ⟨δ1, M1, F1, μ1, x, M', hb, S, R, e, k.back st⟩
def evIte (fT : Sl → Mem → Res Bool) (f g : Sl → Mem → Res Flow) : Sl → Mem → Res Flow := fun s M => (fT s M).bind fun t M1 => if t then f s M1 else g s M1
theorem q_ite {fT : Sl → Mem → Res Bool} {f g : Sl → Mem → Res Flow} {s1 s2 : List Stmt} (hc : PT X c (LT X.K fT)) (h1 : PSs X s1 (LS bs X.K f)) (h2 : PSs X s2 (LS bs X.K g)) : PS X (.If c s1 s2 pos) (LS bs X.K (evIte fT f g)) := by
  refine (ps_if hc h1 h2).imp fun D σ H ⟨δ, M, F, μ, x, M', hb, S, R, e0, k⟩ => ?_
  obtain ⟨t, M1, e1, e0⟩ := bind_ok e0
  refine ⟨δ, M, F, μ, t, M1, S, R, e1, fun F1 μ1 H1 st S1 => ?_⟩
  cases t with
  | true => rw [if_pos rfl] at e0 ⊢; exact LS.after (Step.mono st hb) (Nat.le_trans hb st.leE) S1 (R.mono st.fr st.whole) e0 k
  | false => rw [if_neg Bool.false_ne_true] at e0 ⊢; exact LS.after (Step.mono st hb) (Nat.le_trans hb st.leE) S1 (R.mono st.fr st.whole) e0 k
def evSeq (f g : Sl → Mem → Res Flow) : Sl → Mem → Res Flow := fun s M => (f s M).bind fun x M1 => match x with
  | .nx s1 => g s1 M1
  | .ret v => .ok (.ret v) M1
  | .brk s1 => .ok (.brk s1) M1
  | .cont s1 => .ok (.cont s1) M1
theorem q_snil : PSs X [] (LS bs X.K fun s M => .ok (.nx s) M) := by
  refine pss_nil.imp fun D σ H ⟨δ, M, F, μ, x, M', hb, S, R, e0, k⟩ => ?_
  cases e0
  exact k F μ H σ hb (Step.refl _ _ _ _) S R
theorem q_scons {st : Stmt} {r : List Stmt} {f g : Sl → Mem → Res Flow} (h1 : PS X st (LS bs X.K f)) (h2 : PSs X r (LS bs X.K g)) : PSs X (st :: r) (LS bs X.K (evSeq f g)) := by
  refine (pss_cons h1 h2).imp fun D σ H ⟨δ, M, F, μ, x, M', hb, S, R, e0, k⟩ => ?_
  obtain ⟨y, M1, e1, e0⟩ := bind_ok e0
  refine ⟨δ, M, F, μ, y, M1, hb, S, R, e1, ?_⟩
  cases y with
  | nx s1 => exact fun F1 μ1 H1 σ1 hb1 st S1 R1 => LS.after st hb1 S1 R1 e0 k
  | ret v => cases e0; exact k
  | brk s1 => cases e0; exact k
  | cont s1 => cases e0; exact k

/-! ### loops -/
def evFor (t : Tg) (fI : Sl → Mem → Res (List D)) (fb : Sl → Mem → Res Flow) : Sl → Mem → Res Flow := fun s M => (fI s M).bind fun xs M1 => forLoop fb t xs s M1
theorem q_for {body : List Stmt} {o : List Nat} {t : Tg} {fI : Sl → Mem → Res (List D)} {f : Sl → Mem → Res Flow} (hx : X.xe = fun _ _ => False) (hc : X.calm = true) (hi : PI X tg iter (LI X.K fI)) (hg : PG X tg (LG X.K t o)) (hb : PSs X body (LS bs X.K f)) (hs : ∀ x, foldedSetIterable iter X.env x = pure x) :
    PS X (.For tg iter body [] pos) (LS bs X.K (evFor t fI f)) := by
  refine (ps_for (by rw [hx]; exact PassesOwn.never) hc hi hg hb hs).imp fun D σ H ⟨δ, M, F, μ, x, M', hbs, S, R, e0, k⟩ => ?_
  obtain ⟨xs, M1, e1, e0⟩ := bind_ok e0
  refine ⟨δ, M, F, μ, xs, M1, S, R, e1, fun F1 μ1 H1 J st1 S1 its => ?_⟩
  have k1 : LSk bs X.K D F1 μ1 H1 M' x := k.back (Step.mono st1 hbs)
  have wk : Walk J xs.length (fun H => Sub F1 H) (fun i H x H' => Sub F1 H ∧ J.yld i H x H') := ⟨fun i H hi g => its.goes i H hi g, its.stops, fun i H x H' hi g y => ⟨g, y⟩⟩
  refine for_it wk (fun i σi Hi => ∃ δi Fi μi Mi, bs ≤ μi.length ∧ Step bs F1 μ1 H1 Fi μi Hi ∧ Sim X.K Fi μi Mi Hi ∧ RepS X.K Fi μi δi σi ∧ forLoop f t (xs.drop i) δi Mi = .ok x M') ?_ ?_ ?_ ?_
  · exact ⟨δ, F1, μ1, M1, Nat.le_trans hbs st1.leE, Step.refl _ _ _ _, S1, R.mono st1.fr st1.whole, e0⟩
  · rintro i σi Hi _ ⟨δi, Fi, μi, Mi, _, st, Si, _⟩
    exact st.fr.trans Si.sub
  · rintro i v σi Hi H2 hi ⟨δi, Fi, μi, Mi, hbi, st, Si, Ri, run⟩ ⟨_, hy⟩
    have hx : xs[i]? = some xs[i] := List.getElem?_eq_getElem hi
    rw [List.drop_eq_getElem_cons hi] at run
    unfold forLoop at run
    obtain ⟨F2, nf, rx⟩ := its.yields i Hi v H2 xs[i] Fi hx st.fr Si.sub hy
    have st2 : StepE Fi μi Hi F2 μi H2 := nf.step
    have S2 := nf.sim Si
    cases hbt : bindTg t xs[i] δi with
    | none => simp only [hbt] at run; cases run
    | some δ2 =>
      simp only [hbt] at run
      obtain ⟨fl, M3, e3, run⟩ := bind_ok run
      refine ⟨δi, F2, μi, xs[i], δ2, Ri.mono st2.fr st2.whole, rx, S2.sub, hbt, fun σ2 R2 _ _ => ?_⟩
      have stt : Step bs F1 μ1 H1 F2 μi H2 := st.trans (Step.mono st2 hbi)
      refine LS.after (F := F1) (μ := μ1) (H := H1) stt hbi S2 R2 e3 ?_
      cases fl with
      | nx δ' => exact fun F' μ' H' σ' h1 h2 S' R' => ⟨δ', F', μ', M3, h1, h2, S', R', run⟩
      | cont δ' => exact fun F' μ' H' σ' h1 h2 S' R' => ⟨δ', F', μ', M3, h1, h2, S', R', run⟩
      | brk δ' => cases run; exact k1
      | ret w => cases run; exact k1
  · rintro σn Hn ⟨δn, Fn, μn, Mn, hbn, st, Sn, Rn, run⟩
    rw [List.drop_length] at run
    cases run
    exact k1 Fn μn Hn σn hbn st Sn Rn
theorem q_while {body : List Stmt} {fT : Sl → Mem → Res Bool} {f : Sl → Mem → Res Flow} (hx : X.xe = fun _ _ => False) (hc : PT X c (LT X.K fT)) (hb : PSs X body (LS bs X.K f)) : PS X (.While c body [] pos) (LS bs X.K fun s M => whileLoop fT f turns s M) := by
  refine (ps_while (by rw [hx]; exact PassesOwn.never) hc hb).imp fun D σ H ⟨δ, M, F, μ, x, M', hbs, S, R, e0, k⟩ => ?_
  refine ⟨fun n σi Hi => ∃ δi Fi μi Mi, bs ≤ μi.length ∧ Step bs F μ H Fi μi Hi ∧ Sim X.K Fi μi Mi Hi ∧ RepS X.K Fi μi δi σi ∧ whileLoop fT f n δi Mi = .ok x M', ⟨turns, δ, F, μ, M, hbs, Step.refl _ _ _ _, S, R, e0⟩, ?_⟩
  rintro n σi Hi ⟨δi, Fi, μi, Mi, hbi, st, Si, Ri, run⟩
  cases n with
  | zero => cases run
  | succ n =>
    unfold whileLoop at run
    obtain ⟨t, M1, e1, run⟩ := bind_ok run
    refine ⟨δi, Mi, Fi, μi, t, M1, Si, Ri, e1, fun F1 μ1 H1 st1 S1 => ?_⟩
    have hb1 := Nat.le_trans hbi st1.leE
    have stt : Step bs F μ H F1 μ1 H1 := st.trans (Step.mono st1 hbi)
    cases t with
    | false =>
      rw [if_neg Bool.false_ne_true] at run
      refine iteF ?_
      cases run
      exact k F1 μ1 H1 σi hb1 stt S1 (Ri.mono st1.fr st1.whole)
    | true =>
      rw [if_pos rfl] at run
      refine iteT ?_
      obtain ⟨fl, M3, e3, run⟩ := bind_ok run
      refine ⟨fun σ' H' => ∃ δ' F' μ' M', bs ≤ μ'.length ∧ Step bs F μ H F' μ' H' ∧ Sim X.K F' μ' M' H' ∧ RepS X.K F' μ' δ' σ' ∧ whileLoop fT f n δ' M' = .ok x _, fun σ' H' h => ⟨n, Nat.lt_succ_self n, h⟩, ?_⟩
      refine LS.after (F := F) (μ := μ) (H := H) stt hb1 S1 (Ri.mono st1.fr st1.whole) e3 ?_
      cases fl with
      | nx δ' => exact fun F' μ' H' σ' h1 h2 S' R' => ⟨δ', F', μ', M3, h1, h2, S', R', run⟩
      | cont δ' => exact fun F' μ' H' σ' h1 h2 S' R' => ⟨δ', F', μ', M3, h1, h2, S', R', run⟩
      | brk δ' => cases run; exact k
      | ret w => cases run; exact k
end
end DL
end P_DL5
section P_DL6
set_option Elab.async false
set_option linter.all false
set_option maxRecDepth 100000
set_option maxHeartbeats 1000000
/-! A list of the store becomes plain data; a def by its body. -/
namespace DL
open PySem PySem.Spec PyProof.Rows L2
section
variable {X : Cx} {bs : Nat} {y : Str} {pos : Pos}
/-- the slot holds no reference to n -/
def notRef (n : Nat) : Option Val → Bool := fun v => match v with | some (.ref k) => k != n | _ => true
/-- slot j is given what stands at slot i, the last of the store, which no other slot holds -/
def evMv (bs j i : Nat) : Sl → Mem → Res Flow := fun s M => match s[i]? with
  | some (some (.ref n)) => if n + 1 = M.length ∧ bs ≤ n ∧ j < s.length ∧ (s.set i none).all (notRef n) then
      (match M[n]? with
        | some o => .ok (.nx ((s.set i none).set j (some (.d o.toD)))) (M.take n)
        | none => .bad)
    else .bad
  | _ => .bad
theorem take_ne {μ : List Addr} {n : Nat} {a b : Addr} (nd : μ.Nodup) (h : μ[n]? = some a) (hb : b ∈ μ.take n) : b ≠ a := by
  intro e
  subst e
  obtain ⟨i, hi, e⟩ := List.getElem_of_mem hb
  rw [List.length_take] at hi
  rw [List.getElem_take] at e
  obtain ⟨p, q⟩ := List.getElem?_eq_some_iff.mp h
  have := (List.getElem_inj nd).mp (e.trans q.symm)
  omega
theorem Sim.freeze {K : Fr} {F : Hp} {μ : List Addr} {M : Mem} {H : Hp} (S : Sim K F μ M H) {n : Nat} {a : Addr} {ds : List D} (ha : μ[n]? = some a) (hM : M[n]? = some (.lst ds)) (hn : n + 1 = M.length) :
    ∃ F', Sub F F' ∧ Sim K F' (μ.take n) (M.take n) H ∧ Rep K F' (.lst ds) (.ref a) ∧ (∀ b o, F' b = some o → F b = some o ∨ b = a) := by
  have q := S.obj n _ a hM ha
  cases hH : H a with
  | none => rw [hH] at q; exact q.elim
  | some u =>
    rw [hH] at q
    cases u with
    | lst vs =>
      have Fa := S.out a (List.mem_of_getElem? ha)
      have sb : Sub F (upd F a (.lst vs)) := fun b o h => by
        have e : b ≠ a := fun e => by subst e; rw [Fa] at h; cases h
        rw [upd_ne e]; exact h
      refine ⟨upd F a (.lst vs), sb, ⟨fun b o h => ?_, fun b hb => ?_, S.nd.sublist (List.take_sublist _ _), ?_, fun i o b h1 h2 => ?_⟩, Rep.lst q.1 upd_same (Reps.mono sb q.2), fun b o h => ?_⟩
      · by_cases e : b = a
        · subst e; rw [upd_same] at h; cases h; exact hH
        · rw [upd_ne e] at h; exact S.sub b o h
      · rw [upd_ne (take_ne S.nd ha hb)]; exact S.out b (List.mem_of_mem_take hb)
      · rw [List.length_take, List.length_take, S.len]
      · rw [List.getElem?_take] at h1 h2
        split at h1
        · rename_i hi
          rw [if_pos hi] at h2
          exact (S.obj i o b h1 h2).mono sb
        · cases h1
      · by_cases e : b = a
        · exact .inr e
        · rw [upd_ne e] at h; exact .inl h
    | _ => exact q.elim
/-- a dict of the store is locked and stands still from then on -/
theorem Sim.freezeK {K : Fr} {F : Hp} {μ : List Addr} {M : Mem} {H : Hp} (S : Sim K F μ M H) {n b : Nat} {a : Addr} {t : Bool} {l : List (List K1 × D)} (ha : μ[n]? = some a) (hM : M[n]? = some (.dct t l)) (hb : b ≤ n) :
    ∃ u, H a = some u ∧ Mut (some u) ∧ ∀ od, ∃ F', Sub F F' ∧ Sim K F' (μ.take b) (M.take b) (upd H a (.frz od u)) ∧ Rep K F' (.dct t l) (.ref a) ∧ (∀ c o, F' c = some o → F c = some o ∨ c = a) := by
  have q := S.obj n _ a hM ha
  cases hH : H a with
  | none => rw [hH] at q; exact q.elim
  | some u =>
    rw [hH] at q
    obtain ⟨vs, rfl, z, kk, r⟩ := q
    refine ⟨_, rfl, mut_hoD _ _, fun od => ?_⟩
    have Fa := S.out a (List.mem_of_getElem? ha)
    have sb : Sub F (upd F a (.frz od (hoD t (zipK l vs)))) := fun c o h => by
      have e : c ≠ a := fun e => by subst e; rw [Fa] at h; cases h
      rw [upd_ne e]; exact h
    refine ⟨_, sb, ⟨fun c o h => ?_, fun c hc => ?_, S.nd.sublist (List.take_sublist _ _), ?_, fun i o c h1 h2 => ?_⟩, Rep.dct t z kk upd_same (Reps.mono sb r), fun c o h => ?_⟩
    · by_cases e : c = a
      · subst e; rw [upd_same] at h; cases h; exact upd_same
      · rw [upd_ne e] at h ⊢; exact S.sub c o h
    · have hc' : c ∈ μ.take n := by
        have e : μ.take b = (μ.take n).take b := by rw [List.take_take, Nat.min_eq_left hb]
        rw [e] at hc
        exact List.mem_of_mem_take hc
      rw [upd_ne (take_ne S.nd ha hc')]; exact S.out c (List.mem_of_mem_take hc)
    · rw [List.length_take, List.length_take, S.len]
    · rw [List.getElem?_take] at h1 h2
      split at h1
      · rename_i hi
        rw [if_pos hi] at h2
        have ne : c ≠ a := take_ne (n := n) S.nd ha (by
          have : (μ.take n)[i]? = some c := by rw [List.getElem?_take, if_pos (by omega)]; exact h2
          exact List.mem_of_getElem? this)
        rw [upd_ne ne]
        exact (S.obj i o c h1 h2).mono sb
      · cases h1
    · by_cases e : c = a
      · exact .inr e
      · rw [upd_ne e] at h; exact .inl h
/-- what may be locked for good ahead of a statement -/
theorem ps_lockP {st : Stmt} {t : TS} (h : PS X st t) : PS X st (fun D σ H => t D σ H ∨ ∃ d u, H d = some u ∧ Mut (some u) ∧ ∀ od, t D σ (upd H d (.frz od u))) := by
  refine ⟨fun pins s σ H D I hw => ?_⟩
  rcases hw with hw | ⟨d, u, hd, mu, hw⟩
  · exact h.run pins s σ H D I hw
  · obtain ⟨od, I1⟩ := I.lock hd mu
    exact h.run pins s σ _ D I1 (hw od)
theorem stepK {b n : Nat} {F F' : Hp} {μ : List Addr} {H : Hp} {a : Addr} {o : HO} (nd : μ.Nodup) (hb : b ≤ n) (ha : μ[n]? = some a) (sb : Sub F F') (nf : ∀ c o, F' c = some o → F c = some o ∨ c = a) {m : Nat} (hm : b ≤ m) : Step b F μ H F' (μ.take m) (upd H a o) := by
  refine ⟨sb, ?_, fun c hc => .inl (List.mem_of_mem_take hc), fun c u h hn => ?_, fun c h => ?_, fun c u h => ?_⟩
  · rw [List.take_take, Nat.min_eq_left hm]
  · rw [upd_ne (fun e => hn (by rw [e]; exact List.mem_of_getElem? ha))]; exact h
  · by_cases e : c = a
    · rw [e, upd_same] at h; cases h
    · rw [upd_ne e] at h; exact h
  · rcases nf c u h with z | z
    · exact .inl z
    · subst z
      refine .inr (.inr (.inl ⟨List.mem_of_getElem? ha, fun z => ?_⟩))
      have : c ∈ μ.take n := by
        have e : μ.take b = (μ.take n).take b := by rw [List.take_take, Nat.min_eq_left hb]
        rw [e] at z
        exact List.mem_of_mem_take z
      exact take_ne nd ha this rfl
/-- the slots behind a move -/
theorem mv_slots {K : Fr} {F F' : Hp} {μ : List Addr} {M : Mem} {H : Hp} {δ : Sl} {σ : L2.St} {n i j : Nat} {x : D} {a : Addr} (S : Sim K F μ M H) (R : RepS K F μ δ σ) (hn : n + 1 = M.length) (hj' : j < δ.length) (hal : (δ.set i none).all (notRef n) = true) (sb : Sub F F') (r' : Rep K F' x (.ref a)) :
    RepS K F' (μ.take n) ((δ.set i none).set j (some (.d x))) (σ.set j (some (.ref a))) := by
  refine ⟨by rw [List.length_set, List.length_set, List.length_set]; exact R.len, fun l z e => ?_⟩
  by_cases hl : j = l
  · subst hl
    rw [List.getElem?_set_self (by rw [List.length_set]; exact hj')] at e
    cases e
    exact ⟨.ref a, List.getElem?_set_self (by rw [← R.len]; exact hj'), r'⟩
  · rw [List.getElem?_set_ne hl] at e ⊢
    by_cases hl2 : i = l
    · subst hl2
      by_cases hlen : i < δ.length
      · rw [List.getElem?_set_self hlen] at e; cases e
      · rw [List.getElem?_eq_none (by rw [List.length_set]; omega)] at e; cases e
    · have e' := e
      rw [List.getElem?_set_ne hl2] at e
      obtain ⟨v, ev, rv⟩ := R.at_ l z e
      refine ⟨v, ev, ?_⟩
      cases z with
      | d z => exact Rep.mono sb rv
      | ref m =>
        obtain ⟨b, hb1, rfl⟩ := rv
        refine ⟨b, ?_, rfl⟩
        have hm := List.all_eq_true.mp hal _ (List.mem_of_getElem? e')
        have hm' : m ≠ n := by simpa [notRef] using hm
        have := S.alen hb1
        rw [List.getElem?_take, if_pos (by omega)]
        exact hb1
theorem q_mv {i j : Nat} {x : Str} {px py : Pos} (hN : X.N.Nodup) (hj : X.N[j]? = some y) (hy : Loc X.env.scope y) (hi : X.N[i]? = some x) (hv : Vis X.env.scope x) (hd : (x == ("__debug__" : Str)) = false) (hcd : (x == ("__classdict__" : Str)) = false)
    (hs : swapsWith (.Name x px) (some (.Name y py)) pos.line X.env = pure false) (hf : X.fn y = true ∨ X.env.scope.names.lookup y = some .local) : PS X (.Assign [.Name y py] (.Name x px) pos) (LS bs X.K (evMv bs j i)) := by
  refine (ps_lockP (ps_set hN hj hy (pe_var hi hv hd hcd) hs hf)).imp fun D σ H ⟨δ, M, F, μ, x, M', hb, S, R, e0, k⟩ => ?_
  unfold evMv at e0
  split at e0
  · rename_i n e1
    split at e0
    · rename_i hc
      obtain ⟨hn, hbn, hj', hal⟩ := hc
      split at e0
      · rename_i o hM
        cases e0
        obtain ⟨v, e2, a, ha, rfl⟩ := R.at_ i _ e1
        cases o with
        | dct t l =>
          obtain ⟨u, hu, mu, hk⟩ := S.freezeK ha hM (Nat.le_refl n)
          refine .inr ⟨a, u, hu, mu, fun od => ?_⟩
          obtain ⟨F', sb, S', r', nf⟩ := hk od
          exact ⟨_, e2, k F' (μ.take n) _ _ (by rw [List.length_take]; have := S.len; omega) (stepK S.nd hbn ha sb nf hbn) S' (mv_slots S R hn hj' hal sb r')⟩
        | lst ds =>
          obtain ⟨F', sb, S', r', nf⟩ := S.freeze ha hM hn
          refine .inl ⟨_, e2, k F' (μ.take n) H _ (by rw [List.length_take]; have := S.len; omega) ⟨sb, ?_, fun b hb => .inl (List.mem_of_mem_take hb), fun b o h _ => h, fun b h => h, fun b o h => ?_⟩ S' (mv_slots S R hn hj' hal sb r')⟩
          · rw [List.take_take, Nat.min_eq_left hbn]
          · rcases nf b o h with z | z
            · exact .inl z
            · subst z
              refine .inr (.inr (.inl ⟨List.mem_of_getElem? ha, fun z => ?_⟩))
              have : b ∈ μ.take n := by
                have e : μ.take bs = (μ.take n).take bs := by rw [List.take_take, Nat.min_eq_left hbn]
                rw [e] at z
                exact List.mem_of_mem_take z
              exact take_ne S.nd ha this rfl
      · cases e0
    · cases e0
  · cases e0
/-- a dict that the def made is handed back: from then on it stands still -/
def evRetD (bs i : Nat) : Sl → Mem → Res Flow := fun s M => match s[i]? with
  | some (some (.ref n)) => if bs ≤ n then (match M[n]? with
      | some (.dct t l) => .ok (.ret (.d (.dct t l))) (M.take bs)
      | _ => .bad) else .bad
  | _ => .bad
theorem q_retD {i : Nat} {x : Str} {px : Pos} (hi : X.N[i]? = some x) (hv : Vis X.env.scope x) (hd : (x == ("__debug__" : Str)) = false) (hcd : (x == ("__classdict__" : Str)) = false) : PS X (.Return (some (.Name x px)) pos) (LS bs X.K (evRetD bs i)) := by
  refine (ps_lockP (ps_ret (pe_var hi hv hd hcd))).imp fun D σ H ⟨δ, M, F, μ, x, M', hb, S, R, e0, k⟩ => ?_
  unfold evRetD at e0
  split at e0
  · rename_i n e1
    split at e0
    · rename_i hbn
      split at e0
      · rename_i t l hM
        cases e0
        obtain ⟨v, e2, a, ha, rfl⟩ := R.at_ i _ e1
        obtain ⟨u, hu, mu, hk⟩ := S.freezeK ha hM hbn
        refine .inr ⟨a, u, hu, mu, fun od => ?_⟩
        obtain ⟨F', sb, S', r', nf⟩ := hk od
        exact ⟨_, e2, k F' (μ.take bs) _ _ (by rw [List.length_take]; have := S.alen ha; have := S.len; omega) (stepK S.nd hbn ha sb nf (Nat.le_refl _)) S' r'⟩
      · cases e0
    · cases e0
  · cases e0

/-! ### defs -/
/-- a def of n parameters and m other names -/
def defG (fr : Bool) (n m : Nat) (f : Nat → Sl → Mem → Res Flow) : List Val → Mem → Res Val := fun vs M => if vs.length = n then
    (f M.length (vs.map some ++ List.replicate m none) M).bind fun fl M1 => handBack fr M.length fl M1
  else .bad
theorem defG_len {fr : Bool} {n m : Nat} {f : Nat → Sl → Mem → Res Flow} (xs : List Val) (M : Mem) (x : Val) (M' : Mem) (h : defG fr n m f xs M = .ok x M') : xs.length = n := by
  unfold defG at h
  split at h
  · assumption
  · cases h
theorem RepS.start {K : Fr} {F : Hp} {μ : List Addr} {xs : List Val} {vs : List V} {N : List Str} {m : Nat} (r : RepVs K F μ xs vs) (hm : N.length = xs.length + m) : RepS K F μ (xs.map some ++ List.replicate m none) (L2.start N vs) := by
  have hl := r.length
  have e : L2.start N vs = vs.map some ++ List.replicate m none := by
    unfold L2.start
    rw [show N.length - vs.length = m by omega]
  rw [e]
  refine ⟨by simp [hl], fun i x h => ?_⟩
  by_cases hi : i < xs.length
  · rw [List.getElem?_append_left (by rw [List.length_map]; exact hi), List.getElem?_map] at h
    rw [List.getElem?_append_left (by rw [List.length_map]; omega), List.getElem?_map]
    cases e : xs[i]? with
    | none => rw [e] at h; cases h
    | some z =>
      rw [e] at h
      cases h
      rcases Paired.getP r.paired i with ⟨u, w, h1, h2, h3⟩ | ⟨h1, h2⟩
      · rw [e] at h1; cases h1; exact ⟨w, by rw [h2]; rfl, h3⟩
      · rw [e] at h1; cases h1
  · rw [List.getElem?_append_right (by rw [List.length_map]; omega)] at h
    obtain ⟨h1, h2⟩ := List.getElem?_eq_some_iff.mp h
    rw [List.getElem_replicate] at h2
    cases h2
theorem RepV.take {K : Fr} {F : Hp} {μ : List Addr} {b : Nat} {x : D} {v : V} (r : RepV K F μ (.d x) v) : RepV K F (μ.take b) (.d x) v := r
theorem Sim.take {K : Fr} {F : Hp} {μ : List Addr} {M : Mem} {H : Hp} (S : Sim K F μ M H) (b : Nat) : Sim K F (μ.take b) (M.take b) H where
  sub := S.sub
  out := fun a h => S.out a (List.mem_of_mem_take h)
  nd := S.nd.sublist (List.take_sublist _ _)
  len := by rw [List.length_take, List.length_take, S.len]
  obj := fun i o a h1 h2 => by
    rw [List.getElem?_take] at h1 h2
    split at h1
    · rename_i hi
      rw [if_pos hi] at h2
      exact S.obj i o a h1 h2
    · cases h1
theorem Step.cutE {F : Hp} {μ : List Addr} {H : Hp} {F' : Hp} {μ' : List Addr} {H' : Hp} (s : StepE F μ H F' μ' H') : StepE F μ H F' (μ'.take μ.length) H' where
  fr := s.fr
  pre := by rw [List.take_take, Nat.min_self]; exact s.pre
  new := fun a h => s.new a (List.mem_of_mem_take h)
  keep := s.keep
  up := s.up
  newF := s.newF
/-- a def by the reading of its body -/
theorem def_body {fr : Bool} {n m : Nat} {f : Nat → Sl → Mem → Res Flow} {N : List Str} {K : Fr} {vs : List V} {H : Hp} {Q : VK} {E : XK} (hN : N.length = n + m) (h : spF fr K n (defG fr n m f) vs H Q E) :
    ∃ b, LS b K (f b) { nx := fun _ H' => Q .non H', rt := Q } (L2.start N vs) H := by
  obtain ⟨hl, xs, M, F, μ, x, M', S, r, e0, k⟩ := h
  unfold defG at e0
  split at e0
  · rename_i hn
    obtain ⟨fl, M1, e1, e2⟩ := bind_ok e0
    have hμ := S.len
    refine ⟨M.length, _, M, F, μ, fl, M1, by omega, S, RepS.start r (by omega), e1, ?_⟩
    have stE : ∀ {F' μ' H'}, Step M.length F μ H F' μ' H' → StepE F μ H F' (μ'.take M.length) H' := fun {F' μ' H'} st => by
      rw [← hμ] at st ⊢
      exact st.cutE
    cases fl with
    | nx s =>
      intro F' μ' H' σ' hb st S' R'
      cases fr with
      | true => cases e2
      | false => cases e2; exact k F' _ H' .non (stE st) (S'.take _) .non
    | brk s => cases e2
    | cont s => cases e2
    | ret v =>
      intro F' μ' H' u hb st S' rv
      cases v with
      | d y =>
        cases fr with
        | true => cases e2
        | false => cases e2; exact k F' _ H' u (stE st) (S'.take _) rv
      | ref l =>
        replace e2 : (if fr ∧ M.length ≤ l then (match M1[l]? with | some (.lst l) => Res.ok (Val.d (.lst l)) (M1.take M.length) | _ => .bad) else .bad) = .ok x M' := e2
        split at e2
        · rename_i hc
          obtain ⟨hfr, hbl⟩ := hc
          cases fr with
          | false => cases hfr
          | true =>
            obtain ⟨a, ha, rfl⟩ := rv
            cases hM : M1[l]? with
            | none => simp only [hM] at e2; cases e2
            | some o =>
              simp only [hM] at e2
              have q := S'.obj l o a hM ha
              cases o with
              | dct t l => cases e2
              | lst ds =>
                cases e2
                cases hH : H' a with
                | none => rw [hH] at q; exact q.elim
                | some w =>
                  rw [hH] at q
                  cases w with
                  | lst ws =>
                    have nt : a ∉ μ'.take M.length := fun z => by
                      have e : μ'.take M.length = (μ'.take l).take M.length := by rw [List.take_take, Nat.min_eq_left hbl]
                      rw [e] at z
                      exact take_ne S'.nd ha (List.mem_of_mem_take z) rfl
                    refine k F' _ H' (.ref a) (stE st) (S'.take _) ⟨a, ds, ws, rfl, rfl, hH, S'.out a (List.mem_of_getElem? ha), nt, ?_, q.1, q.2⟩
                    rcases st.new a (List.mem_of_getElem? ha) with z | z
                    · have e := st.pre
                      rw [show μ.take M.length = μ by rw [← hμ, List.take_length]] at e
                      rw [← e] at z
                      exact absurd z nt
                    · exact z
                  | _ => exact q.elim
        · cases e2
  · cases e0
end
end DL
end P_DL6
section P_DL7
set_option Elab.async false
set_option linter.all false
set_option maxRecDepth 100000
set_option maxHeartbeats 1000000
/-! Operators by values. -/
namespace DL
open PySem PySem.Spec PyProof.Rows L2
section
variable {X : Cx} {K : Fr} {F H : Hp} {Q : VK}
theorem repT_non {v : V} (r : RepT K F H .non v) : v = .non := by cases r with | d r => cases r; rfl
theorem repT_bl {b : Bool} {v : V} (r : RepT K F H (.bl b) v) : v = .bl b := by cases r with | d r => cases r; rfl
theorem repT_str {s : List Char} {v : V} (r : RepT K F H (.str s) v) : v = .str (enc s) ∧ s.length ≤ big := by cases r with | d r => cases r with | str _ h => exact ⟨rfl, h⟩
theorem repT_tup {l : List D} {v : V} (r : RepT K F H (.tup l) v) : Rep K F (.tup l) v ∧ ∃ a vs, v = .ref a ∧ SqT K F a vs ∧ Reps K F l vs ∧ l.length ≤ big := by
  cases r with | d r => exact ⟨r, by cases r with | tup z h q => exact ⟨_, _, rfl, SqT.of h, q, z⟩⟩
theorem repT_lst (sb : Sub F H) {l : List D} {v : V} (r : RepT K F H (.lst l) v) : ∃ a vs, v = .ref a ∧ H a = some (.lst vs) ∧ Reps K F l vs ∧ l.length ≤ big := by
  cases r with
  | d r => cases r with | lst z h q => exact ⟨_, _, rfl, sb _ _ h, q, z⟩
  | lst z h q => exact ⟨_, _, rfl, h, q, z⟩
theorem repT_scr {l : List D} {v : V} (r : RepT K F H (.scr l) v) : ∃ a vs, v = .ref a ∧ SqL K F a vs ∧ Reps K F l vs ∧ l.length ≤ big := by
  cases r with | d r => cases r with | scr z h q => exact ⟨_, _, rfl, h, q, z⟩
theorem repT_dic {l : List (D × D)} {v : V} (r : RepT K F H (.dic l) v) : ∃ (a : Addr) (k : List (List Char × Int)), l = k.map (fun p => (D.str p.1, D.int p.2)) ∧ v = .ref a ∧ (k.map (·.1)).Nodup ∧ F a = some (.dK (k.map fun p => (Sum.inr (enc p.1), V.int p.2))) := by
  cases r with | d r => cases r with | dic k z h => exact ⟨_, k, rfl, rfl, z, h⟩
theorem big_ge {n : Nat} (h : n ≤ big) : n ≤ sizeLine := by rw [sizeLine_eq]; exact h
theorem postSame {d : D} {v : V} (sb : Sub F H) (k : PostD false K F H d Q) (r : Rep K F d v) : Q v H := k F H v (NewF.refl sb) r
theorem postTup {ds : List D} {vs : List V} {p : Addr} (sb : Sub F H) (k : PostD false K F H (.tup ds) Q) (hl : ds.length ≤ big) (r : Reps K F ds vs) (hp : H p = none) : Q (.ref p) (upd H p (.tup vs)) := by
  have n := NewF.alloc sb hp (.tup vs)
  exact k _ _ _ n (Rep.tup hl upd_same (Reps.mono n.fr r))
theorem postLst {ds : List D} {vs : List V} {p : Addr} (sb : Sub F H) (k : PostD false K F H (.lst ds) Q) (hl : ds.length ≤ big) (r : Reps K F ds vs) (hp : H p = none) : Q (.ref p) (upd H p (.lst vs)) := by
  have n := NewF.alloc sb hp (.lst vs)
  exact k _ _ _ n (Rep.lst hl upd_same (Reps.mono n.fr r))
theorem postNew {ds : List D} {vs : List V} {p : Addr} (sb : Sub F H) (k : PostD true K F H (.lst ds) Q) (hl : ds.length ≤ big) (r : Reps K F ds vs) (hp : H p = none) : Q (.ref p) (upd H p (.lst vs)) := by
  have n := NewF.alloc sb hp (.lst vs)
  refine k F _ p ds vs ⟨Sub.refl _, sb.trans n.keep, n.keep, fun a o h => .inl h⟩ rfl upd_same ?_ hp hl r
  cases q : F p with
  | none => rfl
  | some o => rw [sb p o q] at hp; cases hp
/-- only where the answer is a list -/
def onlyL2 (p : D → D → Option D) : D → D → Option D := fun x y => match p x y with
  | some (.lst l) => some (.lst l)
  | _ => none
def onlyL1 (p : D → Option D) : D → Option D := fun x => match p x with
  | some (.lst l) => some (.lst l)
  | _ => none
def onlyLs (p : List D → Option D) : List D → Option D := fun x => match p x with
  | some (.lst l) => some (.lst l)
  | _ => none
theorem enc_append (x y : List Char) : enc (x ++ y) = enc x ++ enc y := by
  show enc (x ++ y) = (⟨(enc x).cps ++ (enc y).cps⟩ : Str)
  unfold enc
  rw [List.map_append]
  simp
theorem rep_eq {α : Type} (l : List α) : ∀ n : Nat, rep n l = (List.replicate n l).flatten
  | 0 => rfl
  | n + 1 => by rw [List.replicate_succ, List.flatten_cons, ← rep_eq l n]; rfl
theorem rep_length {α : Type} (l : List α) : ∀ n : Nat, (rep n l).length = n * l.length
  | 0 => by simp [rep]
  | n + 1 => by rw [rep, List.length_append, rep_length l n, Nat.succ_mul, Nat.add_comm]

theorem ob_add : OpR X (binaryOp .Add) (r2D false X.K (binD .add)) := by
  intro pins s σ H x y v u Q I rx ry ⟨F, dx, dy, d, sb, tx, ty, e, k⟩
  cases dx <;> cases dy <;> first | cases e | skip
  · cases repT_int tx; cases repT_int ty
    exact op_add pins s σ H _ _ v u Q I rx ry ⟨_, _, rfl, rfl, postSame sb k (.int _)⟩
  · rename_i a b
    obtain ⟨rfl, ha⟩ := repT_str tx
    obtain ⟨rfl, hb⟩ := repT_str ty
    simp only [binD] at e
    split at e
    · rename_i hz
      cases e
      refine op_add_str pins s σ H _ _ v u Q I rx ry ⟨_, _, rfl, rfl, by rw [enc_length, enc_length]; exact big_ge hz, ?_⟩
      rw [← enc_append]
      exact postSame sb k (.str _ (by rw [List.length_append]; exact hz))
    · cases e
  · obtain ⟨hx, a, as, rfl, ha, ra, la⟩ := repT_tup tx
    obtain ⟨hy, b, bs, rfl, hb, rb, lb⟩ := repT_tup ty
    simp only [binD] at e
    split at e
    · rename_i l1 l2 hz
      cases e
      refine op_catA pins s σ H _ _ v u Q I rx ry ⟨a, b, as, bs, rfl, rfl, sb.sqT ha, sb.sqT hb, by rw [← ra.length, ← rb.length]; exact big_ge hz, fun z => ?_, fun _ z => ?_, fun _ _ p hp => ?_⟩
      · subst z
        cases ra
        exact postSame sb k hy
      · subst z
        cases rb
        rw [List.append_nil] at k
        exact postSame sb k hx
      · exact postTup sb k (by rw [List.length_append]; exact hz) (ra.append rb) hp
    · cases e
  · obtain ⟨a, as, rfl, ha, ra, la⟩ := repT_lst sb tx
    obtain ⟨b, bs, rfl, hb, rb, lb⟩ := repT_lst sb ty
    simp only [binD] at e
    split at e
    · rename_i l1 l2 hz
      cases e
      refine op_cat pins s σ H _ _ v u Q I rx ry ⟨a, b, as, bs, rfl, rfl, ha, hb, by rw [← ra.length, ← rb.length]; exact big_ge hz, fun p hp => ?_⟩
      exact postLst sb k (by rw [List.length_append]; exact hz) (ra.append rb) hp
    · cases e
theorem ob_addL : OpR X (binaryOp .Add) (r2D true X.K (onlyL2 (binD .add))) := by
  intro pins s σ H x y v u Q I rx ry ⟨F, dx, dy, d, sb, tx, ty, e, k⟩
  unfold onlyL2 at e
  cases dx <;> cases dy <;> first | cases e | skip
  · simp only [binD] at e; split at e <;> cases e <;> (rename_i h; split at h <;> cases h)
  · simp only [binD] at e; split at e <;> cases e <;> (rename_i h; split at h <;> cases h)
  · obtain ⟨a, as, rfl, ha, ra, la⟩ := repT_lst sb tx
    obtain ⟨b, bs, rfl, hb, rb, lb⟩ := repT_lst sb ty
    simp only [binD] at e
    rename_i l1 l2
    by_cases hz : l1.length + l2.length ≤ big
    · rw [if_pos hz] at e
      cases e
      refine op_cat pins s σ H _ _ v u Q I rx ry ⟨a, b, as, bs, rfl, rfl, ha, hb, by rw [← ra.length, ← rb.length]; exact big_ge hz, fun p hp => ?_⟩
      exact postNew sb k (by rw [List.length_append]; exact hz) (ra.append rb) hp
    · rw [if_neg hz] at e; cases e
theorem ob_sub : OpR X (binaryOp .Sub) (r2D false X.K (binD .sub)) := by
  intro pins s σ H x y v u Q I rx ry ⟨F, dx, dy, d, sb, tx, ty, e, k⟩
  cases dx <;> cases dy <;> first | cases e | skip
  cases repT_int tx; cases repT_int ty
  exact op_sub pins s σ H _ _ v u Q I rx ry ⟨_, _, rfl, rfl, postSame sb k (.int _)⟩
theorem ob_fdiv : OpR X (binaryOp .FloorDiv) (r2D false X.K (binD .fdiv)) := by
  intro pins s σ H x y v u Q I rx ry ⟨F, dx, dy, d, sb, tx, ty, e, k⟩
  cases dx <;> cases dy <;> first | cases e | skip
  cases repT_int tx; cases repT_int ty
  simp only [binD] at e
  split at e
  · rename_i h
    cases e
    exact op_fdiv pins s σ H _ _ v u Q I rx ry ⟨_, _, rfl, rfl, h, postSame sb k (.int _)⟩
  · cases e
theorem ob_mod : OpR X (binaryOp .Mod) (r2D false X.K (binD .mod)) := by
  intro pins s σ H x y v u Q I rx ry ⟨F, dx, dy, d, sb, tx, ty, e, k⟩
  cases dx <;> cases dy <;> first | cases e | skip
  cases repT_int tx; cases repT_int ty
  simp only [binD] at e
  split at e
  · rename_i h
    cases e
    exact op_mod pins s σ H _ _ v u Q I rx ry ⟨_, _, rfl, rfl, h, postSame sb k (.int _)⟩
  · cases e
theorem ob_pow : OpR X (binaryOp .Pow) (r2D false X.K (binD .pow)) := by
  intro pins s σ H x y v u Q I rx ry ⟨F, dx, dy, d, sb, tx, ty, e, k⟩
  cases dx <;> cases dy <;> first | cases e | skip
  cases repT_int tx; cases repT_int ty
  simp only [binD] at e
  split at e
  · rename_i h
    cases e
    exact op_pow pins s σ H _ _ v u Q I rx ry ⟨_, _, rfl, rfl, h, postSame sb k (.int _)⟩
  · cases e
theorem Reps.repl {ds : List D} {vs : List V} (h : Reps K F ds vs) : ∀ n : Nat, Reps K F (DL.rep n ds) (List.replicate n vs).flatten
  | 0 => .nil
  | n + 1 => by rw [List.replicate_succ, List.flatten_cons]; exact h.append (h.repl n)
theorem foldl_repA (l : List Nat) : ∀ (n : Nat) (acc : Array Nat), (List.replicate n l.toArray).foldl (· ++ ·) acc = acc ++ (DL.rep n l).toArray
  | 0, acc => by simp [DL.rep]
  | n + 1, acc => by
    rw [List.replicate_succ, List.foldl_cons, foldl_repA l n]
    simp [DL.rep]
theorem enc_rep (l : List Char) : ∀ n : Nat, enc (DL.rep n l) = ⟨(DL.rep n (l.map Char.toNat)).toArray⟩
  | 0 => rfl
  | n + 1 => by
    have ih := enc_rep l n
    show enc (l ++ DL.rep n l) = ⟨((l.map Char.toNat) ++ DL.rep n (l.map Char.toNat)).toArray⟩
    rw [enc_append, ih]
    show (⟨(enc l).cps ++ (DL.rep n (l.map Char.toNat)).toArray⟩ : Str) = _
    simp [enc]
theorem mul_strD {pins : List (Addr × Obj)} {s : Shared} {σ : L2.St} {l : List Char} {j : Int} {v u : Value} (I : L2.Inv X pins σ H s) (rx : L2.RelV (.str (enc l)) v) (ry : L2.RelV (.int j) u) (h0 : 0 ≤ j) (h1 : j < 1000) (h2 : l.length ≤ 1000) (sb : Sub F H)
    (k : PostD false X.K F H (.str (DL.rep j.toNat l)) Q) : wpAny (model X.prog X.w) X.A (binaryOp .Mult v u) (EP X pins σ Q) X.xe s := by
  obtain ⟨t, rfl⟩ := rx
  obtain ⟨t', rfl⟩ := ry
  have hb : (DL.rep j.toNat l).length ≤ big := by
    rw [rep_length]
    have h1 : j.toNat ≤ 1000 := by omega
    calc j.toNat * l.length ≤ 1000 * 1000 := Nat.mul_le_mul h1 h2
      _ ≤ big := by decide
  have hl : (enc l).length = l.length := enc_length l
  have fin := postSame sb k (.str _ hb)
  have fin_s : ∀ {z : List Char}, Q (.str (enc z)) H → EP X pins σ Q (.str (enc z) s.toks) { s with toks := s.toks + 1 } := fun {z} q => ⟨.str (enc z), H, I.tok _, ⟨_, rfl⟩, q⟩
  refine PySem.P.mul_str (by rw [Bool.or_eq_false_iff]; exact ⟨decide_eq_false (by omega), decide_eq_false (by omega)⟩) (fun h _ => ?_) (fun h _ => ?_) ?_
  · rw [hl]
    have : (1000 : Int) ≤ (2 ^ 63 - 1 : Int) / j := (Int.le_ediv_iff_mul_le (by omega)).mpr (by omega)
    omega
  · refine PyProof.Rows.short24 ?_
    rw [hl, Nat.mul_comm, ← rep_length]
    exact hb
  · by_cases c1 : j < 1
    · rw [if_pos c1]
      have e : j.toNat = 0 := by omega
      rw [e] at fin
      exact ⟨Nat.zero_le _, fin_s fin⟩
    · rw [if_neg c1]
      by_cases c2 : (j == 1 || (enc l).length == 0) = true
      · rw [if_pos c2]
        have e : DL.rep j.toNat l = l := by
          rw [Bool.or_eq_true, beq_iff_eq, beq_iff_eq, hl] at c2
          rcases c2 with c2 | c2
          · rw [c2]; show l ++ [] = l; rw [List.append_nil]
          · have := List.eq_nil_of_length_eq_zero c2
            subst this
            exact List.eq_nil_of_length_eq_zero (by rw [rep_length]; simp)
        rw [e] at fin
        exact (⟨.str (enc l), H, I, ⟨_, rfl⟩, fin⟩ : EP X pins σ Q _ _)
      · rw [if_neg c2]
        have e : (⟨(List.replicate j.toNat (enc l).cps).foldl (· ++ ·) #[]⟩ : Str) = enc (DL.rep j.toNat l) := by
          rw [enc_rep]
          unfold enc
          simp only
          rw [foldl_repA]
          simp
        rw [e]
        exact ⟨by rw [enc_length]; exact big_ge hb, fin_s fin⟩
theorem ob_mul : OpR X (binaryOp .Mult) (r2D false X.K (binD .mul)) := by
  intro pins s σ H x y v u Q I rx ry ⟨F, dx, dy, d, sb, tx, ty, e, k⟩
  cases dx <;> cases dy <;> first | cases e | skip
  · cases repT_int tx; cases repT_int ty
    simp only [binD] at e
    split at e
    · rename_i h
      cases e
      exact op_mul pins s σ H _ _ v u Q I rx ry ⟨_, _, rfl, rfl, (show CMul _ _ from of_decide_eq_true (p := (_ ∨ _)) h), postSame sb k (.int _)⟩
    · cases e
  · cases repT_int ty
    obtain ⟨rfl, la⟩ := repT_str tx
    simp only [binD] at e
    split at e
    · rename_i l j h
      cases e
      exact mul_strD I rx ry h.1 h.2.1 h.2.2 sb k
    · cases e
  · cases repT_int ty
    obtain ⟨hx, a, as, rfl, ha, ra, la⟩ := repT_tup tx
    simp only [binD] at e
    split at e
    · rename_i l j h
      cases e
      have hb : l.length * j.toNat ≤ big := by
        have h1 : j.toNat ≤ 1000 := by omega
        calc l.length * j.toNat ≤ 1000 * 1000 := Nat.mul_le_mul h.2.2.1 h1
          _ ≤ big := by decide
      have hl := ra.length
      refine op_repT pins s σ H _ _ v u Q I rx ry ⟨a, _, as, rfl, rfl, sb.sqT ha, fun z => ?_, h.1, by omega, by omega, fun p hp => ?_⟩
      · have h0 := h.2.2.2
        rw [hl, z] at h0
        exact absurd h0 (by simp)
      · exact postTup sb k (by rw [rep_length, Nat.mul_comm]; exact hb) (ra.repl _) hp
    · cases e
  · cases repT_int ty
    obtain ⟨a, as, rfl, ha, ra, la⟩ := repT_lst sb tx
    simp only [binD] at e
    split at e
    · rename_i l j h
      cases e
      have hb : l.length * j.toNat ≤ big := by
        have h1 : j.toNat ≤ 1000 := by omega
        calc l.length * j.toNat ≤ 1000 * 1000 := Nat.mul_le_mul h.2.2 h1
          _ ≤ big := by decide
      refine op_rep pins s σ H _ _ v u Q I rx ry ⟨a, _, as, rfl, rfl, ha, by omega, by omega, by rw [← ra.length]; exact big_ge hb, fun p hp => ?_⟩
      exact postLst sb k (by rw [rep_length, Nat.mul_comm]; exact hb) (ra.repl _) hp
    · cases e
theorem ob_mulL : OpR X (binaryOp .Mult) (r2D true X.K (onlyL2 (binD .mul))) := by
  intro pins s σ H x y v u Q I rx ry ⟨F, dx, dy, d, sb, tx, ty, e, k⟩
  unfold onlyL2 at e
  cases dx <;> cases dy <;> first | cases e | skip
  · simp only [binD] at e; split at e <;> cases e <;> (rename_i h; split at h <;> cases h)
  · simp only [binD] at e; split at e <;> cases e <;> (rename_i h; split at h <;> cases h)
  · simp only [binD] at e; split at e <;> cases e <;> (rename_i h; split at h <;> cases h)
  · cases repT_int ty
    obtain ⟨a, as, rfl, ha, ra, la⟩ := repT_lst sb tx
    simp only [binD] at e
    rename_i l j
    by_cases h : 0 ≤ j ∧ j < 1000 ∧ l.length ≤ 1000
    · rw [if_pos h] at e
      cases e
      have hb : l.length * j.toNat ≤ big := by
        have h1 : j.toNat ≤ 1000 := by omega
        calc l.length * j.toNat ≤ 1000 * 1000 := Nat.mul_le_mul h.2.2 h1
          _ ≤ big := by decide
      refine op_rep pins s σ H _ _ v u Q I rx ry ⟨a, _, as, rfl, rfl, ha, by omega, by omega, by rw [← ra.length]; exact big_ge hb, fun p hp => ?_⟩
      exact postNew sb k (by rw [rep_length, Nat.mul_comm]; exact hb) (ra.repl _) hp
    · rw [if_neg h] at e; cases e

/-! ### comparisons -/
mutual
def toPy : D → PyData
  | .non => .none
  | .bl b => .bool b
  | .int i => .int i
  | .str s => .str (enc s)
  | .tup l => .tuple (toPys l)
  | .lst l => .list (toPys l)
  | .dic _ => .none
  | .scr _ => .none
  | .dct _ _ => .none
def toPys : List D → List PyData
  | [] => []
  | x :: xs => toPy x :: toPys xs
end
theorem char_inj {a b : Char} (h : a.toNat = b.toNat) : a = b := by
  cases a; cases b
  simp only [Char.toNat] at h
  congr
  exact UInt32.toNat_inj.mp h
theorem map_nat_inj : ∀ {x y : List Char}, x.map Char.toNat = y.map Char.toNat → x = y
  | [], [], _ => rfl
  | [], _ :: _, h => by simp at h
  | _ :: _, [], h => by simp at h
  | a :: x, b :: y, h => by
    rw [List.map_cons, List.map_cons] at h
    injection h with h1 h2
    rw [char_inj h1, map_nat_inj h2]
theorem enc_inj {x y : List Char} (h : enc x = enc y) : x = y := by
  unfold enc at h
  injection h with h
  have h2 : x.map Char.toNat = y.map Char.toNat := by simpa using congrArg Array.toList h
  exact map_nat_inj h2
theorem enc_beq (x y : List Char) : (enc x == enc y) = (x == y) := by
  rw [Bool.eq_iff_iff, beq_iff_eq, beq_iff_eq]
  exact ⟨enc_inj, fun h => by rw [h]⟩
mutual
/-- no dict within -/
def D.plain : D → Bool
  | .non | .bl _ | .int _ | .str _ => true
  | .tup l => D.plains l
  | .lst l => D.plains l
  | .dic _ | .scr _ | .dct _ _ => false
def D.plains : List D → Bool
  | [] => true
  | x :: xs => D.plain x && D.plains xs
end
mutual
theorem shal_plain : ∀ (n : Nat) (x : D), x.shal n = true → x.plain = true
  | _, .non, _ | _, .bl _, _ | _, .int _, _ | _, .str _, _ => rfl
  | n + 1, .tup l, h => shals_plain n l h
  | n + 1, .lst l, h => shals_plain n l h
  | 0, .tup l, h | 0, .lst l, h | 0, .dic l, h | 0, .scr l, h | 0, .dct _ _, h => by simp [D.shal] at h
  | n + 1, .dic l, h | n + 1, .scr l, h | n + 1, .dct _ _, h => by simp [D.shal] at h
theorem shals_plain : ∀ (n : Nat) (x : List D), D.shals n x = true → D.plains x = true
  | _, [], _ => rfl
  | n, x :: xs, h => by
    simp only [D.shals, Bool.and_eq_true] at h
    simp only [D.plains, Bool.and_eq_true]
    exact ⟨shal_plain n x h.1, shals_plain n xs h.2⟩
end
mutual
theorem shal_depth : ∀ (n : Nat) (x : D), x.shal n = true → (toPy x).depth ≤ n
  | _, .non, _ | _, .bl _, _ | _, .int _, _ | _, .str _, _ => Nat.zero_le _
  | n + 1, .tup l, h => Nat.succ_le_succ (shals_depth n l h)
  | n + 1, .lst l, h => Nat.succ_le_succ (shals_depth n l h)
  | 0, .tup l, h | 0, .lst l, h | 0, .dic l, h | 0, .scr l, h | 0, .dct _ _, h => by simp [D.shal] at h
  | n + 1, .dic l, h | n + 1, .scr l, h | n + 1, .dct _ _, h => by simp [D.shal] at h
theorem shals_depth : ∀ (n : Nat) (x : List D), D.shals n x = true → PyData.depthAll (toPys x) ≤ n
  | _, [], _ => Nat.zero_le _
  | n, x :: xs, h => by
    simp only [D.shals, Bool.and_eq_true] at h
    exact Nat.max_le.mpr ⟨shal_depth n x h.1, shals_depth n xs h.2⟩
end
theorem enc_ok (s : List Char) : PyData.strOk (enc s) = true := by
  unfold PyData.strOk enc
  rw [Array.all_eq_true']
  intro c hc
  simp only [List.mem_toArray, List.mem_map] at hc
  obtain ⟨a, _, rfl⟩ := hc
  refine decide_eq_true ?_
  have := a.valid
  simp only [Char.toNat]
  rcases this with h | h
  · have h' : a.val.toNat < 0xd800 := h
    omega
  · exact h.2
mutual
theorem plain_lay : ∀ (x : D), x.plain = true → (toPy x).canLay0 = true
  | .non, _ | .bl _, _ | .int _, _ => rfl
  | .str s, _ => enc_ok s
  | .tup l, h => plains_lay l h
  | .lst l, h => plains_lay l h
  | .dic l, h | .scr l, h | .dct _ _, h => by simp [D.plain] at h
theorem plains_lay : ∀ (x : List D), D.plains x = true → PyData.canLayAll0 (toPys x) = true
  | [], _ => rfl
  | x :: xs, h => by
    simp only [D.plains, Bool.and_eq_true] at h
    show (PyData.canLay0 (toPy x) && PyData.canLayAll0 (toPys xs)) = true
    rw [plain_lay x h.1, plains_lay xs h.2]
    rfl
end
theorem shaped_of {x : D} (h : x.shal 60 = true) : SeqAt.shaped (toPy x) = true := by
  unfold SeqAt.shaped
  rw [plain_lay x (shal_plain _ _ h), Bool.true_and]
  exact decide_eq_true (Nat.le_trans (shal_depth _ _ h) (by decide))
mutual
theorem eqv_py : ∀ (x y : D), x.plain = true → y.plain = true → PyData.eqv (toPy x) (toPy y) = x.eqv y := fun x y hx hy => by
  cases x with
  | tup l =>
    cases y with
    | tup m => show PyData.eqvAll (toPys l) (toPys m) = D.eqvs l m; exact eqvs_py l m hx hy
    | dic l => simp [D.plain] at hy
    | scr l => simp [D.plain] at hy
    | dct t l => simp [D.plain] at hy
    | _ => rfl
  | lst l =>
    cases y with
    | lst m => show PyData.eqvAll (toPys l) (toPys m) = D.eqvs l m; exact eqvs_py l m hx hy
    | dic l => simp [D.plain] at hy
    | scr l => simp [D.plain] at hy
    | dct t l => simp [D.plain] at hy
    | _ => rfl
  | str s =>
    cases y with
    | str t => exact enc_beq s t
    | dic l => simp [D.plain] at hy
    | scr l => simp [D.plain] at hy
    | dct t l => simp [D.plain] at hy
    | _ => rfl
  | dic l => simp [D.plain] at hx
  | scr l => simp [D.plain] at hx
  | dct t l => simp [D.plain] at hx
  | _ =>
    cases y with
    | dic l => simp [D.plain] at hy
    | scr l => simp [D.plain] at hy
    | dct t l => simp [D.plain] at hy
    | _ => rfl
theorem eqvs_py : ∀ (x y : List D), D.plains x = true → D.plains y = true → PyData.eqvAll (toPys x) (toPys y) = D.eqvs x y
  | [], [], _, _ => rfl
  | [], _ :: _, _, _ => rfl
  | _ :: _, [], _, _ => rfl
  | x :: xs, y :: ys, hx, hy => by
    simp only [D.plains, Bool.and_eq_true] at hx hy
    show (PyData.eqv (toPy x) (toPy y) && PyData.eqvAll (toPys xs) (toPys ys)) = (x.eqv y && D.eqvs xs ys)
    rw [eqv_py x y hx.1 hy.1, eqvs_py xs ys hx.2 hy.2]
end
mutual
theorem Rep.dp (sb : Sub F H) : ∀ {x : D} {v : V}, Rep K F x v → x.plain = true → Dp K H v (toPy x)
  | _, _, .non, _ => .non
  | _, _, .bl b, _ => .bl b
  | _, _, .int i, _ => .int i
  | _, _, .str s _, _ => .str _
  | _, _, .tup z h r, p => .tup (sb.sqT (SqT.of h)) (Reps.dp sb r p)
  | _, _, .lst z h r, p => .lst (SqL.of (sb _ _ h)) (Reps.dp sb r p)
  | _, _, .scr z h r, p => by simp [D.plain] at p
  | _, _, .dic l z h, p => by simp [D.plain] at p
  | _, _, .dct t z k h r, p => by simp [D.plain] at p
theorem Reps.dp (sb : Sub F H) : ∀ {x : List D} {v : List V}, Reps K F x v → D.plains x = true → DpAll K H v (toPys x)
  | _, _, .nil, _ => .nil
  | _, _, .cons a r, p => by
    simp only [D.plains, Bool.and_eq_true] at p
    exact .cons (Rep.dp sb a p.1) (Reps.dp sb r p.2)
end
theorem RepT.dp (sb : Sub F H) {x : D} {v : V} (r : RepT K F H x v) (p : x.plain = true) : Dp K H v (toPy x) := by
  cases r with
  | d r => exact r.dp sb p
  | lst z h r => exact .lst (SqL.of h) (Reps.dp sb r p)
  | dct t z k h r => simp [D.plain] at p
theorem flat_shal {x : D} (h : x.flat = true) : x.shal 60 = true := by cases x <;> first | rfl | cases h
theorem eqD_shal {x y : D} {b : Bool} (h : eqD x y = some b) : x.shal 60 = true ∧ y.shal 60 = true ∧ b = x.eqv y := by
  unfold eqD at h
  split at h
  · rename_i hh
    cases h
    rw [Bool.or_eq_true, Bool.and_eq_true, Bool.and_eq_true] at hh
    rcases hh with ⟨a, b⟩ | ⟨a, b⟩
    · exact ⟨flat_shal a, flat_shal b, rfl⟩
    · exact ⟨a, b, rfl⟩
  · cases h
theorem ob_eq {k : Nat} (hr : Room k X.A) : OpR X (compareOp .Eq) (r2D false X.K (cmpV .eq)) := by
  intro pins s σ H x y v u Q I rx ry ⟨F, dx, dy, d, sb, tx, ty, e, q⟩
  obtain ⟨b, hb, rfl⟩ := Option.map_eq_some_iff.mp e
  obtain ⟨h1, h2, rfl⟩ := eqD_shal hb
  refine op_eqD hr.units pins s σ H x y v u Q I rx ry ⟨_, _, tx.dp sb (shal_plain _ _ h1), ty.dp sb (shal_plain _ _ h2), shaped_of h1, shaped_of h2, ?_⟩
  rw [eqv_py _ _ (shal_plain _ _ h1) (shal_plain _ _ h2)]
  exact postSame sb q (.bl _)
theorem ob_ne {k : Nat} (hr : Room k X.A) : OpR X (compareOp .NotEq) (r2D false X.K (cmpV .ne)) := by
  intro pins s σ H x y v u Q I rx ry ⟨F, dx, dy, d, sb, tx, ty, e, q⟩
  obtain ⟨b1, hb1, rfl⟩ := Option.map_eq_some_iff.mp e
  obtain ⟨b, hb, rfl⟩ := Option.map_eq_some_iff.mp (show (eqD dx dy).map (!·) = some b1 from hb1)
  obtain ⟨h1, h2, rfl⟩ := eqD_shal hb
  refine op_neD hr.units pins s σ H x y v u Q I rx ry ⟨_, _, tx.dp sb (shal_plain _ _ h1), ty.dp sb (shal_plain _ _ h2), shaped_of h1, shaped_of h2, ?_⟩
  rw [eqv_py _ _ (shal_plain _ _ h1) (shal_plain _ _ h2)]
  exact postSame sb q (.bl _)

theorem lt_ofL {x y : List Char} : ltS x y = decide ((enc x).cps.toList < (enc y).cps.toList) := by
  show ltS x y = decide ((x.map Char.toNat).toArray.toList < (y.map Char.toNat).toArray.toList)
  induction x generalizing y with
  | nil =>
    cases y with
    | nil => rfl
    | cons b y => rfl
  | cons a x ih =>
    cases y with
    | nil => rfl
    | cons b y =>
      simp only [ltS, List.map_cons, List.cons_lt_cons_iff]
      by_cases h1 : a.toNat < b.toNat
      · simp [h1]
      · by_cases h2 : a.toNat = b.toNat
        · rw [if_neg h1, if_pos h2, ih]
          simp [h1, h2]
        · rw [if_neg h1, if_neg h2]
          simp [h1, h2]
theorem cmp_flat {op : CmpOp} {c : Cop} {gi : Int → Int → Bool} {gs : Str → Str → Bool} (hI : OpR X (compareOp op) (rI0 fun i j => .bl (gi i j)))
    (hS : OpR X (compareOp op) (fun x y H Q => ∃ i j, x = .str i ∧ y = .str j ∧ Q (.bl (gs i j)) H))
    (h : ∀ x y b, cmpD c x y = some b → (∃ i j, x = .int i ∧ y = .int j ∧ b = gi i j) ∨ (∃ i j, x = .str i ∧ y = .str j ∧ b = gs (enc i) (enc j))) : OpR X (compareOp op) (r2D false X.K (cmpV c)) := by
  intro pins s σ H x y v u Q I rx ry ⟨F, dx, dy, d, sb, tx, ty, e, q⟩
  obtain ⟨b, hb, rfl⟩ := Option.map_eq_some_iff.mp e
  rcases h _ _ _ hb with ⟨i, j, rfl, rfl, rfl⟩ | ⟨i, j, rfl, rfl, rfl⟩
  · cases repT_int tx; cases repT_int ty
    exact hI pins s σ H _ _ v u Q I rx ry ⟨_, _, rfl, rfl, postSame sb q (.bl _)⟩
  · obtain ⟨rfl, _⟩ := repT_str tx
    obtain ⟨rfl, _⟩ := repT_str ty
    exact hS pins s σ H _ _ v u Q I rx ry ⟨_, _, rfl, rfl, postSame sb q (.bl _)⟩
theorem ltFlat_cases {x y : D} {b : Bool} (h : ltFlat x y = some b) : (∃ i j, x = .int i ∧ y = .int j ∧ b = decide (i < j)) ∨ (∃ i j, x = .str i ∧ y = .str j ∧ b = decide ((enc i).cps.toList < (enc j).cps.toList)) := by
  cases x <;> cases y <;> first | (cases h; done) | (cases h; exact .inl ⟨_, _, rfl, rfl, rfl⟩) | (cases h; exact .inr ⟨_, _, rfl, rfl, lt_ofL⟩)
theorem ltFlat_casesM {x y : D} {b : Bool} (h : (ltFlat x y).map (!·) = some b) : (∃ i j, x = .int i ∧ y = .int j ∧ b = !decide (i < j)) ∨ (∃ i j, x = .str i ∧ y = .str j ∧ b = !decide ((enc i).cps.toList < (enc j).cps.toList)) := by
  obtain ⟨c, hc, rfl⟩ := Option.map_eq_some_iff.mp h
  rcases ltFlat_cases hc with ⟨i, j, rfl, rfl, rfl⟩ | ⟨i, j, rfl, rfl, rfl⟩
  · exact .inl ⟨_, _, rfl, rfl, rfl⟩
  · exact .inr ⟨_, _, rfl, rfl, rfl⟩
theorem ob_lt : OpR X (compareOp .Lt) (r2D false X.K (cmpV .lt)) := cmp_flat op_lt op_lt_str fun x y b h => ltFlat_cases h
theorem ob_gt : OpR X (compareOp .Gt) (r2D false X.K (cmpV .gt)) := cmp_flat op_gt op_gt_str fun x y b h => by
  rcases ltFlat_cases (x := y) (y := x) h with ⟨i, j, rfl, rfl, rfl⟩ | ⟨i, j, rfl, rfl, rfl⟩
  · exact .inl ⟨_, _, rfl, rfl, rfl⟩
  · exact .inr ⟨_, _, rfl, rfl, rfl⟩
theorem ob_le : OpR X (compareOp .LtE) (r2D false X.K (cmpV .le)) := cmp_flat op_le op_le_str fun x y b h => by
  rcases ltFlat_casesM (x := y) (y := x) h with ⟨i, j, rfl, rfl, rfl⟩ | ⟨i, j, rfl, rfl, rfl⟩
  · exact .inl ⟨_, _, rfl, rfl, by rw [Bool.eq_iff_iff]; simp⟩
  · exact .inr ⟨_, _, rfl, rfl, rfl⟩
theorem ob_ge : OpR X (compareOp .GtE) (r2D false X.K (cmpV .ge)) := cmp_flat op_ge op_ge_str fun x y b h => by
  rcases ltFlat_casesM h with ⟨i, j, rfl, rfl, rfl⟩ | ⟨i, j, rfl, rfl, rfl⟩
  · exact .inl ⟨_, _, rfl, rfl, by rw [Bool.eq_iff_iff]; simp⟩
  · exact .inr ⟨_, _, rfl, rfl, rfl⟩
/-! is -/
theorem V_non {x : D} {v : V} (r : RepT K F H x v) : decide (v = V.non) = (match x with | .non => true | _ => false) := by
  cases r with
  | d r => cases r <;> rfl
  | lst _ _ _ => rfl
  | dct _ _ _ _ _ => rfl
theorem is_bl_rel {x : V} {v : Value} {b : Bool} (r : RelV x v) : plainIs v (.bool b) = true := by
  cases x <;> first | (cases r; rfl) | (obtain ⟨t, rfl⟩ := r; rfl)
theorem is_bl_ne {x : V} {v : Value} {b : Bool} (r : RelV x v) (h : x ≠ .bl b) : v ≠ .bool b := by
  cases x <;> first | (obtain ⟨t, rfl⟩ := r; intro e; cases e; done) | (cases r; intro e; cases e; exact h rfl) | (cases r; intro e; cases e)
theorem op_is_blA {X : Cx} : OpR X (compareOp .Is) (fun x y H Q => ∃ b, y = .bl b ∧ x ≠ .bl b ∧ Q (.bl false) H) := by
  intro pins s σ H x y v u Q I rx ry h
  obtain ⟨b, rfl, hx, q⟩ := h
  cases (show u = Value.bool b from ry)
  exact wpAny_is_other (is_bl_rel rx) (is_bl_ne rx hx) ⟨.bl false, H, I, rfl, q⟩
theorem op_isnot_blA {X : Cx} : OpR X (compareOp .IsNot) (fun x y H Q => ∃ b, y = .bl b ∧ x ≠ .bl b ∧ Q (.bl true) H) := by
  intro pins s σ H x y v u Q I rx ry h
  obtain ⟨b, rfl, hx, q⟩ := h
  cases (show u = Value.bool b from ry)
  exact wpAny_isNot_other (is_bl_rel rx) (is_bl_ne rx hx) ⟨.bl true, H, I, rfl, q⟩
theorem RepT_nbl {K : Fr} {F H : Hp} {x : D} {v : V} (r : RepT K F H x v) (h : ∀ a, x ≠ .bl a) (b : Bool) : v ≠ .bl b := by
  cases r with
  | d r =>
    cases r <;> first | (intro e; cases e; done) | skip
    exact fun _ => h _ rfl
  | lst _ _ _ => intro e; cases e
  | dct _ _ _ _ _ => intro e; cases e
theorem ob_is : OpR X (compareOp .Is) (r2D false X.K (cmpV .is)) := by
  intro pins s σ H x y v u Q I rx ry ⟨F, dx, dy, d, sb, tx, ty, e, q⟩
  obtain ⟨b, hb, rfl⟩ := Option.map_eq_some_iff.mp e
  cases dy with
  | non =>
    cases repT_non ty
    refine op_isN pins s σ H x _ v u Q I rx ry ⟨rfl, ?_⟩
    rw [V_non tx]
    cases dx <;> cases hb <;> exact postSame sb q (.bl _)
  | bl b2 =>
    cases repT_bl ty
    by_cases hx : ∃ a, dx = .bl a
    · obtain ⟨a, rfl⟩ := hx
      cases hb
      cases repT_bl tx
      exact op_is_bl pins s σ H _ _ v u Q I rx ry ⟨_, _, rfl, rfl, postSame sb q (.bl _)⟩
    · refine op_is_blA pins s σ H x _ v u Q I rx ry ⟨_, rfl, RepT_nbl tx (fun a e => hx ⟨a, e⟩) _, ?_⟩
      cases dx <;> first | exact absurd ⟨_, rfl⟩ hx | (cases hb; exact postSame sb q (.bl _))
  | _ => cases dx <;> cases hb
theorem ob_isnot : OpR X (compareOp .IsNot) (r2D false X.K (cmpV .isnot)) := by
  intro pins s σ H x y v u Q I rx ry ⟨F, dx, dy, d, sb, tx, ty, e, q⟩
  obtain ⟨b, hb, rfl⟩ := Option.map_eq_some_iff.mp e
  cases dy with
  | non =>
    cases repT_non ty
    refine op_notN pins s σ H x _ v u Q I rx ry ⟨rfl, ?_⟩
    rw [V_non tx]
    cases dx <;> cases hb <;> exact postSame sb q (.bl _)
  | bl b2 =>
    cases repT_bl ty
    by_cases hx : ∃ a, dx = .bl a
    · obtain ⟨a, rfl⟩ := hx
      cases hb
      cases repT_bl tx
      exact op_isnot_bl pins s σ H _ _ v u Q I rx ry ⟨_, _, rfl, rfl, postSame sb q (.bl _)⟩
    · refine op_isnot_blA pins s σ H x _ v u Q I rx ry ⟨_, rfl, RepT_nbl tx (fun a e => hx ⟨a, e⟩) _, ?_⟩
      cases dx <;> first | exact absurd ⟨_, rfl⟩ hx | (cases hb; exact postSame sb q (.bl _))
  | _ => cases dx <;> cases hb
/-! in -/
theorem any_py {x : D} (hx : x.plain = true) : ∀ {l : List D}, D.plains l = true → ((toPys l).any fun z => PyData.eqv z (toPy x)) = l.any fun y => y.eqv x
  | [], _ => rfl
  | y :: l, h => by
    simp only [D.plains, Bool.and_eq_true] at h
    show (PyData.eqv (toPy y) (toPy x) || (toPys l).any fun z => PyData.eqv z (toPy x)) = _
    rw [eqv_py _ _ h.1 hx, any_py hx h.2, List.any_cons]
theorem in_units {k n : Nat} {x : PyData} {l : List PyData} (hr : Room k X.A) (h : x.depth ≤ 60) : X.A.units + 1 + min (PyData.depthAll l) x.depth < cLine := by
  have h1 : min (PyData.depthAll l) x.depth ≤ x.depth := Nat.min_le_right _ _
  have := hr.un
  omega
theorem inD_cases {x y : D} {b : Bool} (h : inD x y = some b) : (∃ c s, x = .str [c] ∧ y = .str s ∧ b = s.contains c) ∨ ∃ l, (y = .lst l ∨ y = .tup l) ∧ x.shal 60 = true ∧ D.shals 60 l = true ∧ b = l.any fun y => y.eqv x := by
  unfold inD at h
  split at h
  · cases h; exact .inl ⟨_, _, rfl, rfl, rfl⟩
  · split at h
    · rename_i hh; cases h; rw [Bool.and_eq_true] at hh; exact .inr ⟨_, .inl rfl, hh.1, hh.2, rfl⟩
    · cases h
  · split at h
    · rename_i hh; cases h; rw [Bool.and_eq_true] at hh; exact .inr ⟨_, .inr rfl, hh.1, hh.2, rfl⟩
    · cases h
  · cases h
theorem enc_mem (s : List Char) (c : Char) : decide (c.toNat ∈ (enc s).cps.toList) = s.contains c := by
  rw [Bool.eq_iff_iff, decide_eq_true_iff, List.contains_iff_mem]
  show c.toNat ∈ s.map Char.toNat ↔ c ∈ s
  rw [List.mem_map]
  exact ⟨fun ⟨a, h, e⟩ => by rw [← char_inj e]; exact h, fun h => ⟨c, h, rfl⟩⟩
theorem ob_in {k : Nat} (hr : Room k X.A) : OpR X (compareOp .In) (r2D false X.K (cmpV .isin)) := by
  intro pins s σ H x y v u Q I rx ry ⟨F, dx, dy, d, sb, tx, ty, e, q⟩
  obtain ⟨b, hb, rfl⟩ := Option.map_eq_some_iff.mp e
  rcases inD_cases hb with ⟨c, t, rfl, rfl, rfl⟩ | ⟨l, hy, h1, h2, rfl⟩
  · obtain ⟨rfl, _⟩ := repT_str tx
    obtain ⟨rfl, _⟩ := repT_str ty
    refine op_in_sign pins s σ H _ _ v u Q I rx ry ⟨_, _, rfl, rfl, ?_⟩
    rw [enc_mem]
    exact postSame sb q (.bl _)
  · obtain ⟨bs, r1⟩ := Dp.reads I _ x v (tx.dp sb (shal_plain _ _ h1)) rx
    have hp := shals_plain _ _ h2
    have qq : Q (.bl ((toPys l).any fun z => PyData.eqv z (toPy dx))) H := by rw [any_py (shal_plain _ _ h1) hp]; exact postSame sb q (.bl _)
    rcases hy with rfl | rfl
    · obtain ⟨as, r2⟩ := Dp.reads I _ y u (ty.dp sb (show (D.lst l).plain = true from hp)) ry
      exact SeqAt.in_list_reads r2 r1 (plains_lay _ hp) (plain_lay _ (shal_plain _ _ h1)) (in_units (n := 0) hr (shal_depth _ _ h1)) ⟨.bl _, H, I, rfl, qq⟩
    · obtain ⟨as, r2⟩ := Dp.reads I _ y u (ty.dp sb (show (D.tup l).plain = true from hp)) ry
      exact SeqAt.in_tuple_reads r2 r1 (plains_lay _ hp) (plain_lay _ (shal_plain _ _ h1)) (in_units (n := 0) hr (shal_depth _ _ h1)) ⟨.bl _, H, I, rfl, qq⟩
theorem ob_notin {k : Nat} (hr : Room k X.A) : OpR X (compareOp .NotIn) (r2D false X.K (cmpV .notin)) := by
  intro pins s σ H x y v u Q I rx ry ⟨F, dx, dy, d, sb, tx, ty, e, q⟩
  obtain ⟨b1, hb1, rfl⟩ := Option.map_eq_some_iff.mp e
  obtain ⟨b, hb, rfl⟩ := Option.map_eq_some_iff.mp (show (inD dx dy).map (!·) = some b1 from hb1)
  rcases inD_cases hb with ⟨c, t, rfl, rfl, rfl⟩ | ⟨l, hy, h1, h2, rfl⟩
  · obtain ⟨rfl, _⟩ := repT_str tx
    obtain ⟨rfl, _⟩ := repT_str ty
    refine op_notIn_sign pins s σ H _ _ v u Q I rx ry ⟨_, _, rfl, rfl, ?_⟩
    rw [enc_mem]
    exact postSame sb q (.bl _)
  · obtain ⟨bs, r1⟩ := Dp.reads I _ x v (tx.dp sb (shal_plain _ _ h1)) rx
    have hp := shals_plain _ _ h2
    have qq : Q (.bl (!(toPys l).any fun z => PyData.eqv z (toPy dx))) H := by rw [any_py (shal_plain _ _ h1) hp]; exact postSame sb q (.bl _)
    rcases hy with rfl | rfl
    · obtain ⟨as, r2⟩ := Dp.reads I _ y u (ty.dp sb (show (D.lst l).plain = true from hp)) ry
      exact SeqAt.notIn_list_reads r2 r1 (plains_lay _ hp) (plain_lay _ (shal_plain _ _ h1)) (in_units (n := 0) hr (shal_depth _ _ h1)) ⟨.bl _, H, I, rfl, qq⟩
    · obtain ⟨as, r2⟩ := Dp.reads I _ y u (ty.dp sb (show (D.tup l).plain = true from hp)) ry
      exact SeqAt.notIn_tuple_reads r2 r1 (plains_lay _ hp) (plain_lay _ (shal_plain _ _ h1)) (in_units (n := 0) hr (shal_depth _ _ h1)) ⟨.bl _, H, I, rfl, qq⟩
/-! -x -/
def negD : D → Option D
  | .int i => some (.int (-i))
  | _ => none
theorem ob_neg : UnR X (unaryOp .USub) (r1D false X.K negD) := by
  intro pins s σ H x v Q I rx ⟨F, dx, d, sb, tx, e, q⟩
  cases dx <;> first | (cases e; done) | skip
  cases e
  cases repT_int tx
  exact un_neg pins s σ H _ v Q I rx ⟨_, rfl, postSame sb q (.int _)⟩
/-! x[i] -/
theorem at_eq {α : Type} (l : List α) (i : Int) : at_ l i = atI l i := by
  unfold at_ atI ixN
  by_cases h0 : 0 ≤ i
  · rw [if_pos h0, if_pos h0]
    by_cases h1 : i < l.length
    · rw [if_pos h1]; rfl
    · rw [if_neg h1]
      exact List.getElem?_eq_none (by omega)
  · rw [if_neg h0, if_neg h0]
    by_cases h1 : -(l.length : Int) ≤ i
    · rw [if_pos h1, if_pos (by omega)]; rfl
    · rw [if_neg h1, if_neg (by omega)]; rfl
theorem at_rep {l : List D} {vs : List V} {i : Int} {d : D} (r : Reps K F l vs) (h : at_ l i = some d) : ∃ v, atI vs i = some v ∧ Rep K F d v := by
  rw [at_eq] at h
  unfold atI at h ⊢
  rw [r.length] at h
  cases e : ixN vs.length i with
  | none => rw [e] at h; cases h
  | some j => rw [e] at h; exact r.get h
theorem ob_sub_ix : IxR X (r2D false X.K subD) := by
  intro value slice pins s σ H x y v u Q I rx ry ⟨F, dx, dy, d, sb, tx, ty, e, q⟩ hs
  cases dx <;> cases dy <;> first | (cases e; done) | skip
  · cases repT_int ty
    obtain ⟨rfl, hl⟩ := repT_str tx
    rename_i t i
    obtain ⟨c, hc, rfl⟩ := Option.map_eq_some_iff.mp (show (at_ t i).map (fun c => D.str [c]) = some d from e)
    refine ix_str value slice pins s σ H _ _ v u Q I rx ry ⟨_, _, c.toNat, rfl, rfl, by rw [enc_length]; exact big_ge hl, ?_, postSame sb q (.str [c] (by show 1 ≤ big; decide))⟩ hs
    rw [at_eq] at hc
    show atI (t.map Char.toNat) i = _
    unfold atI at hc ⊢
    rw [List.length_map]
    cases e2 : ixN t.length i with
    | none => rw [e2] at hc; cases hc
    | some j =>
      rw [e2] at hc
      show (t.map Char.toNat)[j]? = _
      rw [List.getElem?_map, show t[j]? = some c from hc]; rfl
  · cases repT_int ty
    obtain ⟨_, a, as, rfl, ha, ra, _⟩ := repT_tup tx
    obtain ⟨w, hw, rw'⟩ := at_rep ra (show at_ _ _ = some d from e)
    exact ix_tup value slice pins s σ H _ _ v u Q I rx ry ⟨a, as, _, w, rfl, rfl, sb.sqT ha, hw, postSame sb q rw'⟩ hs
  · cases repT_int ty
    obtain ⟨a, as, rfl, ha, ra, _⟩ := repT_lst sb tx
    obtain ⟨w, hw, rw'⟩ := at_rep ra (show at_ _ _ = some d from e)
    exact ix_list value slice pins s σ H _ _ v u Q I rx ry ⟨a, as, _, w, rfl, rfl, SqL.of ha, hw, postSame sb q rw'⟩ hs
  · cases repT_int ty
    obtain ⟨a, as, rfl, ha, ra, _⟩ := repT_scr tx
    obtain ⟨w, hw, rw'⟩ := at_rep ra (show at_ _ _ = some d from e)
    exact ix_list value slice pins s σ H _ _ v u Q I rx ry ⟨a, as, _, w, rfl, rfl, sb.sqL ha, hw, postSame sb q rw'⟩ hs
end
end DL
end P_DL7
section P_DL8
set_option Elab.async false
set_option linter.all false
set_option maxRecDepth 100000
set_option maxHeartbeats 1000000
/-! Slices, built-in functions, methods by values. -/
namespace DL
open PySem PySem.Spec PyProof.Rows L2 PySem.SeqAt
open PySem.W (dataLt dataLt_int dataLt_str minD maxD AlikeAll alike min_list_data min_tuple_data max_list_data max_tuple_data)
section
variable {X : Cx} {K : Fr} {F H : Hp} {Q : VK}
/-! ### slices -/
theorem bound_lo (n : Nat) (o : Option Int) : (match o with | some i => bound n i | none => 0) = HT.sIx n 0 o := by
  cases o with
  | none => rfl
  | some i =>
    show bound n i = if i < 0 then (i + n).toNat else min i.toNat n
    unfold bound
    by_cases h : 0 ≤ i
    · rw [if_pos h, if_neg (by omega)]
    · rw [if_neg h, if_pos (by omega)]
theorem bound_hi (n : Nat) (o : Option Int) : (match o with | some i => bound n i | none => n) = HT.sIx n n o := by
  cases o with
  | none => rfl
  | some i =>
    show bound n i = if i < 0 then (i + n).toNat else min i.toNat n
    unfold bound
    by_cases h : 0 ≤ i
    · rw [if_pos h, if_neg (by omega)]
    · rw [if_neg h, if_pos (by omega)]
theorem cut_eq {α : Type} (l : List α) (lo hi : Option Int) : cut l lo hi = (l.drop (HT.sIx l.length 0 lo)).take (HT.sIx l.length l.length hi - HT.sIx l.length 0 lo) := by
  show (l.drop (match lo with | some i => bound l.length i | none => 0)).take ((match hi with | some i => bound l.length i | none => l.length) - (match lo with | some i => bound l.length i | none => 0)) = _
  rw [bound_lo, bound_hi]
theorem cut_rep {l : List D} {vs : List V} (lo hi : Option Int) (r : Reps K F l vs) : Reps K F (cut l lo hi) (cutV vs lo hi) := by
  rw [cut_eq]
  unfold cutV
  rw [← r.length]
  exact (r.drop _).take _
theorem cut_length {α : Type} (l : List α) (lo hi : Option Int) : (cut l lo hi).length ≤ l.length := by
  rw [cut_eq, List.length_take, List.length_drop]; omega
theorem cut_full {α : Type} (l : List α) (lo hi : Option Int) (h1 : HT.sIx l.length 0 lo = 0) (h2 : HT.sIx l.length l.length hi = l.length) : cut l lo hi = l := by
  rw [cut_eq, h1, h2, List.drop_zero, Nat.sub_zero, List.take_length]
theorem sb_slice : SlR X (rSlD false X.K) := by
  intro pins s σ H x v vl vu lo hi sl Q I rx hs pl pu ⟨F, dx, d, sb, tx, e, q⟩
  cases dx with
  | lst l =>
    cases e
    obtain ⟨a, as, rfl, ha, ra, la⟩ := repT_lst sb tx
    exact sl_list pins s σ H _ v vl vu lo hi sl Q I rx hs pl pu ⟨a, as, rfl, SqL.of ha, fun p hp => postLst sb q (Nat.le_trans (cut_length _ _ _) la) (cut_rep lo hi ra) hp⟩
  | scr l =>
    cases e
    obtain ⟨a, as, rfl, ha, ra, la⟩ := repT_scr tx
    exact sl_list pins s σ H _ v vl vu lo hi sl Q I rx hs pl pu ⟨a, as, rfl, sb.sqL ha, fun p hp => postLst sb q (Nat.le_trans (cut_length _ _ _) la) (cut_rep lo hi ra) hp⟩
  | tup l =>
    cases e
    obtain ⟨hx, a, as, rfl, ha, ra, la⟩ := repT_tup tx
    refine sl_tupA pins s σ H _ v vl vu lo hi sl Q I rx hs pl pu ⟨a, as, rfl, sb.sqT ha, fun ⟨z1, z2⟩ => ?_, fun _ p hp => postTup sb q (Nat.le_trans (cut_length _ _ _) la) (cut_rep lo hi ra) hp⟩
    rw [← ra.length] at z1 z2
    rw [cut_full l lo hi z1 z2] at q
    exact postSame sb q hx
  | str t =>
    cases e
    obtain ⟨rfl, la⟩ := repT_str tx
    refine sl_str pins s σ H _ v vl vu lo hi sl Q I rx hs pl pu ⟨_, rfl, by rw [enc_length]; exact big_ge la, ?_⟩
    have e : cutS (enc t) lo hi = enc (cut t lo hi) := by
      rw [cut_eq]
      unfold cutS enc
      simp only [Str.length, List.size_toArray, List.length_map]
      rw [List.map_take, List.map_drop]
    rw [e]
    exact postSame sb q (.str _ (Nat.le_trans (cut_length _ _ _) la))
  | _ => cases e
def rSlL' (K : Fr) : V → Option Int → Option Int → Hp → VK → Prop := fun v lo hi H Q => ∃ F x d, Sub F H ∧ RepT K F H x v ∧ (match x with
  | .lst l => some (.lst (cut l lo hi))
  | .scr l => some (.lst (cut l lo hi))
  | _ => none) = some d ∧ PostD true K F H d Q

/-! ### len, int, abs, .. -/
theorem repTs_0 {vs : List V} (r : RepTs K F H [] vs) : vs = [] := by cases r; rfl
theorem len1 {p : D → Option D} {xs : List D} {d : D} (h : (match xs with | [x] => p x | _ => none) = some d) : ∃ x, xs = [x] ∧ p x = some d := by
  split at h
  · exact ⟨_, rfl, h⟩
  · cases h
theorem bb_len : CallR X (.builtin "len") (rLD false X.K (biD .len)) := by
  intro pins s σ H vs us Q I r ⟨F, xs, d, sb, tx, e, q⟩
  match xs, e, tx with
  | [x], e, tx =>
    obtain ⟨v, rfl, rx⟩ := repTs_1 tx
    obtain ⟨n, hn, rfl⟩ := Option.map_eq_some_iff.mp (show (lenD x).map D.int = some d from e)
    have fin : Q (.int n) H := postSame sb q (.int _)
    cases x with
    | str t =>
      cases hn
      obtain ⟨rfl, la⟩ := repT_str rx
      refine call_len_str pins s σ H _ us Q I r ⟨_, rfl, by rw [enc_length]; exact big_ge la, ?_⟩
      rw [enc_length]; exact fin
    | lst l =>
      cases hn
      obtain ⟨a, as, rfl, ha, ra, la⟩ := repT_lst sb rx
      exact call_len_seq pins s σ H _ us Q I r ⟨a, as, rfl, .inl (SqL.of ha), by rw [← ra.length]; exact fin⟩
    | tup l =>
      cases hn
      obtain ⟨_, a, as, rfl, ha, ra, la⟩ := repT_tup rx
      exact call_len_seq pins s σ H _ us Q I r ⟨a, as, rfl, .inr (sb.sqT ha), by rw [← ra.length]; exact fin⟩
    | scr l =>
      cases hn
      obtain ⟨a, as, rfl, ha, ra, la⟩ := repT_scr rx
      exact call_len_seq pins s σ H _ us Q I r ⟨a, as, rfl, .inl (sb.sqL ha), by rw [← ra.length]; exact fin⟩
    | _ => cases hn
theorem bb_int : CallR X (.type "int") (rLD false X.K (biD .int)) := by
  intro pins s σ H vs us Q I r ⟨F, xs, d, sb, tx, e, q⟩
  match xs, e, tx with
  | [.int i], e, tx =>
    obtain ⟨v, rfl, rx⟩ := repTs_1 tx
    cases repT_int rx
    cases e
    exact call_int1 pins s σ H _ us Q I r (.inl ⟨i, rfl, postSame sb q (.int _)⟩)
  | [.bl b], e, tx =>
    obtain ⟨v, rfl, rx⟩ := repTs_1 tx
    cases repT_bl rx
    cases e
    exact call_int1 pins s σ H _ us Q I r (.inr ⟨b, rfl, postSame sb q (.int _)⟩)
theorem bb_abs : CallR X (.builtin "abs") (rLD false X.K (biD .abs)) := by
  intro pins s σ H vs us Q I r ⟨F, xs, d, sb, tx, e, q⟩
  match xs, e, tx with
  | [.int i], e, tx =>
    obtain ⟨v, rfl, rx⟩ := repTs_1 tx
    cases repT_int rx
    cases e
    exact call_abs pins s σ H _ us Q I r ⟨i, rfl, postSame sb q (.int _)⟩
theorem bb_max2 (hc : X.calm = true) : CallR X (.builtin "max") (rLD false X.K (biD .max2)) := by
  intro pins s σ H vs us Q I r ⟨F, xs, d, sb, tx, e, q⟩
  match xs, e, tx with
  | [.int i, .int j], e, tx =>
    obtain ⟨v, w, rfl, rx, ry⟩ := repTs_2 tx
    cases repT_int rx; cases repT_int ry
    cases e
    exact call_max2 hc pins s σ H _ us Q I r ⟨i, j, rfl, postSame sb q (.int _)⟩
theorem bb_min2 (hc : X.calm = true) : CallR X (.builtin "min") (rLD false X.K (biD .min2)) := by
  intro pins s σ H vs us Q I r ⟨F, xs, d, sb, tx, e, q⟩
  match xs, e, tx with
  | [.int i, .int j], e, tx =>
    obtain ⟨v, w, rfl, rx, ry⟩ := repTs_2 tx
    cases repT_int rx; cases repT_int ry
    cases e
    exact call_min2 hc pins s σ H _ us Q I r ⟨i, j, rfl, postSame sb q (.int _)⟩
theorem bb_divmod : CallR X (.builtin "divmod") (rLD false X.K (biD .divmod)) := by
  intro pins s σ H vs us Q I r ⟨F, xs, d, sb, tx, e, q⟩
  match xs, e, tx with
  | [.int i, .int j], e, tx =>
    obtain ⟨v, w, rfl, rx, ry⟩ := repTs_2 tx
    cases repT_int rx; cases repT_int ry
    simp only [biD] at e
    split at e
    · rename_i h
      cases e
      exact call_divmod pins s σ H _ us Q I r ⟨i, j, rfl, h, fun p hp => postTup sb q (by show 2 ≤ big; decide) (.cons (.int _) (.cons (.int _) .nil)) hp⟩
    · cases e
theorem sumInts_ok : ∀ {l : List D} {n : Int} {vs : List V}, sumInts l = some n → Reps K F l vs → ∃ ns : List Int, vs = ns.map V.int ∧ ns.sum = n
  | [], _, _, h, .nil => by cases h; exact ⟨[], rfl, rfl⟩
  | .int i :: l, n, _, h, .cons a r => by
    cases a
    obtain ⟨m, hm, rfl⟩ := Option.map_eq_some_iff.mp (show (sumInts l).map (i + ·) = some n from h)
    obtain ⟨ns, rfl, rfl⟩ := sumInts_ok hm r
    exact ⟨i :: ns, rfl, by simp⟩
theorem bb_sum (hc : X.calm = true) : CallR X (.builtin "sum") (rLD false X.K (biD .sum)) := by
  intro pins s σ H vs us Q I r ⟨F, xs, d, sb, tx, e, q⟩
  match xs, e, tx with
  | [.lst l], e, tx =>
    obtain ⟨v, rfl, rx⟩ := repTs_1 tx
    obtain ⟨n, hn, rfl⟩ := Option.map_eq_some_iff.mp (show (sumInts l).map D.int = some d from e)
    obtain ⟨a, as, rfl, ha, ra, la⟩ := repT_lst sb rx
    obtain ⟨ns, rfl, rfl⟩ := sumInts_ok hn ra
    exact cr_sum hc pins s σ H _ us Q I r ⟨a, ns, rfl, SqL.of ha, postSame sb q (.int _)⟩
theorem allBl_ok : ∀ {l : List D} {n : Bool} {vs : List V}, allBl l = some n → Reps K F l vs → ∃ ns : List Bool, vs = ns.map V.bl ∧ ns.all id = n
  | [], _, _, h, .nil => by cases h; exact ⟨[], rfl, rfl⟩
  | .bl i :: l, n, _, h, .cons a r => by
    cases a
    obtain ⟨m, hm, rfl⟩ := Option.map_eq_some_iff.mp (show (allBl l).map (i && ·) = some n from h)
    obtain ⟨ns, rfl, rfl⟩ := allBl_ok hm r
    exact ⟨i :: ns, rfl, by simp⟩
theorem anyBl_ok : ∀ {l : List D} {n : Bool} {vs : List V}, anyBl l = some n → Reps K F l vs → ∃ ns : List Bool, vs = ns.map V.bl ∧ ns.any id = n
  | [], _, _, h, .nil => by cases h; exact ⟨[], rfl, rfl⟩
  | .bl i :: l, n, _, h, .cons a r => by
    cases a
    obtain ⟨m, hm, rfl⟩ := Option.map_eq_some_iff.mp (show (anyBl l).map (i || ·) = some n from h)
    obtain ⟨ns, rfl, rfl⟩ := anyBl_ok hm r
    exact ⟨i :: ns, rfl, by simp⟩
theorem bb_all (hc : X.calm = true) : CallR X (.builtin "all") (rLD false X.K (biD .all)) := by
  intro pins s σ H vs us Q I r ⟨F, xs, d, sb, tx, e, q⟩
  match xs, e, tx with
  | [.lst l], e, tx =>
    obtain ⟨v, rfl, rx⟩ := repTs_1 tx
    obtain ⟨n, hn, rfl⟩ := Option.map_eq_some_iff.mp (show (allBl l).map D.bl = some d from e)
    obtain ⟨a, as, rfl, ha, ra, la⟩ := repT_lst sb rx
    obtain ⟨ns, rfl, rfl⟩ := allBl_ok hn ra
    exact cr_all hc pins s σ H _ us Q I r ⟨a, ns, rfl, SqL.of ha, postSame sb q (.bl _)⟩
theorem bb_any (hc : X.calm = true) : CallR X (.builtin "any") (rLD false X.K (biD .any)) := by
  intro pins s σ H vs us Q I r ⟨F, xs, d, sb, tx, e, q⟩
  match xs, e, tx with
  | [.lst l], e, tx =>
    obtain ⟨v, rfl, rx⟩ := repTs_1 tx
    obtain ⟨n, hn, rfl⟩ := Option.map_eq_some_iff.mp (show (anyBl l).map D.bl = some d from e)
    obtain ⟨a, as, rfl, ha, ra, la⟩ := repT_lst sb rx
    obtain ⟨ns, rfl, rfl⟩ := anyBl_ok hn ra
    exact cr_any hc pins s σ H _ us Q I r ⟨a, ns, rfl, SqL.of ha, postSame sb q (.bl _)⟩
theorem bb_tuple : CallR X (.type "tuple") (rLD false X.K (biD .tuple)) := by
  intro pins s σ H vs us Q I r ⟨F, xs, d, sb, tx, e, q⟩
  match xs, e, tx with
  | [.lst l], e, tx =>
    obtain ⟨v, rfl, rx⟩ := repTs_1 tx
    cases e
    obtain ⟨a, as, rfl, ha, ra, la⟩ := repT_lst sb rx
    exact call_tuple_of pins s σ H _ us Q I r ⟨a, as, rfl, .inl ⟨SqL.of ha, fun p hp => postTup sb q la ra hp⟩⟩
  | [.tup l], e, tx =>
    obtain ⟨v, rfl, rx⟩ := repTs_1 tx
    cases e
    obtain ⟨hx, a, as, rfl, ha, ra, la⟩ := repT_tup rx
    exact call_tuple_of pins s σ H _ us Q I r ⟨a, as, rfl, .inr ⟨sb.sqT ha, postSame sb q hx⟩⟩

/-! ### the least, the greatest -/
theorem like2_trans {x y z : D} (h : like2 x y = true) (h2 : like2 y z = true) : like2 x z = true := by
  cases x <;> cases y <;> cases z <;> first | rfl | (cases h; done) | (cases h2; done)
theorem like2_symm {x y : D} (h : like2 x y = true) : like2 y x = true := by cases x <;> cases y <;> first | rfl | cases h
theorem ltFlat_like {x y : D} {b : Bool} (h : ltFlat x y = some b) : like2 x y = true := by cases x <;> cases y <;> first | rfl | cases h
theorem ltFlat_data {x y : D} {b : Bool} (h : ltFlat x y = some b) : dataLt (toPy x) (toPy y) = b := by
  rcases ltFlat_cases h with ⟨i, j, rfl, rfl, rfl⟩ | ⟨i, j, rfl, rfl, rfl⟩
  · exact dataLt_int i j
  · exact dataLt_str _ _
theorem like2_alike {x y : D} (h : like2 x y = true) : alike (toPy x) (toPy y) = true := by
  cases x <;> cases y <;> first | (cases h; done) | (simp [toPy, alike])
theorem like2_flat {x y : D} (h : like2 x y = true) : x.flat = true ∧ toPy x ≠ .none := by
  cases x <;> cases y <;> first | (cases h; done) | exact ⟨rfl, by simp [toPy]⟩
theorem best_like {bt : D → D → Option Bool} (hb : ∀ x y b, bt y x = some b → like2 x y = true) : ∀ {l : List D} {x d : D}, bestD bt x l = some d → ∀ y ∈ l, like2 x y = true
  | [], _, _, _, y, hy => by cases hy
  | z :: l, x, d, h, y, hy => by
    unfold bestD at h
    cases e : bt z x with
    | none => rw [e] at h; cases h
    | some b =>
      rw [e] at h
      have l1 := hb _ _ _ e
      rcases List.mem_cons.mp hy with rfl | hy
      · exact l1
      · cases b with
        | true => exact like2_trans l1 (best_like hb h y hy)
        | false => exact best_like hb h y hy
theorem best_min : ∀ {l : List D} {x d : D}, bestD ltFlat x l = some d → minD (toPy x) (toPys l) = toPy d
  | [], _, _, h => by cases h; rfl
  | z :: l, x, d, h => by
    unfold bestD at h
    cases e : ltFlat z x with
    | none => rw [e] at h; cases h
    | some b =>
      rw [e] at h
      show List.foldl _ (if dataLt (toPy z) (toPy x) = true then toPy z else toPy x) (toPys l) = _
      rw [ltFlat_data e]
      cases b with
      | true => exact best_min h
      | false => exact best_min h
theorem best_max : ∀ {l : List D} {x d : D}, bestD (fun a b => ltFlat b a) x l = some d → maxD (toPy x) (toPys l) = toPy d
  | [], _, _, h => by cases h; rfl
  | z :: l, x, d, h => by
    unfold bestD at h
    cases e : ltFlat x z with
    | none => simp only [e] at h; cases h
    | some b =>
      simp only [e] at h
      show List.foldl _ (if dataLt (toPy x) (toPy z) = true then toPy z else toPy x) (toPys l) = _
      rw [ltFlat_data e]
      cases b with
      | true => exact best_max h
      | false => exact best_max h
theorem best_mem {bt : D → D → Option Bool} : ∀ {l : List D} {x d : D}, bestD bt x l = some d → d = x ∨ d ∈ l
  | [], _, _, h => by cases h; exact .inl rfl
  | z :: l, x, d, h => by
    unfold bestD at h
    cases e : bt z x with
    | none => rw [e] at h; cases h
    | some b =>
      rw [e] at h
      cases b with
      | true => rcases best_mem h with h | h
                · exact .inr (by rw [h]; exact List.mem_cons_self)
                · exact .inr (List.mem_cons_of_mem _ h)
      | false => rcases best_mem h with h | h
                 · exact .inl h
                 · exact .inr (List.mem_cons_of_mem _ h)
theorem toPys_mem {l : List D} {p : PyData} (h : p ∈ toPys l) : ∃ x ∈ l, p = toPy x := by
  induction l with
  | nil => cases h
  | cons a l ih =>
    rcases List.mem_cons.mp (show p ∈ toPy a :: toPys l from h) with rfl | h
    · exact ⟨a, List.mem_cons_self, rfl⟩
    · obtain ⟨x, hx, e⟩ := ih h
      exact ⟨x, List.mem_cons_of_mem _ hx, e⟩
theorem alike_all {x : D} {l : List D} (h : ∀ y ∈ l, like2 x y = true) (hx : like2 x x = true) : AlikeAll (toPys (x :: l)) := by
  have all : ∀ y ∈ x :: l, like2 x y = true := fun y hy => by
    rcases List.mem_cons.mp hy with rfl | hy
    · exact hx
    · exact h y hy
  refine ⟨fun p hp q hq => ?_, fun p hp => ?_⟩
  · obtain ⟨y, hy, rfl⟩ := toPys_mem hp
    obtain ⟨z, hz, rfl⟩ := toPys_mem hq
    exact like2_alike (like2_trans (like2_symm (all y hy)) (all z hz))
  · obtain ⟨y, hy, rfl⟩ := toPys_mem hp
    exact (like2_flat (like2_symm (all y hy))).2
theorem flat_depth {x : D} (h : x.flat = true) : (toPy x).depth = 0 := by cases x <;> first | rfl | cases h
theorem flats_depth : ∀ {l : List D}, (∀ y ∈ l, y.flat = true) → PyData.depthAll (toPys l) = 0
  | [], _ => rfl
  | x :: l, h => by
    show max (toPy x).depth (PyData.depthAll (toPys l)) = 0
    rw [flat_depth (h x List.mem_cons_self), flats_depth fun y hy => h y (List.mem_cons_of_mem _ hy)]
    rfl
theorem flat_plain {x : D} (h : x.flat = true) : x.plain = true := shal_plain _ _ (flat_shal h)
theorem flats_plain : ∀ {l : List D}, (∀ y ∈ l, y.flat = true) → D.plains l = true
  | [], _ => rfl
  | x :: l, h => by
    simp only [D.plains, Bool.and_eq_true]
    exact ⟨flat_plain (h x List.mem_cons_self), flats_plain fun y hy => h y (List.mem_cons_of_mem _ hy)⟩
mutual
theorem toPy_inj : ∀ (x y : D), x.plain = true → y.plain = true → toPy x = toPy y → x = y := fun x y hx hy h => by
  cases x <;> cases y <;> first
    | (simp [D.plain] at hx; done)
    | (simp [D.plain] at hy; done)
    | (simp [toPy] at h; done)
    | rfl
    | (simp only [toPy, PyData.bool.injEq] at h; rw [h])
    | (simp only [toPy, PyData.int.injEq] at h; rw [h])
    | (simp only [toPy, PyData.str.injEq] at h; rw [enc_inj h])
    | (simp only [toPy, PyData.tuple.injEq] at h; rw [toPys_inj _ _ hx hy h])
    | (simp only [toPy, PyData.list.injEq] at h; rw [toPys_inj _ _ hx hy h])
theorem toPys_inj : ∀ (x y : List D), D.plains x = true → D.plains y = true → toPys x = toPys y → x = y
  | [], [], _, _, _ => rfl
  | [], _ :: _, _, _, h => by simp [toPys] at h
  | _ :: _, [], _, _, h => by simp [toPys] at h
  | x :: xs, y :: ys, hx, hy, h => by
    simp only [D.plains, Bool.and_eq_true] at hx hy
    simp only [toPys, List.cons.injEq] at h
    rw [toPy_inj x y hx.1 hy.1 h.1, toPys_inj xs ys hx.2 hy.2 h.2]
end
theorem mem_plains : ∀ {l : List D} {x : D}, D.plains l = true → x ∈ l → x.plain = true
  | a :: l, x, h, hm => by
    simp only [D.plains, Bool.and_eq_true] at h
    rcases List.mem_cons.mp hm with rfl | hm
    · exact h.1
    · exact mem_plains h.2 hm
/-- what the machine's least item is among the values -/
theorem pick_item {pins : List (Addr × Obj)} {σ : L2.St} {s : Shared} {l : List D} {vs : List V} {its : List Value} {i : Nat} {u : Value} {h' : Heap} {as : List Addr} {d : D} {tk : Nat} (I : L2.Inv X pins σ H s) (sb : Sub F H) (ra : Reps X.K F l vs) (rv : Vals vs its) (hu : its[i]? = some u)
    (hr : Reads h' u (toPy d) as) (hd : d.plain = true) (hl : D.plains l = true) (hk : ∀ b o, s.heap.get? b = some o → h'.get? b = some o) (q : PostD false X.K F H d Q) : EP X pins σ Q u { s with heap := h', toks := tk } := by
  have hi : i < vs.length := by rw [rv.length]; exact (List.getElem?_eq_some_iff.mp hu).1
  have hv : vs[i]? = some vs[i] := List.getElem?_eq_getElem hi
  obtain ⟨u2, hu2, rl⟩ := rv.get hv
  rw [hu] at hu2
  cases hu2
  obtain ⟨x, hx, rx⟩ := ra.getV hv
  have I' : L2.Inv X pins σ H { s with heap := h', toks := tk } := I.kept hk
  have hxp : x.plain = true := mem_plains hl (List.mem_of_getElem? hx)
  obtain ⟨bs, r2⟩ := Dp.reads I' _ _ _ (rx.dp sb hxp) rl
  have e : x = d := toPy_inj _ _ hxp hd (SeqAt.plain_unique _ _ _ _ _ (PyData.plain_of_canLay0 _ (plain_lay _ hxp)) r2 hr)
  subst e
  exact ⟨_, H, I', rl, postSame sb q rx⟩
theorem readsL {pins : List (Addr × Obj)} {σ : L2.St} {s : Shared} {l : List D} {vs : List V} {its : List Value} (I : L2.Inv X pins σ H s) (sb : Sub F H) (ra : Reps X.K F l vs) (rv : Vals vs its) (hl : D.plains l = true) : ∃ as, ReadsAll s.heap its (toPys l) as :=
  Dp.readsAll I _ _ _ (ra.dp sb hl) rv
theorem best_facts {bt : D → D → Option Bool} (hb : ∀ x y b, bt y x = some b → like2 x y = true) {x d : D} {l : List D} (h : (if like2 x x then bestD bt x l else none) = some d) : bestD bt x l = some d ∧ AlikeAll (toPys (x :: l)) ∧ PyData.depthAll (toPys (x :: l)) = 0 ∧ D.plains (x :: l) = true ∧ d.plain = true := by
  split at h
  case isFalse => cases h
  rename_i hx
  have hl := best_like hb h
  have hf : ∀ y ∈ x :: l, y.flat = true := fun y hy => by
    rcases List.mem_cons.mp hy with rfl | hy
    · exact (like2_flat hx).1
    · exact (like2_flat (like2_symm (hl y hy))).1
  refine ⟨h, alike_all hl hx, flats_depth hf, flats_plain hf, ?_⟩
  rcases best_mem h with rfl | hm
  · exact flat_plain (hf _ List.mem_cons_self)
  · exact flat_plain (hf _ (List.mem_cons_of_mem _ hm))
theorem bb_min {k : Nat} (hc : X.calm = true) (hr : Room k X.A) : CallR X (.builtin "min") (rLD false X.K (biD .min)) := by
  intro pins s σ H vs us Q I r ⟨F, xs, d, sb, tx, e, q⟩
  have hb : ∀ x y b, ltFlat y x = some b → like2 x y = true := fun x y b h => like2_symm (ltFlat_like h)
  match xs, e, tx with
  | [.lst (x :: l)], e, tx =>
    obtain ⟨v, rfl, rx⟩ := repTs_1 tx
    obtain ⟨a, as, rfl, ha, ra, la⟩ := repT_lst sb rx
    rw [Vals.ref1 r]
    obtain ⟨its, rv, pl, hz⟩ := I.list (SqL.of ha)
    obtain ⟨f0, f1, f2, f3, f4⟩ := best_facts (bt := ltFlat) hb e
    obtain ⟨bs, rd⟩ := readsL I sb ra rv f3
    refine min_list_data (I.ok.hd hc) pl.isList (by rw [List.toList_toArray]; exact rd) f1 (by have := hr.un; show X.A.units + 1 + PyData.depthAll (toPys (x :: l)) < cLine; rw [f2]; omega) fun i u h' tk cs hu hrd hk => ?_
    rw [best_min f0] at hrd
    exact pick_item I sb ra rv (by simpa using hu) hrd f4 f3 hk q
  | [.tup (x :: l)], e, tx =>
    obtain ⟨v, rfl, rx⟩ := repTs_1 tx
    obtain ⟨_, a, as, rfl, ha, ra, la⟩ := repT_tup rx
    rw [Vals.ref1 r]
    obtain ⟨its, rv, pl, hz⟩ := I.tuple (sb.sqT ha)
    obtain ⟨f0, f1, f2, f3, f4⟩ := best_facts (bt := ltFlat) hb e
    obtain ⟨bs, rd⟩ := readsL I sb ra rv f3
    refine min_tuple_data (I.ok.hd hc) pl (by rw [List.toList_toArray]; exact rd) f1 (by have := hr.un; show X.A.units + 1 + PyData.depthAll (toPys (x :: l)) < cLine; rw [f2]; omega) fun i u h' tk cs hu hrd hk => ?_
    rw [best_min f0] at hrd
    exact pick_item I sb ra rv (by simpa using hu) hrd f4 f3 hk q
theorem bb_max {k : Nat} (hc : X.calm = true) (hr : Room k X.A) : CallR X (.builtin "max") (rLD false X.K (biD .max)) := by
  intro pins s σ H vs us Q I r ⟨F, xs, d, sb, tx, e, q⟩
  have hb : ∀ x y b, ltFlat x y = some b → like2 x y = true := fun x y b h => ltFlat_like h
  match xs, e, tx with
  | [.lst (x :: l)], e, tx =>
    obtain ⟨v, rfl, rx⟩ := repTs_1 tx
    obtain ⟨a, as, rfl, ha, ra, la⟩ := repT_lst sb rx
    rw [Vals.ref1 r]
    obtain ⟨its, rv, pl, hz⟩ := I.list (SqL.of ha)
    obtain ⟨f0, f1, f2, f3, f4⟩ := best_facts (bt := fun a b => ltFlat b a) hb e
    obtain ⟨bs, rd⟩ := readsL I sb ra rv f3
    refine max_list_data (I.ok.hd hc) pl.isList (by rw [List.toList_toArray]; exact rd) f1 (by have := hr.un; show X.A.units + 1 + PyData.depthAll (toPys (x :: l)) < cLine; rw [f2]; omega) fun i u h' tk cs hu hrd hk => ?_
    rw [best_max f0] at hrd
    exact pick_item I sb ra rv (by simpa using hu) hrd f4 f3 hk q
  | [.tup (x :: l)], e, tx =>
    obtain ⟨v, rfl, rx⟩ := repTs_1 tx
    obtain ⟨_, a, as, rfl, ha, ra, la⟩ := repT_tup rx
    rw [Vals.ref1 r]
    obtain ⟨its, rv, pl, hz⟩ := I.tuple (sb.sqT ha)
    obtain ⟨f0, f1, f2, f3, f4⟩ := best_facts (bt := fun a b => ltFlat b a) hb e
    obtain ⟨bs, rd⟩ := readsL I sb ra rv f3
    refine max_tuple_data (I.ok.hd hc) pl (by rw [List.toList_toArray]; exact rd) f1 (by have := hr.un; show X.A.units + 1 + PyData.depthAll (toPys (x :: l)) < cLine; rw [f2]; omega) fun i u h' tk cs hu hrd hk => ?_
    rw [best_max f0] at hrd
    exact pick_item I sb ra rv (by simpa using hu) hrd f4 f3 hk q
end
end DL
end P_DL8
section P_DL9
set_option Elab.async false
set_option linter.all false
set_option maxRecDepth 100000
set_option maxHeartbeats 1000000
/-! Methods, isinstance, list(x), stores by values. -/
namespace DL
open PySem PySem.Spec PyProof.Rows L2 PySem.SeqAt
section
variable {X : Cx} {K : Fr} {F H : Hp} {Q : VK}
/-! ### list(x) -/
theorem reps_chars (s : List Char) : Reps K F (s.map fun c => D.str [c]) (s.map fun c => V.str (enc [c])) := by
  induction s with
  | nil => exact .nil
  | cons c s ih => exact .cons (.str [c] (by show 1 ≤ big; decide)) ih
theorem signs_vals (s : List Char) : ∀ (its : List Value), its.length = s.length → (∀ i (h : i < its.length), ∃ t, its[i] = Value.str ⟨#[((enc s).cps[i]?).getD 0]⟩ t) → Vals (s.map fun c => V.str (enc [c])) its := by
  induction s with
  | nil =>
    intro its hl _
    cases its with
    | nil => exact .nil
    | cons a its => simp at hl
  | cons c s ih =>
    intro its hl h
    cases its with
    | nil => simp at hl
    | cons a its =>
      obtain ⟨t, e⟩ := h 0 (by simp)
      refine .cons ⟨t, ?_⟩ (ih its (by simpa using hl) fun i hi => ?_)
      · simpa [enc] using e
      · obtain ⟨t, e⟩ := h (i + 1) (by simpa using hi)
        exact ⟨t, by simpa [enc] using e⟩
theorem bb_list (hc : X.calm = true) : CallR X (.type "list") (rLD true X.K (biD .list)) := by
  intro pins s σ H vs us Q I r ⟨F, xs, d, sb, tx, e, q⟩
  match xs, e, tx with
  | [.lst l], e, tx =>
    obtain ⟨v, rfl, rx⟩ := repTs_1 tx
    cases e
    obtain ⟨a, as, rfl, ha, ra, la⟩ := repT_lst sb rx
    exact call_list_of pins s σ H _ us Q I r ⟨a, as, rfl, .inl (SqL.of ha), fun p hp => postNew sb q la ra hp⟩
  | [.tup l], e, tx =>
    obtain ⟨v, rfl, rx⟩ := repTs_1 tx
    cases e
    obtain ⟨hx, a, as, rfl, ha, ra, la⟩ := repT_tup rx
    exact call_list_of pins s σ H _ us Q I r ⟨a, as, rfl, .inr (sb.sqT ha), fun p hp => postNew sb q la ra hp⟩
  | [.str t], e, tx =>
    obtain ⟨v, rfl, rx⟩ := repTs_1 tx
    cases e
    obtain ⟨rfl, la⟩ := repT_str rx
    obtain ⟨u, rfl, tk, rfl⟩ := vals1 r
    have hsz : (enc t).cps.size ≤ sizeLine := by rw [enc_size]; exact big_ge la
    refine call_list_str (I.ok.hd hc) (enc t) tk (fun h' tk' acc c hk ho hi => ?_) hsz
    have rv : Vals (t.map fun c => V.str (enc [c])) acc.toList := by
      refine signs_vals t _ (by rw [Array.length_toList, hi.1, enc_size]) fun i h => ?_
      obtain ⟨c, u, hc, e⟩ := hi.2 i acc.toList[i] (by rw [← Array.getElem?_toList]; exact List.getElem?_eq_getElem h)
      exact ⟨u, by rw [e, hc]; rfl⟩
    have hp : H s.heap.objs.size = none := I.hok.fresh (Nat.le_refl _)
    refine ⟨.ref s.heap.objs.size, _, I.laid (t' := tk') hk (Nat.le_refl _) (show ObjOk X.prog X.w _ h' _ (.lst _) from ⟨by rw [List.length_map]; exact big_ge la, acc.toList, c, rv, by simpa using ho⟩), rfl, ?_⟩
    exact postNew sb q (by rw [List.length_map]; exact la) (reps_chars t) hp
/-! ### isinstance -/
def tyName : Ty → String
  | .int => "int" | .bool => "bool" | .str => "str" | .tuple => "tuple" | .list => "list" | .dict => "dict"
theorem kit_isi (t : Ty) {d : D} {v : V} {b : D} (sb : Sub F H) (r : RepT K F H d v) (h : isiD t d = some b) : ∃ ty k, TyX K H v ty ∧ PySem.W.kitOne K ty (.type (tyName t)) = some k ∧ b = .bl k := by
  cases d with
  | non => cases repT_non r; cases h; exact ⟨_, false, .base .non, by cases t <;> rfl, rfl⟩
  | bl x => cases repT_bl r; cases h; exact ⟨_, _, .base (.bl x), by cases t <;> rfl, rfl⟩
  | int x => cases repT_int r; cases h; exact ⟨_, _, .base (.int x), by cases t <;> rfl, rfl⟩
  | str x => obtain ⟨rfl, _⟩ := repT_str r; cases h; exact ⟨_, _, .base (.str _), by cases t <;> rfl, rfl⟩
  | lst l =>
    obtain ⟨a, vs, rfl, ha, _, _⟩ := repT_lst sb r
    cases h
    exact ⟨_, _, .base (.lst ha), by cases t <;> rfl, rfl⟩
  | tup l =>
    obtain ⟨_, a, vs, rfl, ha, _, _⟩ := repT_tup r
    cases h
    rcases sb.sqT ha with (ha | ⟨o, ha⟩) | ⟨o, its, n, h1, h2, _⟩
    · exact ⟨_, _, .base (.tup ha), by cases t <;> rfl, rfl⟩
    · exact ⟨_, _, .fTuple ha, by cases t <;> rfl, rfl⟩
    · exact ⟨_, _, .kTuple h1 h2, by cases t <;> rfl, rfl⟩
  | dic l =>
    obtain ⟨a, k, rfl, rfl, _, ha⟩ := repT_dic r
    cases h
    exact ⟨_, _, .base (.dK (sb _ _ ha)), by cases t <;> rfl, rfl⟩
  | _ => cases h
variable {e : Expr} {fa : Sl → Mem → Res Val} {pos : Pos}
theorem q_isi {T : Str} {t : Ty} {pn pt : Pos} (hg : Gl X "isinstance") (hm : X.mg "isinstance" = none) (hgT : Gl X T) (hmT : X.mg T = none) (hvT : bootBuiltins T = some (.type (tyName t))) (hnT : T ≠ "__name__") (hdT : (T == ("__debug__" : Str)) = false)
    (he : PE X e (LE false X.K fa)) (hp : plainArg e = true) : PE X (.Call (.Name "isinstance" pn) [e, .Name T pt] [] pos) (LE false X.K (ev1 (isiD t) fa)) := by
  refine (pe_callB call_isi hg hm PyProof.Rows.boot_isinstance (pa_cons he (pa_cons (pe_bltn (v := .ty (tyName t)) hgT hmT hvT rfl hnT hdT) pa_nil) (star_plain hp _ _)) (by decide) (by decide) (star_plain hp _ _) (star_any (by rfl))).imp fun σ H Q h => ?_
  have z := lift1 h
  obtain ⟨δ, M, F, μ, x, M', S, R, e0, k⟩ := z
  refine ⟨δ, M, F, μ, x, M', S, R, e0, fun F1 μ1 H1 v1 st1 S1 r1 => ?_⟩
  obtain ⟨F3, x3, d, sb, rx, hp3, q⟩ := k F1 μ1 H1 v1 st1 S1 r1
  obtain ⟨ty, kk, h1, h2, rfl⟩ := kit_isi t sb rx hp3
  exact ⟨v1, .ty (tyName t), ty, .type (tyName t), kk, rfl, .ty _, h1, h2, postSame sb q (.bl _)⟩

/-! ### methods of a text -/
theorem cnt_enc (c : Char) : ∀ s : List Char, cnt c.toNat (enc s).cps.toList = (s.count c : Nat)
  | [] => rfl
  | a :: s => by
    show cnt c.toNat (a.toNat :: s.map Char.toNat) = _
    rw [cnt_cons, List.count_cons]
    have ih : cnt c.toNat (s.map Char.toNat) = (s.count c : Nat) := cnt_enc c s
    rw [ih]
    by_cases h : a = c
    · subst h; simp; omega
    · rw [if_neg (fun e => h (char_inj e)), if_neg (by simpa using h)]; simp
theorem me_count : MeFact X "count" "str" "str.count" (rMD false X.K (atKd .str (meD .count))) where
  pa := PySem.F.plainAttrs_str
  slot := PySem.F.slot_str_count
  ty := PySem.F.type_str_count
  rule := by
    intro pins s σ H x xs v us Q I rx rs ⟨F, dx, dxs, d, sb, tx, txs, e, q⟩
    unfold atKd at e
    split at e
    case isFalse => cases e
    cases dx <;> first | (rename_i h; cases h; done) | skip
    obtain ⟨rfl, _⟩ := repT_str tx
    match dxs, e, txs with
    | [.str [c]], e, txs =>
      obtain ⟨w, rfl, rw'⟩ := repTs_1 txs
      obtain ⟨rfl, _⟩ := repT_str rw'
      cases e
      refine mt_count pins s σ H _ _ v us Q I rx rs ⟨_, _, rfl, rfl, ?_⟩
      rw [enc_one, count_cnt, cnt_enc]
      exact postSame sb q (.int _)
theorem me_oth {m : Me} (h : m = .join ∨ m = .count ∨ m = .rindex ∨ m = .upper ∨ m = .startswith) (x : D) (xs : List D) (hk : kd x ≠ .str) : meD m x xs = none := by
  rcases h with rfl | rfl | rfl | rfl | rfl <;> cases x <;> first | (exact absurd rfl hk) | rfl
theorem tab_str {name : Str} {id : String} {m : Me} (h : m = .join ∨ m = .count ∨ m = .rindex ∨ m = .upper ∨ m = .startswith) (f : MeFact X name "str" id (rMD false X.K (atKd .str (meD m)))) : MeTab X false name (meD m) where
  str := .inl ⟨id, f⟩
  lst := .inr fun x xs hk => me_oth h x xs (by rw [hk]; decide)
  dic := fun x xs hk => me_oth h x xs (by rw [hk]; decide)
  tup := fun x xs hk => me_oth h x xs (by rw [hk]; decide)
  oth := fun x xs hk => me_oth h x xs (by rw [hk]; decide)
theorem tab_count : MeTab X false "count" (meD .count) := tab_str (.inr (.inl rfl)) me_count
/-! join -/
theorem texts_reps : ∀ {l : List D} {ts : List (List Char)} {vs : List V}, texts l = some ts → Reps K F l vs → vs = (ts.map enc).map V.str
  | [], _, _, h, .nil => by cases h; rfl
  | .str s :: l, _, _, h, .cons a r => by
    obtain ⟨ts, ht, rfl⟩ := Option.map_eq_some_iff.mp (show (texts l).map (s :: ·) = some _ from h)
    cases a
    rw [texts_reps ht r]; rfl
theorem lens_eq : ∀ ts : List (List Char), ((ts.map enc).map (·.length)).sum = lens ts
  | [] => rfl
  | t :: ts => by rw [List.map_cons, List.map_cons, List.sum_cons, lens_eq ts, enc_length]; rfl
theorem glue_len (sep : List Char) : ∀ ts : List (List Char), (glue sep ts).length ≤ lens ts + ts.length * sep.length
  | [] => Nat.zero_le _
  | [x] => by show x.length ≤ x.length + 0 + 1 * sep.length; omega
  | x :: y :: r => by
    have ih := glue_len sep (y :: r)
    show (x ++ sep ++ glue sep (y :: r)).length ≤ x.length + lens (y :: r) + (r.length + 1 + 1) * sep.length
    rw [List.length_append, List.length_append, Nat.succ_mul]
    have : (y :: r).length = r.length + 1 := rfl
    rw [this] at ih
    omega
theorem join_enc (sep : List Char) : ∀ ts : List (List Char), Str.join (enc sep) (ts.map enc) = enc (glue sep ts)
  | [] => rfl
  | [x] => rfl
  | x :: y :: r => by
    show enc x ++ enc sep ++ Str.join (enc sep) ((y :: r).map enc) = enc (x ++ sep ++ glue sep (y :: r))
    rw [join_enc sep (y :: r), enc_append, enc_append]
theorem me_join : MeFact X "join" "str" "str.join" (rMD false X.K (atKd .str (meD .join))) where
  pa := PySem.F.plainAttrs_str
  slot := PySem.F.slot_str_join
  ty := PySem.F.type_str_join
  rule := by
    intro pins s σ H x xs v us Q I rx rs ⟨F, dx, dxs, d, sb, tx, txs, e, q⟩
    unfold atKd at e
    split at e
    case isFalse => cases e
    cases dx <;> first | (rename_i h; cases h; done) | skip
    rename_i sep _
    obtain ⟨rfl, _⟩ := repT_str tx
    have key : ∀ (l : List D) (a : Addr) (vs : List V), xs = [.ref a] → (SqL X.K H a vs ∨ SqT X.K H a vs) → Reps X.K F l vs → joinD sep l = some d → wpAny (model X.prog X.w) X.A (call (.builtin "str.join") (v :: us)) (EP X pins σ Q) X.xe s := by
      rintro l a vs rfl hs ra hj
      unfold joinD at hj
      split at hj
      · rename_i ts ht
        split at hj
        · rename_i hz
          cases hj
          have e2 := texts_reps ht ra
          rw [e2] at hs
          refine mt_join pins s σ H _ _ v us Q I rx rs ⟨_, a, ts.map enc, rfl, rfl, hs, ?_, ?_⟩
          · rw [lens_eq, List.length_map, enc_length]; exact hz
          · rw [TL.join_eq, join_enc]
            exact postSame sb q (.str _ (Nat.le_trans (glue_len _ _) hz))
        · cases hj
      · cases hj
    match dxs, e, txs with
    | [.lst l], e, txs =>
      obtain ⟨w, rfl, rw'⟩ := repTs_1 txs
      obtain ⟨a, vs, rfl, ha, ra, _⟩ := repT_lst sb rw'
      exact key l a vs rfl (.inl (SqL.of ha)) ra e
    | [.tup l], e, txs =>
      obtain ⟨w, rfl, rw'⟩ := repTs_1 txs
      obtain ⟨_, a, vs, rfl, ha, ra, _⟩ := repT_tup rw'
      exact key l a vs rfl (.inr (sb.sqT ha)) ra e
theorem tab_join : MeTab X false "join" (meD .join) := tab_str (.inl rfl) me_join
/-! upper -/
theorem me_upper : MeFact X "upper" "str" "str.upper" (rMD false X.K (atKd .str (meD .upper))) where
  pa := PySem.F.plainAttrs_str
  slot := PySem.F.slot_str_upper
  ty := PySem.F.type_str_upper
  rule := by
    intro pins s σ H x xs v us Q I rx rs ⟨F, dx, dxs, d, sb, tx, txs, e, q⟩
    unfold atKd at e
    split at e
    case isFalse => cases e
    cases dx <;> first | (rename_i h; cases h; done) | skip
    rename_i t _
    obtain ⟨rfl, _⟩ := repT_str tx
    match dxs, e, txs with
    | [], e, txs =>
      obtain rfl := repTs_0 txs
      simp only [meD] at e
      split at e
      · rename_i hz
        cases e
        refine mt_upper pins s σ H _ _ v us Q I rx rs ⟨_, rfl, rfl, by rw [enc_length]; omega, ?_⟩
        have e2 : Txt.upper (enc t) = enc (t.map upC) := by
          have h1 := PyProof.Rows.upper_ascii (x := enc t) (fun c hc => by
            obtain ⟨a, ha, rfl⟩ := List.mem_map.mp (show c ∈ t.map Char.toNat from hc)
            exact of_decide_eq_true (List.all_eq_true.mp hz.2 a ha))
          rw [h1]
          unfold enc
          simp only [List.map_toArray, List.map_map, Str.mk.injEq]
          refine congrArg List.toArray (List.map_congr_left fun a ha => ?_)
          have hlt : a.toNat < 128 := of_decide_eq_true (List.all_eq_true.mp hz.2 a ha)
          show PyProof.Rows.up1 a.toNat = (upC a).toNat
          unfold PyProof.Rows.up1 upC
          split
          · have hv : (a.toNat - 32).isValidChar := .inl (by omega)
            unfold Char.ofNat; rw [dif_pos hv]; rfl
          · rfl
        rw [e2]
        exact postSame sb q (.str _ (by rw [List.length_map]; exact Nat.le_trans hz.1 (by decide)))
      · cases e
theorem tab_upper : MeTab X false "upper" (meD .upper) := tab_str (.inr (.inr (.inr (.inl rfl)))) me_upper

/-! index -/
theorem place_spec {α : Type} {p : α → Bool} : ∀ {l : List α} {n : Nat}, place p l = some n → ∃ h : n < l.length, p l[n] = true ∧ ∀ m (hm : m < l.length), m < n → p l[m] = false
  | [], n, h => by cases h
  | x :: l, n, h => by
    unfold place at h
    split at h
    · cases h
      rename_i hp
      exact ⟨by simp, hp, fun m _ hm => absurd hm (Nat.not_lt_zero _)⟩
    · rename_i hp
      obtain ⟨k, hk, rfl⟩ := Option.map_eq_some_iff.mp h
      obtain ⟨h1, h2, h3⟩ := place_spec hk
      refine ⟨by simpa using h1, h2, fun m hm hmk => ?_⟩
      cases m with
      | zero => simpa using hp
      | succ m => exact h3 m (by simpa using hm) (by omega)
theorem place_enc {s : List Char} {c : Char} {n : Nat} (h : place (· == c) s = some n) : ∃ rest, Builtin.Str.occurrences (enc s) (enc [c]) 0 (enc s).length 1 = n :: rest := by
  obtain ⟨h1, h2, h3⟩ := place_spec h
  have at_ : ∀ i, StrLaws.At (enc s) (enc [c]) (enc s).length i ↔ s[i]? = some c := fun i => by
    show (i + (⟨#[c.toNat]⟩ : Str).length ≤ (enc s).length ∧ _) ↔ _
    rw [enc_one, StrLaws.subAt_one]
    show (s.map Char.toNat)[i]? = _ ↔ _
    rw [List.getElem?_map]
    constructor
    · intro e
      obtain ⟨a, ha, e⟩ := Option.map_eq_some_iff.mp e
      rw [ha, char_inj e]
    · intro e; rw [e]; rfl
  have hn : s[n]? = some c := by rw [List.getElem?_eq_getElem h1]; rw [beq_iff_eq] at h2; rw [h2]
  rcases StrLaws.occ_head (enc s) (enc [c]) 1 (Nat.le_refl 1) with ⟨_, no⟩ | ⟨i, r, e, hi, hk⟩
  · exact absurd ((at_ n).mpr hn) (no n)
  · have e2 : i = n := by
      have hs := (at_ i).mp hi
      have hil : i < s.length := (List.getElem?_eq_some_iff.mp hs).1
      rcases Nat.lt_trichotomy i n with z | z | z
      · have := h3 i hil z
        rw [List.getElem?_eq_getElem hil] at hs
        injection hs with hs
        rw [hs] at this
        simp at this
      · exact z
      · exact absurd ((at_ n).mpr hn) (hk n z)
    subst e2
    exact ⟨r, e⟩
theorem me_indexS : MeFact X "index" "str" "str.index" (rMD false X.K (atKd .str (meD .index))) where
  pa := PySem.F.plainAttrs_str
  slot := PySem.F.slot_str_index
  ty := PySem.F.type_str_index
  rule := by
    intro pins s σ H x xs v us Q I rx rs ⟨F, dx, dxs, d, sb, tx, txs, e, q⟩
    unfold atKd at e
    split at e
    case isFalse => cases e
    cases dx <;> first | (rename_i h; cases h; done) | skip
    rename_i t _
    obtain ⟨rfl, _⟩ := repT_str tx
    match dxs, e, txs with
    | [.str [c]], e, txs =>
      obtain ⟨w, rfl, rw'⟩ := repTs_1 txs
      obtain ⟨rfl, _⟩ := repT_str rw'
      obtain ⟨n, hn, rfl⟩ := Option.map_eq_some_iff.mp (show (place (· == c) t).map (fun n : Nat => D.int n) = some d from e)
      obtain ⟨rest, ho⟩ := place_enc hn
      obtain ⟨tk, rfl⟩ := rx
      cases rs with
      | cons r1 r2 =>
        cases r2
        obtain ⟨tk2, rfl⟩ := r1
        exact PySem.SC.index ho ⟨.int (n : Nat), H, I.tok _, ⟨_, rfl⟩, postSame sb q (.int _)⟩
theorem dataPlace_of {x : D} (hx : x.plain = true) : ∀ {l : List D} {n : Nat}, D.plains l = true → place (fun y => y.eqv x) l = some n → dataPlace (toPys l) (toPy x) = some n
  | [], n, _, h => by cases h
  | y :: l, n, hl, h => by
    simp only [D.plains, Bool.and_eq_true] at hl
    unfold place at h
    show List.findIdx? (fun z => PyData.eqv z (toPy x)) (toPy y :: toPys l) = some n
    rw [List.findIdx?_cons, eqv_py _ _ hl.1 hx]
    split at h
    · rename_i hp; cases h; rw [if_pos hp]
    · rename_i hp
      obtain ⟨k, hk, rfl⟩ := Option.map_eq_some_iff.mp h
      rw [if_neg hp]
      have := dataPlace_of hx hl.2 hk
      unfold dataPlace at this
      rw [this]; rfl
theorem flats_of {l : List D} (h : l.all D.flat = true) : D.plains l = true := flats_plain fun y hy => List.all_eq_true.mp h y hy
theorem toPys_get {l : List D} {n : Nat} (h : n < l.length) : (toPys l)[n]? = some (toPy l[n]) := by
  induction l generalizing n with
  | nil => exact absurd h (by simp)
  | cons a l ih =>
    cases n with
    | zero => rfl
    | succ n => exact ih (by simpa using h)
theorem toPys_len : ∀ l : List D, (toPys l).length = l.length
  | [] => rfl
  | _ :: l => congrArg (· + 1) (toPys_len l)
theorem flats_shaped {l : List D} (h : l.all D.flat = true) : SeqAt.shaped (.list (toPys l)) = true := by
  unfold SeqAt.shaped
  have h1 : (PyData.list (toPys l)).canLay0 = true := plains_lay _ (flats_of h)
  have h2 : (PyData.list (toPys l)).depth ≤ 64 := by
    show PyData.depthAll (toPys l) + 1 ≤ 64
    rw [flats_depth fun y hy => List.all_eq_true.mp h y hy]; omega
  rw [h1, Bool.true_and]
  exact decide_eq_true h2
theorem me_indexL {k : Nat} (hr : Room k X.A) : MeFact X "index" "list" "list.index" (rMD false X.K (atKd .lst (meD .index))) where
  pa := PySem.F.plainAttrs_list
  slot := PySem.F.slot_list_index
  ty := PySem.F.type_list_index
  rule := by
    intro pins s σ H x xs v us Q I rx rs ⟨F, dx, dxs, d, sb, tx, txs, e, q⟩
    unfold atKd at e
    split at e
    case isFalse => cases e
    cases dx <;> first | (rename_i h; cases h; done) | skip
    rename_i l _
    match dxs, e, txs with
    | [y], e, txs =>
      obtain ⟨w, rfl, rw'⟩ := repTs_1 txs
      simp only [meD] at e
      split at e
      · rename_i hf
        rw [Bool.and_eq_true] at hf
        obtain ⟨n, hn, rfl⟩ := Option.map_eq_some_iff.mp e
        have hp := flats_of hf.2
        have hy := flat_plain hf.1
        have dl := tx.dp sb (show (D.lst l).plain = true from hp)
        obtain ⟨a, vs, rfl, ha, ra, _⟩ := repT_lst sb tx
        obtain ⟨h1, h2, h3⟩ := place_spec hn
        refine mt_indexD (by have := hr.un; omega) pins s σ H _ _ v us Q I rx rs ⟨a, w, toPy y, toPys l, n, toPy l[n], rfl, rfl, dl, rw'.dp sb hy, flats_shaped hf.2, shaped_of (flat_shal hf.1), toPys_get h1, ?_, fun m z' hm hz => ?_, postSame sb q (.int _)⟩
        · rw [eqv_py _ _ (mem_plains hp (List.getElem_mem h1)) hy]; exact h2
        · have hml : m < l.length := by omega
          rw [toPys_get hml] at hz
          cases hz
          rw [eqv_py _ _ (mem_plains hp (List.getElem_mem hml)) hy]
          exact h3 m hml hm
      · cases e
theorem tab_index {k : Nat} (hr : Room k X.A) : MeTab X false "index" (meD .index) where
  str := .inl ⟨_, me_indexS⟩
  lst := .inl ⟨_, me_indexL hr⟩
  dic := fun x xs hk => by cases x <;> first | (cases hk; done) | rfl
  tup := fun x xs hk => by cases x <;> first | (cases hk; done) | rfl
  oth := fun x xs hk => by cases x <;> first | (cases hk; done) | rfl
/-! ### methods that change a list -/
theorem reps_1 {x : D} {vs : List V} (r : Reps K F [x] vs) : ∃ v, vs = [v] ∧ Rep K F x v := by
  cases r with | cons a b => cases b; exact ⟨_, rfl, a⟩
theorem reps_0 {vs : List V} (r : Reps K F [] vs) : vs = [] := by cases r; rfl
theorem mu_append : MeFact X "append" "list" "list.append" (rMuD X.K .append) where
  pa := PySem.F.plainAttrs_list
  slot := PySem.F.slot_list_append
  ty := PySem.F.type_list_append
  rule := by
    intro pins s σ H x xs v us Q I rx rs ⟨F, a, ds, ws, ys, y, es, ex, ha, Fa, sb, hl, ra, txs, e, q⟩
    subst ex
    match ys, e, txs with
    | [z], e, txs =>
      obtain ⟨w, rfl, rz⟩ := reps_1 txs
      simp only [muD] at e
      split at e
      · rename_i hz
        cases e
        exact mt_append pins s σ H _ _ v us Q I rx rs ⟨a, ws, w, rfl, rfl, ha, by rw [← ra.length, sizeLine_eq]; exact hz, q _ _ (ra.append (.cons rz .nil)) (by rw [List.length_append]; exact hz) .non⟩
      · cases e
theorem mu_extend : MeFact X "extend" "list" "list.extend" (rMuD X.K .extend) where
  pa := PySem.F.plainAttrs_list
  slot := PySem.F.slot_list_extend
  ty := PySem.F.type_list_extend
  rule := by
    intro pins s σ H x xs v us Q I rx rs ⟨F, a, ds, ws, ys, y, es, ex, ha, Fa, sb, hl, ra, txs, e, q⟩
    subst ex
    match ys, e, txs with
    | [.lst l], e, txs =>
      obtain ⟨w, rfl, rz⟩ := repTs_1 (show RepTs X.K F H [.lst l] xs from txs)
      obtain ⟨b, vs, rfl, hb, rb, _⟩ := repT_lst sb rz
      simp only [muD] at e
      split at e
      · rename_i hz
        cases e
        exact mt_extend pins s σ H _ _ v us Q I rx rs ⟨a, b, ws, vs, rfl, rfl, ha, hb, by rw [← ra.length, ← rb.length]; exact big_ge hz, q _ _ (ra.append rb) (by rw [List.length_append]; exact hz) .non⟩
      · cases e
theorem mu_pop : MeFact X "pop" "list" "list.pop" (rMuD X.K .pop) where
  pa := PySem.F.plainAttrs_list
  slot := PySem.F.slot_list_pop
  ty := PySem.F.type_list_pop
  rule := by
    intro pins s σ H x xs v us Q I rx rs ⟨F, a, ds, ws, ys, y, es, ex, ha, Fa, sb, hl, ra, txs, e, q⟩
    subst ex
    match ys, e, txs with
    | [], e, txs =>
      obtain rfl := reps_0 (show Reps X.K F [] xs from txs)
      simp only [muD] at e
      split at e
      · rename_i z hz
        cases e
        rw [List.getLast?_eq_getElem?] at hz
        obtain ⟨w, hw, rw'⟩ := ra.get hz
        rw [ra.length] at hw
        refine mt_pop pins s σ H _ _ v us Q I rx rs ⟨a, ws, w, rfl, rfl, ha, hw, q _ _ ra.dropLast ?_ rw'⟩
        rw [List.length_dropLast]; omega
      · cases e
theorem mu_popAt : MeFact X "pop" "list" "list.pop" (rMuD X.K .popAt) where
  pa := PySem.F.plainAttrs_list
  slot := PySem.F.slot_list_pop
  ty := PySem.F.type_list_pop
  rule := by
    intro pins s σ H x xs v us Q I rx rs ⟨F, a, ds, ws, ys, y, es, ex, ha, Fa, sb, hl, ra, txs, e, q⟩
    subst ex
    match ys, e, txs with
    | [.int i], e, txs =>
      obtain ⟨w, rfl, rz⟩ := reps_1 (show Reps X.K F [.int i] xs from txs)
      cases rz
      simp only [muD] at e
      split at e
      · rename_i hi
        split at e
        · rename_i z hz
          cases e
          obtain ⟨w, hw, rw'⟩ := ra.get hz
          have hlt := (List.getElem?_eq_some_iff.mp hw).1
          refine mt_popAt pins s σ H _ _ v us Q I rx rs ⟨a, ws, i, i.toNat, w, rfl, rfl, ha, by have := hi.1; omega, by have := hi.2; omega, ?_, hw, q _ _ (ra.eraseIdx _) ?_ rw'⟩
          · exact seqIndex_of hi.1 (by have := hi.1; omega)
          · exact Nat.le_trans (List.length_eraseIdx_le ..) hl
        · cases e
      · cases e
theorem mu_remove {k : Nat} (hr : Room k X.A) : MeFact X "remove" "list" "list.remove" (rMuD X.K .remove) where
  pa := PySem.F.plainAttrs_list
  slot := PySem.F.slot_list_remove
  ty := PySem.F.type_list_remove
  rule := by
    intro pins s σ H x xs v us Q I rx rs ⟨F, a, ds, ws, ys, y, es, ex, ha, Fa, sb, hl, ra, txs, e, q⟩
    subst ex
    match ys, e, txs with
    | [z], e, txs =>
      obtain ⟨w, rfl, rz⟩ := reps_1 txs
      simp only [muD] at e
      split at e
      · rename_i hf
        rw [Bool.and_eq_true] at hf
        obtain ⟨n, hn, ee⟩ := Option.map_eq_some_iff.mp e
        cases ee
        have hp := flats_of hf.2
        have hy := flat_plain hf.1
        cases rx
        obtain ⟨u, rfl, ru⟩ := rs.one
        obtain ⟨its, nn, rv, ho, hz⟩ := I.lst ha
        obtain ⟨bs, rd⟩ := readsL I sb ra rv hp
        obtain ⟨cs, rx2⟩ := Dp.reads I _ w u (rz.dp sb hy) ru
        obtain ⟨h1, _, _⟩ := place_spec hn
        refine remove_list_data (vs := its.toArray) ⟨_, ho, rfl, nn, rfl⟩ (by rw [List.toList_toArray]; exact rd) rx2 (PyData.plainAll_of_canLay0 _ (plains_lay _ hp)) (PyData.plain_of_canLay0 _ (plain_lay _ hy)) ?_ (dataPlace_of hy hp hn) (by rw [List.size_toArray, ← rv.length]; exact hz) ?_
        · have := hr.un
          have h0 : (toPy z).depth = 0 := flat_depth hf.1
          rw [h0]; omega
        · have hlt : n < its.toArray.size := by rw [List.size_toArray, ← rv.length, ← ra.length]; exact h1
          refine ⟨.non, _, I.lset (its' := its.eraseIdx n) (t' := s.toks) ha ho ?_ (rv.eraseIdx n) (Nat.le_trans (List.length_eraseIdx_le ..) hz), rfl, q _ _ (ra.eraseIdx n) (Nat.le_trans (List.length_eraseIdx_le ..) hl) .non⟩
          show its.toArray.eraseIdxIfInBounds n = (its.eraseIdx n).toArray
          rw [List.eraseIdxIfInBounds_toArray]
      · cases e
/-! ### o[i] = v -/
theorem pset_list : PSet X (rSetD X.K) := by
  intro pins s σ H o i v ov iv u Q I ro ri rv ⟨F, a, ds, ws, k, x, es, ex, ha, Fa, sb, hl, ra, rk, rx, e, q⟩
  subst ex
  cases k <;> first | (cases e; done) | skip
  rename_i j
  cases repT_int rk
  simp only [setD] at e
  have fin : ∀ m : Nat, ixN ws.length j = some m → es = ds.set m x → wpAny (model X.prog X.w) X.A (setItem ov iv u) (fun _ s' => ∃ H', L2.Inv X pins σ H' s' ∧ Q H') X.xe s := fun m hm ee => by
    subst ee
    exact set_list pins s σ H _ _ v ov iv u Q I ro ri rv ⟨a, ws, j, m, rfl, rfl, ha, hm, q _ (ra.set rx m) (by rw [List.length_set]; exact hl)⟩
  split at e
  · rename_i h
    cases e
    refine fin j.toNat ?_ rfl
    unfold ixN
    rw [if_pos h.1, if_pos (by rw [← ra.length]; omega)]
  · split at e
    · rename_i h
      cases e
      refine fin (j + ds.length).toNat ?_ rfl
      unfold ixN
      rw [if_neg (by omega), if_pos (by rw [← ra.length]; omega), ra.length]
    · cases e
end
end DL
end P_DL9
section P_DL10
set_option Elab.async false
set_option linter.all false
set_option maxRecDepth 100000
set_option maxHeartbeats 1000000
/-! The forms that a printed proof is made of. -/
namespace DL
open PySem PySem.Spec PyProof.Rows L2
section
variable {X : Cx} {fa fb fc : Sl → Mem → Res Val} {fl fk : Sl → Mem → Res (List Val)} {fd : Sl → Mem → Res (List D)} {a b c e tg iter elt : Expr} {es : List Expr} {pos : Pos} {fr : Bool} {bs : Nat}
def vC (x : D) : Sl → Mem → Res Val := fun _ M => .ok (.d x) M
def vV (i : Nat) : Sl → Mem → Res Val := fun s M => match s[i]? with
  | some (some v) => .ok v M
  | _ => .bad
def tst (f : Sl → Mem → Res Val) : Sl → Mem → Res Bool := fun s M => toB (f s M)
def evNot (fa : Sl → Mem → Res Val) : Sl → Mem → Res Val := fun s M => (toB (fa s M)).bind fun b M1 => .ok (.d (.bl (!b))) M1
def evDNil : Sl → Mem → Res (List D) := fun _ M => .ok [] M
def ifs0 : Sl → Mem → Res Bool := fun _ M => .ok true M
def ifs1 (fT : Sl → Mem → Res Bool) : Sl → Mem → Res Bool := fun s M => (fT s M).bind fun b M1 => if b then .ok true M1 else .ok false M1
theorem p_non {k : Nat} : PE X (.Constant .none k pos) (LE false X.K (vC .non)) := q_still pe_non fun _ => .non
theorem p_bl {x : Bool} {k : Nat} : PE X (.Constant (.bool x) k pos) (LE false X.K (vC (.bl x))) := q_still pe_bl fun _ => .bl x
theorem p_int {x : Int} {k : Nat} : PE X (.Constant (.int x) k pos) (LE false X.K (vC (.int x))) := q_still pe_int fun _ => .int x
theorem p_str {x : Str} {s : List Char} {k : Nat} (h : x = enc s := by decide +kernel) (hl : s.length ≤ 1000 := by decide +kernel) : PE X (.Constant (.str x) k pos) (LE false X.K (vC (.str s))) := by
  subst h
  exact q_still pe_str fun _ => .str s (Nat.le_trans hl (by decide))
/-- a name of the text that is written once -/
structure Cst (K : Fr) (mg : Str → Option Value) (x : Str) (d : D) : Prop where
  ex : ∃ (u : Value) (v : V), mg x = some u ∧ RelV v u ∧ ∀ F, Rep K F d v
theorem p_glob {x : Str} {d : D} (h : Cst X.K X.mg x d) (hg : Gl X x := by rfl) (hd : (x == ("__debug__" : Str)) = false := by decide +kernel) : PE X (.Name x pos) (LE false X.K (vC d)) := by
  obtain ⟨u, v, hm, r, hr⟩ := h.ex
  exact q_still (pe_glob hg hm r hd) hr
theorem p_var (i : Nat) {x : Str} (hN : X.N[i]? = some x := by rfl) (hv : Vis X.env.scope x := by first | exact Or.inl rfl | exact Or.inr (Or.inl rfl) | exact Or.inr (Or.inr rfl)) (hd : (x == ("__debug__" : Str)) = false := by decide +kernel) (hcd : (x == ("__classdict__" : Str)) = false := by decide +kernel) : PE X (.Name x pos) (LE false X.K (vV i)) := q_var hN hv hd hcd
theorem p_not (h : PE X a (LE false X.K fa)) : PE X (.UnaryOp .Not a pos) (LE false X.K (evNot fa)) := q_not h
theorem p_notT (h : PT X a (LT X.K (tst fa))) : PT X (.UnaryOp .Not a pos) (LT X.K (tst (evNot fa))) := q_notT h
theorem p_cmpT {op : CmpOp} {p : D → D → Option D} (ho : OpR X (compareOp op) (r2D false X.K p)) (ha : PE X a (LE false X.K fa)) (hb : PE X b (LE false X.K fb)) (hm : behindInMarks op b = false := by rfl) : PT X (.Compare a [op] [b] pos) (LT X.K (tst (ev2 p fa fb))) := q_cmpT ho ha hb hm
theorem p_cmp3T {op op' : CmpOp} {p q : D → D → Option D} (ho : OpR X (compareOp op) (r2D false X.K p)) (ho' : OpR X (compareOp op') (r2D false X.K q)) (ha : PE X a (LE false X.K fa)) (hb : PE X b (LE false X.K fb)) (hc : PE X c (LE false X.K fc))
    (hm : lastMarks [op, op'] [b, c] = false := by rfl) : PT X (.Compare a [op, op'] [b, c] pos) (LT X.K (tst (ev3 p q fa fb fc))) := q_cmp3T ho ho' ha hb hc hm
theorem p_val (h : PE X e (LE false X.K fa)) (he : ∀ whole, isTrue e X.env whole = (do let v ← whole; standAt e.pos; holding [v] (truthy v)) := by intro _; rfl) : PT X e (LT X.K (tst fa)) := q_val h he
variable {rest : List Expr} {x1 : Expr}
theorem p_last {op} (ha : PT X a (LT X.K (tst fa))) : PW X (.BoolOp op [a] pos) (LT X.K (tst fa)) := q_andW ha
theorem p_andW (ha : PT X a (LT X.K (tst fa))) (hb : PW X (.BoolOp .And (x1 :: rest) pos) (LT X.K (tst fb))) : PW X (.BoolOp .And (a :: x1 :: rest) pos) (LT X.K (tst (evAnd fa fb))) := q_andT ha hb
theorem p_orW (ha : PT X a (LT X.K (tst fa))) (hb : PW X (.BoolOp .Or (x1 :: rest) pos) (LT X.K (tst fb))) : PW X (.BoolOp .Or (a :: x1 :: rest) pos) (LT X.K (tst (evOr fa fb))) := q_orT ha hb
theorem p_bool {op} (h : PW X (.BoolOp op es pos) (LT X.K (tst fa))) : PT X (.BoolOp op es pos) (LT X.K (tst fa)) := PW.pt h
theorem p_ifxT (hc : PT X c (LT X.K (tst fc))) (ha : PT X a (LT X.K (tst fa))) (hb : PT X b (LT X.K (tst fb))) : PT X (.IfExp c a b pos) (LT X.K (tst (evIf (tst fc) fa fb))) := q_ifxT hc ha hb
theorem p_ifx (hc : PT X c (LT X.K (tst fc))) (ha : PE X a (LE fr X.K fa)) (hb : PE X b (LE fr X.K fb)) : PE X (.IfExp c a b pos) (LE fr X.K (evIf (tst fc) fa fb)) := q_ifx hc ha hb
theorem p_nil : PA X [] (LA X.K evNil) := q_nil
theorem p_dnil : PA X [] (LDs X.K evDNil) := q_dnil
theorem p_new (h : PE X e (LE true X.K fa)) : PE X e (LE false X.K (newOf fa)) := PE.newed h
theorem p_frz (h : PE X e (LE true X.K fa)) : PE X e (LE false X.K fa) := PE.frozen h
theorem p_ifs0 : PTs X [] (LT X.K ifs0) := q_ifs0
theorem p_ifs1 (h : PT X e (LT X.K (tst fa))) : PTs X [e] (LT X.K (ifs1 (tst fa))) := q_ifs1 h
/-! calls -/
theorem p_call {n k : Nat} {f : Addr} {fn : FuncData} {x : Str} {st : Stmt} {p : Pos} {ps : List Str} {g : List Val → Mem → Res Val} (hl : ∀ xs M x M', g xs M = .ok x M' → xs.length = n) (F : Fun X.K x x st f fn) (G : FnOk X.prog X.w X.K X.mg X.base CX0 k f fn ps (spF fr X.K n g)) (hr : Room k X.A) (hm : X.mg x = some (.ref f))
    (hb : Binds X.K fn ps []) (ha : PA X (e :: es) (LA X.K fl)) (hg : Gl X x := by rfl) (hp : (e :: es).all plainArg = true := by rfl) (hdb : (x == ("__debug__" : Str)) = false := by decide +kernel) : PE X (.Call (.Name x p) (e :: es) [] pos) (LE fr X.K (evCall g fl)) :=
  q_call hl G hr hg hm F.kp hb ha hp hdb
/-- f(k = v, ..) -/
theorem pe_callN0 {CX : CXT} {k : Nat} {f : Addr} {fn : FuncData} {x : Str} {p : Pos} {ps ks : List Str} {sp : Sp} {E : XK} {kws : List Keyword} {tk : TA} {g : List Value → List Value → List Value} {gV : List V → List V → List V}
    (F : FnOk X.prog X.w X.K X.mg X.base CX k f fn ps sp) (hr : Room k X.A) (hg : Gl X x) (hm : X.mg x = some (.ref f)) (hk : PySem.W.keepIn X.K (.ref f) = true) (hb : KBn X.K fn ps 0 ks g gV) (hx : Passes CX X E) (hkw : PK X kws tk)
    (hall : (backToKw pos (keywordEach kws X.env)).all (·.1.isSome) = true) (hks : (backToKw pos (keywordEach kws X.env)).filterMap (·.1) = ks) (hdb : (x == ("__debug__" : Str)) = false)
    (hpl : ((backTo pos (starEach [] X.env)).any (·.1) || (backToKw pos (keywordEach kws X.env)).any (·.1.isNone)) = false) :
    PE X (.Call (.Name x p) [] kws pos) (tCallN 0 ks.length sp gV E tNil tk) := by
  refine ⟨fun pins s σ H Q I h => ?_⟩
  refine wpAny_Call_Name_kw (ld_glob I hg hm ?_ hdb)
  refine PySem.W.callWith_KW0 (h₀ := X.base) I.ok.mod.kin hk hall ?_ hpl
  refine thn (hkw.run pos pins s σ H _ I h) fun ws s2 ⟨zs, H2, I2, rz, l1, l2, q2⟩ => ⟨I2.kIn, ?_⟩
  rw [hks]
  exact run_fnN (us := []) (vs := []) F hr hb hx I2 .nil rz rfl l2 q2
theorem p_knil : PK X [] (LA X.K evNil) := q_knil
theorem p_kcons {nm : Option Str} {kpos : Pos} {kws : List Keyword} (ha : PE X e (LE false X.K fa)) (hr : PK X kws (LA X.K fl)) : PK X (⟨nm, e, kpos⟩ :: kws) (LA X.K (evCons fa fl)) := q_kcons ha hr
/-- n values by place, then those by name: ord puts them into the parameters' order -/
def evCallN (n m : Nat) (ord : {α : Type} → List α → List α → List α) (g : List Val → Mem → Res Val) (fl fk : Sl → Mem → Res (List Val)) : Sl → Mem → Res Val := fun s M => (fl s M).bind fun vs M1 => (fk s M1).bind fun ws M2 =>
  if vs.length = n ∧ ws.length = m then g (ord vs ws) M2 else .bad
structure OrdOk (ord : {α : Type} → List α → List α → List α) : Prop where
  rel : ∀ {α β : Type} {R : α → β → Prop} {us us2 : List α} {ws ws2 : List β}, Paired R us ws → Paired R us2 ws2 → Paired R (ord us us2) (ord ws ws2)
theorem liftN2 {K : Fr} {n m np : Nat} {ord : {α : Type} → List α → List α → List α} (ok : OrdOk ord) {g : List Val → Mem → Res Val} (hl : ∀ xs M x M', g xs M = .ok x M' → xs.length = np) {σ : L2.St} {H : Hp} {Q : VK} (h : LE fr K (evCallN n m ord g fl fk) σ H Q) :
    tCallN n m (spF fr K np g) (fun us ws => ord us ws) E0 (LA K fl) (LA K fk) σ H Q := by
  obtain ⟨δ, M, F, μ, x, M', S, R, e0, k⟩ := h
  obtain ⟨vs, M1, e1, e0⟩ := bind_ok e0
  obtain ⟨ws, M2', e2, e0⟩ := bind_ok e0
  refine ⟨δ, M, F, μ, vs, M1, S, R, e1, fun F1 μ1 H1 v1 st1 S1 r1 => ⟨δ, M1, F1, μ1, ws, M2', S1, R.mono st1.fr st1.whole, e2, fun F2 μ2 H2 v2 st2 S2 r2 => ?_⟩⟩
  split at e0
  · rename_i hh
    have rr : RepVs K F2 μ2 (ord vs ws) (ord v1 v2) := RepVs.of (ok.rel (r1.mono st2.fr st2.whole).paired r2.paired)
    exact ⟨by rw [← r1.length]; exact hh.1, by rw [← r2.length]; exact hh.2, by rw [← rr.length, hl _ _ _ _ e0], _, M2', F2, μ2, x, M', S2, rr, e0, fun F' μ' H' v st S' p => k F' μ' H' v (st1.transE (st2.transE st)) S' (p.back fun a h => st1.up a (st2.up a h))⟩
  · cases e0
theorem p_callN {np k n mk : Nat} {f : Addr} {fn : FuncData} {x : Str} {st : Stmt} {p : Pos} {ps kn : List Str} {kws : List Keyword} {ord : {α : Type} → List α → List α → List α} {g : List Val → Mem → Res Val} (hl : ∀ xs M x M', g xs M = .ok x M' → xs.length = np) (F : Fun X.K x x st f fn)
    (G : FnOk X.prog X.w X.K X.mg X.base CX0 k f fn ps (spF fr X.K np g)) (hr : Room k X.A) (hm : X.mg x = some (.ref f)) (ok : OrdOk ord)
    (hb : KBn X.K fn ps n kn (fun us ws => ord us ws) (fun us ws => ord us ws)) (ha : PA X (e :: es) (LA X.K fl)) (hkw : PK X kws (LA X.K fk)) (hg : Gl X x := by rfl) (hall : (backToKw pos (keywordEach kws X.env)).all (·.1.isSome) = true := by rfl) (hks : (backToKw pos (keywordEach kws X.env)).filterMap (·.1) = kn := by rfl)
    (hdb : (x == ("__debug__" : Str)) = false := by decide +kernel) (hp : (e :: es).all plainArg = true := by rfl) (hany : (backToKw pos (keywordEach kws X.env)).any (·.1.isNone) = false := by rfl) (hmk : kn.length = mk := by rfl) :
    PE X (.Call (.Name x p) (e :: es) kws pos) (LE fr X.K (evCallN n mk ord g fl fk)) := by
  subst hmk
  have hp' := hp
  rw [List.all_cons, Bool.and_eq_true] at hp
  exact (pe_callN G hr hg hm F.kp hb pass0 ha hkw hall hks hdb (star_plain hp.1 es X.env) (by rw [star_any hp', hany]; rfl)).imp fun σ H Q h => liftN2 ok hl h
theorem liftN0 {K : Fr} {m np : Nat} {ord : {α : Type} → List α → List α → List α} (ok : OrdOk ord) {g : List Val → Mem → Res Val} (hl : ∀ xs M x M', g xs M = .ok x M' → xs.length = np) {σ : L2.St} {H : Hp} {Q : VK} (h : LE fr K (evCallN 0 m ord g evNil fk) σ H Q) :
    tCallN 0 m (spF fr K np g) (fun us ws => ord us ws) E0 tNil (LA K fk) σ H Q := by
  have z := liftN2 ok hl h
  obtain ⟨δ, M, F, μ, x, M', S, R, e0, k⟩ := z
  cases e0
  exact k F μ H [] (Step.refl _ _ _ _) S .nil
theorem p_callN0 {np k mk : Nat} {f : Addr} {fn : FuncData} {x : Str} {st : Stmt} {p : Pos} {ps kn : List Str} {kws : List Keyword} {ord : {α : Type} → List α → List α → List α} {g : List Val → Mem → Res Val} (hl : ∀ xs M x M', g xs M = .ok x M' → xs.length = np) (F : Fun X.K x x st f fn)
    (G : FnOk X.prog X.w X.K X.mg X.base CX0 k f fn ps (spF fr X.K np g)) (hr : Room k X.A) (hm : X.mg x = some (.ref f)) (ok : OrdOk ord)
    (hb : KBn X.K fn ps 0 kn (fun us ws => ord us ws) (fun us ws => ord us ws)) (hkw : PK X kws (LA X.K fk)) (hg : Gl X x := by rfl) (hall : (backToKw pos (keywordEach kws X.env)).all (·.1.isSome) = true := by rfl) (hks : (backToKw pos (keywordEach kws X.env)).filterMap (·.1) = kn := by rfl)
    (hdb : (x == ("__debug__" : Str)) = false := by decide +kernel) (hpl : ((backTo pos (starEach [] X.env)).any (·.1) || (backToKw pos (keywordEach kws X.env)).any (·.1.isNone)) = false := by rfl) (hmk : kn.length = mk := by rfl) :
    PE X (.Call (.Name x p) [] kws pos) (LE fr X.K (evCallN 0 mk ord g evNil fk)) := by
  subst hmk
  exact (pe_callN0 G hr hg hm F.kp hb pass0 hkw hall hks hdb hpl).imp fun σ H Q h => liftN0 ok hl h
/-! statements -/
def sEx (fa : Sl → Mem → Res Val) : Sl → Mem → Res Flow := fun s M => (fa s M).bind fun _ M1 => .ok (.nx s) M1
def sRet (fa : Sl → Mem → Res Val) : Sl → Mem → Res Flow := fun s M => (fa s M).bind fun v M1 => .ok (.ret v) M1
def sRetN : Sl → Mem → Res Flow := fun _ M => .ok (.ret (.d .non)) M
def sPass : Sl → Mem → Res Flow := fun s M => .ok (.nx s) M
def sBrk : Sl → Mem → Res Flow := fun s M => .ok (.brk s) M
def sCont : Sl → Mem → Res Flow := fun s M => .ok (.cont s) M
def sNever : Sl → Mem → Res Flow := fun _ _ => .bad
def sWhile (fT : Sl → Mem → Res Bool) (f : Sl → Mem → Res Flow) : Sl → Mem → Res Flow := fun s M => whileLoop fT f turns s M
theorem p_ex (he : PE X e (LE false X.K fa)) (hs : swapsWith e none pos.line X.env = pure false := by rfl) : PS X (.Expr e pos) (LS bs X.K (sEx fa)) := q_ex he hs
theorem p_ret (he : PE X e (LE false X.K fa)) : PS X (.Return (some e) pos) (LS bs X.K (sRet fa)) := q_ret he
theorem p_retN : PS X (.Return none pos) (LS bs X.K sRetN) := q_retN
theorem p_pass : PS X (.Pass pos) (LS bs X.K sPass) := q_pass
theorem p_brk : PS X (.Break pos) (LS bs X.K sBrk) := q_brk
theorem p_cont : PS X (.Continue pos) (LS bs X.K sCont) := q_cont
theorem p_never {st : Stmt} : PS X st (LS bs X.K sNever) := q_never
theorem p_ite {f g : Sl → Mem → Res Flow} {s1 s2 : List Stmt} (hc : PT X c (LT X.K (tst fc))) (h1 : PSs X s1 (LS bs X.K f)) (h2 : PSs X s2 (LS bs X.K g)) : PS X (.If c s1 s2 pos) (LS bs X.K (evIte (tst fc) f g)) := q_ite hc h1 h2
theorem p_snil : PSs X [] (LS bs X.K sPass) := q_snil
theorem p_while {body : List Stmt} {f : Sl → Mem → Res Flow} (hc : PT X c (LT X.K (tst fc))) (hb : PSs X body (LS bs X.K f)) (hx : X.xe = fun _ _ => False := by rfl) : PS X (.While c body [] pos) (LS bs X.K (sWhile (tst fc) f)) := q_while hx hc hb
theorem p_setLc {i : Nat} {y : Str} {py : Pos} {spos : Pos} {scope : Scope} {own : List (Str × Nat)} {ifs : List Expr} {o : List Nat} {t : Tg} {fI : Sl → Mem → Res (List D)} {fifs : Sl → Mem → Res Bool} (ho : ∀ i ∈ o, i ∈ own.map (·.2)) (hN : X.N.Nodup) (hi : PI X tg iter (LI X.K fI)) (ok : BlkOk X.N X.env.scope scope own)
    (hg : ∀ (s : Shared) (H : Hp) (C : Addr) (cl : List (Str × Addr)) (fp : List Addr), PG (X.blk s H scope (compEnvC scope cl C X.env) fp) tg (LG X.K t o)) (ht : ∀ (s : Shared) (H : Hp) (C : Addr) (cl : List (Str × Addr)) (fp : List Addr), PTs (X.blk s H scope (compEnvC scope cl C X.env) fp) ifs (LT X.K fifs))
    (he : ∀ (s : Shared) (H : Hp) (C : Addr) (cl : List (Str × Addr)) (fp : List Addr), PE (X.blk s H scope (compEnvC scope cl C X.env) fp) elt (LE false X.K fa)) (hy : X.N[i]? = some y := by rfl) (hyl : X.env.scope.names.lookup y = some .local := by rfl)
    (hsw : swapsWith (.ListComp elt [⟨tg, iter, ifs, 0⟩] scope pos) (some (.Name y py)) spos.line X.env = pure true := by rfl) (hc : X.calm = true := by rfl) (hs : ∀ x, foldedSetIterable iter X.env x = pure x := by intro _; rfl) :
    PS X (.Assign [.Name y py] (.ListComp elt [⟨tg, iter, ifs, 0⟩] scope pos) spos) (LS bs X.K (evAsg (evLc (own.map (·.2)) t fI fifs fa) (stN i))) := (q_setLc ho hc hN hy hyl hsw hi ok hg ht he hs).1
theorem p_setLcN {i : Nat} {y : Str} {py : Pos} {spos : Pos} {scope : Scope} {own : List (Str × Nat)} {ifs : List Expr} {o : List Nat} {t : Tg} {fI : Sl → Mem → Res (List D)} {fifs : Sl → Mem → Res Bool} (ho : ∀ i ∈ o, i ∈ own.map (·.2)) (hN : X.N.Nodup) (hi : PI X tg iter (LI X.K fI)) (ok : BlkOk X.N X.env.scope scope own)
    (hg : ∀ (s : Shared) (H : Hp) (C : Addr) (cl : List (Str × Addr)) (fp : List Addr), PG (X.blk s H scope (compEnvC scope cl C X.env) fp) tg (LG X.K t o)) (ht : ∀ (s : Shared) (H : Hp) (C : Addr) (cl : List (Str × Addr)) (fp : List Addr), PTs (X.blk s H scope (compEnvC scope cl C X.env) fp) ifs (LT X.K fifs))
    (he : ∀ (s : Shared) (H : Hp) (C : Addr) (cl : List (Str × Addr)) (fp : List Addr), PE (X.blk s H scope (compEnvC scope cl C X.env) fp) elt (LE false X.K fa)) (hy : X.N[i]? = some y := by rfl) (hyl : X.env.scope.names.lookup y = some .local := by rfl)
    (hsw : swapsWith (.ListComp elt [⟨tg, iter, ifs, 0⟩] scope pos) (some (.Name y py)) spos.line X.env = pure true := by rfl) (hc : X.calm = true := by rfl) (hs : ∀ x, foldedSetIterable iter X.env x = pure x := by intro _; rfl) :
    PS X (.Assign [.Name y py] (.ListComp elt [⟨tg, iter, ifs, 0⟩] scope pos) spos) (LS bs X.K (evAsg (newOf (evLc (own.map (·.2)) t fI fifs fa)) (stN i))) := (q_setLc ho hc hN hy hyl hsw hi ok hg ht he hs).2
/-! more, with what is shown by computing left to the end -/
theorem p_bin {op : Operator} {p : D → D → Option D} (ho : OpR X (binaryOp op) (r2D fr X.K p)) (ha : PE X a (LE false X.K fa)) (hb : PE X b (LE false X.K fb)) : PE X (.BinOp a op b pos) (LE fr X.K (ev2 p fa fb)) := q_bin ho ha hb
theorem p_neg (ha : PE X a (LE false X.K fa)) : PE X (.UnaryOp .USub a pos) (LE false X.K (ev1 negD fa)) := q_un ob_neg ha
theorem p_cmp {op : CmpOp} {p : D → D → Option D} (ho : OpR X (compareOp op) (r2D false X.K p)) (ha : PE X a (LE false X.K fa)) (hb : PE X b (LE false X.K fb)) (hm : behindInMarks op b = false := by rfl) : PE X (.Compare a [op] [b] pos) (LE false X.K (ev2 p fa fb)) := q_cmp ho ha hb hm
theorem p_cmp3 {op op' : CmpOp} {p q : D → D → Option D} (ho : OpR X (compareOp op) (r2D false X.K p)) (ho' : OpR X (compareOp op') (r2D false X.K q)) (ha : PE X a (LE false X.K fa)) (hb : PE X b (LE false X.K fb)) (hc : PE X c (LE false X.K fc))
    (hm : lastMarks [op, op'] [b, c] = false := by rfl) : PE X (.Compare a [op, op'] [b, c] pos) (LE false X.K (ev3 p q fa fb fc)) := q_cmp3 ho ho' ha hb hc hm
theorem p_and (ha : PE X a (LE false X.K fa)) (hb : PE X (.BoolOp .And (x1 :: rest) pos) (LE false X.K fb)) : PE X (.BoolOp .And (a :: x1 :: rest) pos) (LE false X.K (evAnd fa fb)) := q_and ha hb
theorem p_or (ha : PE X a (LE false X.K fa)) (hb : PE X (.BoolOp .Or (x1 :: rest) pos) (LE false X.K fb)) : PE X (.BoolOp .Or (a :: x1 :: rest) pos) (LE false X.K (evOr fa fb)) := q_or ha hb
theorem p_one {op} (ha : PE X a (LE false X.K fa)) : PE X (.BoolOp op [a] pos) (LE false X.K fa) := q_boolop1 ha
theorem p_cons (ha : PE X e (LE false X.K fa)) (hr : PA X es (LA X.K fl)) (hp : plainArg e = true := by rfl) : PA X (e :: es) (LA X.K (evCons fa fl)) := q_cons hp ha hr
theorem p_dcons (ha : PE X e (LE false X.K fa)) (hr : PA X es (LDs X.K fd)) (hp : plainArg e = true := by rfl) : PA X (e :: es) (LDs X.K (evConsD fa fd)) := q_dcons hp ha hr
theorem p_tup {k : Nat} (h : PA X es (LDs X.K fd)) : PE X (.Tuple es k pos) (LE false X.K (evTup fd)) := q_tup h
theorem p_lst (h : PA X es (LDs X.K fd)) : PE X (.List es pos) (LE true X.K (evLst fd)) := q_lst h
theorem p_callB {id : String} {x : Str} {pn : Pos} {p : List D → Option D} (hc : CallR X (.builtin id) (rLD fr X.K p)) (hm : X.mg x = none) (hv : bootBuiltins x = some (.builtin id)) (ha : PA X (e :: es) (LA X.K fl)) (hg : Gl X x := by rfl) (hpl : (e :: es).all plainArg = true := by rfl)
    (hn : x ≠ "__name__" := by decide +kernel) (hdb : (x == ("__debug__" : Str)) = false := by decide +kernel) : PE X (.Call (.Name x pn) (e :: es) [] pos) (LE fr X.K (evB p fl)) := q_callB hc hg hm hv ha hpl hn hdb
theorem p_callTy {T : String} {x : Str} {pn : Pos} {p : List D → Option D} (hc : CallR X (.type T) (rLD fr X.K p)) (hm : X.mg x = none) (hv : bootBuiltins x = some (.type T)) (ha : PA X (e :: es) (LA X.K fl)) (hg : Gl X x := by rfl) (hpl : (e :: es).all plainArg = true := by rfl)
    (hn : x ≠ "__name__" := by decide +kernel) (hdb : (x == ("__debug__" : Str)) = false := by decide +kernel) : PE X (.Call (.Name x pn) (e :: es) [] pos) (LE fr X.K (evB p fl)) := q_callTy hc hg hm hv ha hpl hn hdb
theorem p_isi (t : Ty) {T : Str} {pn pt : Pos} (hm : X.mg "isinstance" = none) (hmT : X.mg T = none) (hvT : bootBuiltins T = some (.type (tyName t))) (he : PE X e (LE false X.K fa)) (hg : Gl X "isinstance" := by rfl) (hgT : Gl X T := by rfl)
    (hp : plainArg e = true := by rfl) (hnT : T ≠ "__name__" := by decide +kernel) (hdT : (T == ("__debug__" : Str)) = false := by decide +kernel) : PE X (.Call (.Name "isinstance" pn) [e, .Name T pt] [] pos) (LE false X.K (ev1 (isiD t) fa)) := q_isi hg hm hgT hmT hvT hnT hdT he hp
theorem p_me {name : Str} {o : Expr} {apos : Pos} {p : D → List D → Option D} (tb : MeTab X fr name p) (ho : PE X o (LE false X.K fa)) (ha : PA X es (LA X.K fl)) (hb : notBare o = true := by rfl) (hpl : es.all plainArg = true := by rfl) (hl : es.length < 30 := by decide) (hline : (apos.endLine == pos.line) = true := by rfl) :
    PE X (.Call (.Attribute o name apos) es [] pos) (LE fr X.K (evM p fa fl)) := q_me tb ho ha hb hpl hl hline
theorem p_mu {name x : Str} (i : Nat) {id : String} {xpos apos : Pos} {m : Mu} (mf : MeFact X name "list" id (rMuD X.K m)) (ha : PA X es (LA X.K fl)) (hN : X.N[i]? = some x := by rfl) (hv : Vis X.env.scope x := by first | exact Or.inl rfl | exact Or.inr (Or.inl rfl) | exact Or.inr (Or.inr rfl)) (hd : (x == ("__debug__" : Str)) = false := by decide +kernel) (hcd : (x == ("__classdict__" : Str)) = false := by decide +kernel)
    (hpl : es.all plainArg = true := by rfl) (hl : es.length < 30 := by decide) (hline : (apos.endLine == pos.line) = true := by rfl) :
    PE X (.Call (.Attribute (.Name x xpos) name apos) es [] pos) (LE false X.K (evMu m i fl)) := q_mu mf hN hv hd hcd ha hpl hl hline
theorem p_sub (ha : PE X a (LE false X.K fa)) (hb : PE X b (LE false X.K fb)) (hs : isSlice b = false := by rfl) : PE X (.Subscript a b pos) (LE false X.K (ev2 subD fa fb)) := q_sub ob_sub_ix ha hb hs
theorem p_slL {p2 : Pos} (ha : PE X a (LE false X.K fa)) (hb : PE X b (LE false X.K fb)) : PE X (.Subscript a (.Slice (some b) none none p2) pos) (LE false X.K (ev2 (fun x y => sliceD x (some y) none) fa fb)) := q_slL sb_slice ha hb
theorem p_slH {p2 : Pos} (ha : PE X a (LE false X.K fa)) (hb : PE X b (LE false X.K fb)) : PE X (.Subscript a (.Slice none (some b) none p2) pos) (LE false X.K (ev2 (fun x y => sliceD x none (some y)) fa fb)) := q_slH sb_slice ha hb
theorem p_slLH {p2 : Pos} (ha : PE X a (LE false X.K fa)) (hb : PE X b (LE false X.K fb)) (hc : PE X c (LE false X.K fc)) : PE X (.Subscript a (.Slice (some b) (some c) none p2) pos) (LE false X.K (evSl fa fb fc)) := q_slLH sb_slice ha hb hc
/-! walks, targets -/
theorem p_it (he : PE X e (LE false X.K fa)) : PI X tg e (LI X.K (evIt fa)) := q_it he
theorem p_rng1 {p : Pos} (hm : X.mg "range" = none) (ha : PE X a (LE false X.K fa)) (hg : Gl X "range" := by rfl) (hp : plainArg a = true := by rfl) : PI X tg (.Call (.Name "range" p) [a] [] pos) (LI X.K (evRng (evCons fa evNil))) := q_rng1 hg hm ha hp
theorem p_rng2 {p : Pos} (hm : X.mg "range" = none) (ha : PE X a (LE false X.K fa)) (hb : PE X b (LE false X.K fb)) (hg : Gl X "range" := by rfl) (hp : plainArg a = true := by rfl) (hp2 : plainArg b = true := by rfl) : PI X tg (.Call (.Name "range" p) [a, b] [] pos) (LI X.K (evRng (evCons fa (evCons fb evNil)))) := q_rng2 hg hm ha hb hp hp2
theorem p_tgn (i : Nat) {x : Str} (hN : X.N.Nodup) (hi : X.N[i]? = some x := by rfl) (hx : Loc X.env.scope x := by first | exact Or.inl rfl | exact Or.inr rfl) (hf : X.fn x = true ∨ X.env.scope.names.lookup x = some .local := by first | exact .inl rfl | exact .inr rfl) : PG X (.Name x pos) (LG X.K (.n i) [i]) := q_tgn hN hi hx hf
theorem p_tgnil : PGs X [] (LGs X.K [] []) := q_tgsnil
theorem p_tgcons {t : Tg} {ts : List Tg} {o1 o2 : List Nat} (h1 : PG X e (LG X.K t o1)) (h2 : PGs X es (LGs X.K ts o2)) (hp : plainArg e = true := by rfl) : PGs X (e :: es) (LGs X.K (t :: ts) (o1 ++ o2)) := q_tgscons h1 h2 hp
theorem p_tgt {ts : List Tg} {o : List Nat} {kk : Nat} (h : PGs X es (LGs X.K ts o)) (hc : X.calm = true := by rfl) (hp : es.all plainArg = true := by rfl) (hl : es.length = ts.length := by rfl) : PG X (.Tuple es kk pos) (LG X.K (.t ts) o) := q_tgt hc h hp hl
theorem p_lc {scope : Scope} {own : List (Str × Nat)} {ifs : List Expr} {o : List Nat} {t : Tg} {fI : Sl → Mem → Res (List D)} {fifs : Sl → Mem → Res Bool} (ho : ∀ i ∈ o, i ∈ own.map (·.2)) (hN : X.N.Nodup) (hi : PI X tg iter (LI X.K fI)) (ok : BlkOk X.N X.env.scope scope own)
    (hg : ∀ (s : Shared) (H : Hp) (C : Addr) (cl : List (Str × Addr)) (fp : List Addr), PG (X.blk s H scope (compEnvC scope cl C X.env) fp) tg (LG X.K t o)) (ht : ∀ (s : Shared) (H : Hp) (C : Addr) (cl : List (Str × Addr)) (fp : List Addr), PTs (X.blk s H scope (compEnvC scope cl C X.env) fp) ifs (LT X.K fifs))
    (he : ∀ (s : Shared) (H : Hp) (C : Addr) (cl : List (Str × Addr)) (fp : List Addr), PE (X.blk s H scope (compEnvC scope cl C X.env) fp) elt (LE false X.K fa)) (hc : X.calm = true := by rfl) (hs : ∀ x, foldedSetIterable iter X.env x = pure x := by intro _; rfl) :
    PE X (.ListComp elt [⟨tg, iter, ifs, 0⟩] scope pos) (LE true X.K (evLc (own.map (·.2)) t fI fifs fa)) := q_lc ho hc hN hi ok hg ht he hs
/-! stores -/
theorem p_asgn (i : Nat) {y : Str} {py : Pos} (hN : X.N.Nodup) (he : PE X e (LE false X.K fa)) (hi : X.N[i]? = some y := by rfl) (hx : Loc X.env.scope y := by first | exact Or.inl rfl | exact Or.inr rfl) (hs : swapsWith e (some (.Name y py)) pos.line X.env = pure false := by rfl) (hf : X.fn y = true ∨ X.env.scope.names.lookup y = some .local := by first | exact .inl rfl | exact .inr rfl) :
    PS X (.Assign [.Name y py] e pos) (LS bs X.K (evAsg fa (stN i))) := q_asgn hN hi hx he hs hf
theorem p_mv (j i : Nat) {x y : Str} {px py : Pos} (hN : X.N.Nodup) (hj : X.N[j]? = some y := by rfl) (hy : Loc X.env.scope y := by first | exact Or.inl rfl | exact Or.inr rfl) (hi : X.N[i]? = some x := by rfl) (hv : Vis X.env.scope x := by first | exact Or.inl rfl | exact Or.inr (Or.inl rfl) | exact Or.inr (Or.inr rfl)) (hd : (x == ("__debug__" : Str)) = false := by decide +kernel) (hcd : (x == ("__classdict__" : Str)) = false := by decide +kernel)
    (hs : swapsWith (.Name x px) (some (.Name y py)) pos.line X.env = pure false := by rfl) (hf : X.fn y = true ∨ X.env.scope.names.lookup y = some .local := by first | exact .inl rfl | exact .inr rfl) : PS X (.Assign [.Name y py] (.Name x px) pos) (LS bs X.K (evMv bs j i)) := q_mv hN hj hy hi hv hd hcd hs hf
theorem p_an (i : Nat) {y : Str} (hN : X.N.Nodup) (hi : X.N[i]? = some y := by rfl) (hx : Loc X.env.scope y := by first | exact Or.inl rfl | exact Or.inr rfl) (hf : X.fn y = true ∨ X.env.scope.names.lookup y = some .local := by first | exact .inl rfl | exact .inr rfl) : PG X (.Name y pos) (LGa X.K (stN i)) := q_an hN hi hx hf
theorem p_asub (i : Nat) {x : Str} {px : Pos} (ha : PE X a (LE false X.K fa)) (hN : X.N[i]? = some x := by rfl) (hv : Vis X.env.scope x := by first | exact Or.inl rfl | exact Or.inr (Or.inl rfl) | exact Or.inr (Or.inr rfl)) (hd : (x == ("__debug__" : Str)) = false := by decide +kernel) (hcd : (x == ("__classdict__" : Str)) = false := by decide +kernel) (hsl : isSlice a = false := by rfl) :
    PG X (.Subscript (.Name x px) a pos) (LGa X.K (stSub i fa)) := q_asub pset_list hN hv hd hcd ha hsl
theorem p_anil : PGs X [] (LGas X.K stNil) := q_anil
theorem p_acons {st : Val → Sl → Mem → Res Sl} {sts : List D → Sl → Mem → Res Sl} (h1 : PG X e (LGa X.K st)) (h2 : PGs X es (LGas X.K sts)) (hp : plainArg e = true := by rfl) : PGs X (e :: es) (LGas X.K (stCons st sts)) := q_acons h1 h2 hp
theorem p_atup {sts : List D → Sl → Mem → Res Sl} {kk n : Nat} (h : PGs X es (LGas X.K sts)) (hn : es.length = n := by rfl) (hc : X.calm = true := by rfl) (hp : es.all plainArg = true := by rfl) : PG X (.Tuple es kk pos) (LGa X.K (stTup n sts)) := by
  subst hn
  exact q_atup hc h hp
theorem p_asg {st : Val → Sl → Mem → Res Sl} (he : PE X e (LE false X.K fa)) (hg : PG X tg (LGa X.K st)) (hs : swapsWithSole [tg] e pos.line X.env = pure false := by rfl) (hw : swappedStores [tg] e X.env = pure none := by rfl) (hp : plainArg tg = true := by rfl) :
    PS X (.Assign [tg] e pos) (LS bs X.K (evAsg fa st)) := q_asg he hg hs hw hp
theorem p_par2 (i j : Nat) {x y : Str} {px py pt : Pos} {kt k2 pt2} (hN : X.N.Nodup) (ha : PA X [a, b] (LA X.K fl)) (hc : X.calm = true := by rfl) (hi : X.N[i]? = some x := by rfl) (hj : X.N[j]? = some y := by rfl) (hij : i ≠ j := by decide)
    (hx : X.env.scope.names.lookup x = some .local := by rfl) (hy : X.env.scope.names.lookup y = some .local := by rfl)
    (hw : swappedStores [.Tuple [.Name x px, .Name y py] kt pt] (.Tuple [a, b] k2 pt2) X.env = pure (some [x, y]) := by rfl) : PS X (.Assign [.Tuple [.Name x px, .Name y py] kt pt] (.Tuple [a, b] k2 pt2) pos) (LS bs X.K (evPar [i, j] fl)) := q_par2 hc hN hi hj hij hx hy ha hw
theorem p_par3 (i j l : Nat) {x y z : Str} {px py pz pt : Pos} {kt k2 pt2} (hN : X.N.Nodup) (ha : PA X [a, b, c] (LA X.K fl)) (hc : X.calm = true := by rfl) (hi : X.N[i]? = some x := by rfl) (hj : X.N[j]? = some y := by rfl) (hl : X.N[l]? = some z := by rfl) (hij : i ≠ j := by decide) (hil : i ≠ l := by decide) (hjl : j ≠ l := by decide)
    (hx : X.env.scope.names.lookup x = some .local := by rfl) (hy : X.env.scope.names.lookup y = some .local := by rfl) (hz : X.env.scope.names.lookup z = some .local := by rfl)
    (hw : swappedStores [.Tuple [.Name x px, .Name y py, .Name z pz] kt pt] (.Tuple [a, b, c] k2 pt2) X.env = pure (some [x, y, z]) := by rfl) : PS X (.Assign [.Tuple [.Name x px, .Name y py, .Name z pz] kt pt] (.Tuple [a, b, c] k2 pt2) pos) (LS bs X.K (evPar [i, j, l] fl)) := q_par3 hc hN hi hj hl hij hil hjl hx hy hz ha hw
theorem p_names0 : PGs X [] (gNs []) := q_names0
theorem p_names (i : Nat) {y : Str} {is : List Nat} {p : Pos} (hN : X.N.Nodup) (h : PGs X es (gNs is)) (hi : X.N[i]? = some y := by rfl) (hx : Loc X.env.scope y := by first | exact Or.inl rfl | exact Or.inr rfl) (hf : X.fn y = true ∨ X.env.scope.names.lookup y = some .local := by first | exact .inl rfl | exact .inr rfl) : PGs X (.Name y p :: es) (gNs (i :: is)) := q_names hN hi hx hf h
theorem p_parT {is : List Nat} {ns vs : List Expr} {kt k2 : Nat} {pt pt2 : Pos} (ha : PA X vs (LA X.K fl)) (hg : PGs X ns (gNs is)) (hc : X.calm = true := by rfl) (hp : ns.all plainArg = true := by rfl) (hl : ns.length = is.length := by rfl) (hbig : ns.length ≤ 100 := by decide)
    (hw : swappedStores [.Tuple ns kt pt] (.Tuple vs k2 pt2) X.env = pure none := by rfl) : PS X (.Assign [.Tuple ns kt pt] (.Tuple vs k2 pt2) pos) (LS bs X.K (evPar is fl)) := q_parT hc ha hg hp hl hbig hw
theorem p_scons {st : Stmt} {r : List Stmt} {f g : Sl → Mem → Res Flow} (h1 : PS X st (LS bs X.K f)) (h2 : PSs X r (LS bs X.K g)) : PSs X (st :: r) (LS bs X.K (evSeq f g)) := q_scons h1 h2
theorem p_for {body : List Stmt} {o : List Nat} {t : Tg} {fI : Sl → Mem → Res (List D)} {f : Sl → Mem → Res Flow} (hi : PI X tg iter (LI X.K fI)) (hg : PG X tg (LG X.K t o)) (hb : PSs X body (LS bs X.K f)) (hx : X.xe = fun _ _ => False := by rfl) (hc : X.calm = true := by rfl) (hs : ∀ x, foldedSetIterable iter X.env x = pure x := by intro _; rfl) :
    PS X (.For tg iter body [] pos) (LS bs X.K (evFor t fI f)) := q_for hx hc hi hg hb hs
/-! how a def's keywords bind -/
theorem kbn_mk {K : Fr} {x : Str} {st : Stmt} {f : Addr} {fn : FuncData} {ps ks : List Str} {n : Nat} {ord : {α : Type} → List α → List α → List α} (F : Fun K x x st f fn) (ok : OrdOk ord)
    (h : ∀ (kV doc pm : Value) (an : Option Addr) (cdv ct : Value) (us ws : List Value), us.length = n → ws.length = ks.length → bindArgs (PySem.W.fnOf x x (defArgs st) (defBody st) (defScope st) .none kV doc pm an cdv ct) ⟨us, ks.zip ws⟩ = pure (ps.zip (ord us ws))) :
    KBn K fn ps n ks (fun us ws => ord us ws) (fun us ws => ord us ws) := by
  obtain ⟨oc, od, kV, doc, pm, an, cdv, ct, osl, rfl, lk, hcd⟩ := F.ex
  exact ⟨fun s us ws _ l1 l2 => .of_eq (h kV doc pm an cdv ct us ws l1 l2), fun r1 r2 => ok.rel r1 r2⟩
end
end DL
end P_DL10
section P_DL11
set_option Elab.async false
set_option linter.all false
set_option maxRecDepth 100000
set_option maxHeartbeats 1000000
/-! The head, and what it rests on. -/
namespace DL
open PySem PySem.Spec PyProof.Rows L2
/-- positional values and those by name, in the parameters' order -/
def pickO (is : List (Bool × Nat)) {α : Type} (us ws : List α) : List α := is.filterMap fun p => if p.1 then ws[p.2]? else us[p.2]?
theorem pickO_ok (is : List (Bool × Nat)) : OrdOk (@pickO is) where
  rel := by
    intro α β R us us2 ws ws2 h1 h2
    unfold pickO
    induction is with
    | nil => exact .nil
    | cons p is ih =>
      simp only [List.filterMap_cons]
      have key : ∀ {u1 : List α} {w1 : List β}, Paired R u1 w1 → Paired R (match u1[p.2]? with | none => List.filterMap (fun p : Bool × Nat => if p.1 = true then us2[p.2]? else us[p.2]?) is | some b => b :: List.filterMap (fun p : Bool × Nat => if p.1 = true then us2[p.2]? else us[p.2]?) is)
          (match w1[p.2]? with | none => List.filterMap (fun p : Bool × Nat => if p.1 = true then ws2[p.2]? else ws[p.2]?) is | some b => b :: List.filterMap (fun p : Bool × Nat => if p.1 = true then ws2[p.2]? else ws[p.2]?) is) := fun {u1 w1} h => by
        rcases Paired.getP h p.2 with ⟨u, w, e1, e2, r⟩ | ⟨e1, e2⟩
        · rw [e1, e2]; exact .cons r ih
        · rw [e1, e2]; exact ih
      cases p.1 with
      | true => exact key h2
      | false => exact key h1
/-- what a block asks of its names, computed -/
def blkB (N : List Str) (sc scope : Scope) (own : List (Str × Nat)) : Bool :=
  scope.names.all (fun y => decide (scope.names.lookup y.1 = some y.2)) && own.all (fun p => decide (N[p.2]? = some p.1)) &&
  scope.names.all (fun y => !decide (y.2 = .free) || decide (sc.names.lookup y.1 = some .cell) || decide (sc.names.lookup y.1 = some .free)) &&
  scope.names.all (fun y => !(decide (y.2 = .local) || decide (y.2 = .cell)) || decide (y.1 ∈ own.map (·.1)) || decide (y.1 ∉ N))
theorem blk_mk {N : List Str} {sc scope : Scope} {own : List (Str × Nat)} (h1 : scope.kind = .function) (h : blkB N sc scope own = true) : BlkOk N sc scope own := by
  unfold blkB at h
  simp only [Bool.and_eq_true, List.all_eq_true, decide_eq_true_eq, Bool.or_eq_true, Bool.not_eq_true', decide_eq_false_iff_not, Bool.or_eq_false_iff] at h
  obtain ⟨⟨⟨a, b⟩, c⟩, d⟩ := h
  refine ⟨h1, a, b, fun y hy e => ?_, fun y hy e => ?_⟩
  · rcases c y hy with (z | z) | z
    · exact absurd e z
    · exact .inl z
    · exact .inr z
  · rcases d y hy with (z | z) | z
    · rcases e with e | e
      · exact absurd e z.1
      · exact absurd e z.2
    · exact .inl z
    · exact .inr z
theorem mk_fun {K : Fr} {h : Heap} {mg : Str → Option Value} {x : Str} {st : Stmt} {f : Addr} {oc kV dc pm cd ct : Value} {od an : Option Addr} {sl : Array (Option Value)} (X : K.In h) (G : h.Ns mainGlobals mg)
    (a : PySem.W.nsIn K mainGlobals x = some (some (.ref f))) (l : K.lookup f = some ⟨oc, od, .func (PySem.W.fnOf x x (defArgs st) (defBody st) (defScope st) .none kV dc pm an cd ct), sl⟩) (c : PySem.W.codeIn K cd x = true) (k : PySem.W.keepIn K (.ref f) = true) :
    ∃ f fd, mg x = some (.ref f) ∧ Fun K x x st f fd := ⟨f, _, PySem.W.mg_of X G a, fun_mk l c k⟩
theorem mk_none {K : Fr} {h : Heap} {mg : Str → Option Value} {x : Str} (X : K.In h) (G : h.Ns mainGlobals mg) (a : PySem.W.nsIn K mainGlobals x = some none) : mg x = none := PySem.W.mg_none_of X G a
theorem mk_cstI {K : Fr} {h : Heap} {mg : Str → Option Value} {x : Str} {i : Int} {t : Tok} (X : K.In h) (G : h.Ns mainGlobals mg) (a : PySem.W.nsIn K mainGlobals x = some (some (.int i t))) : Cst K mg x (.int i) := ⟨_, .int i, PySem.W.mg_of X G a, ⟨t, rfl⟩, fun _ => .int i⟩
theorem mk_cstS {K : Fr} {h : Heap} {mg : Str → Option Value} {x z : Str} {s : List Char} {t : Tok} (X : K.In h) (G : h.Ns mainGlobals mg) (a : PySem.W.nsIn K mainGlobals x = some (some (.str z t))) (e : z = enc s := by decide +kernel) (hl : s.length ≤ 1000 := by decide +kernel) : Cst K mg x (.str s) := by
  subst e
  exact ⟨_, .str (enc s), PySem.W.mg_of X G a, ⟨t, rfl⟩, fun _ => .str s (Nat.le_trans hl (by decide))⟩
theorem law_binds {K : Fr} {st : Stmt} {f : Addr} {fd : FuncData} (F : Fun K "law" "law" st f fd) (h : ∀ (kV doc pm : Value) (an : Option Addr) (cdv ct : Value) (u : Value), bindArgs (PySem.W.fnOf "law" "law" (defArgs st) (defBody st) (defScope st) .none kV doc pm an cdv ct) ⟨[u], []⟩ = pure [(("script" : Str), u)])
    (s : Shared) (u : Value) : BindsTo s fd ⟨[u], []⟩ [(("script" : Str), u)] := by
  obtain ⟨oc, od, kV, doc, pm, an, cdv, ct, osl, rfl, lk, hcd⟩ := F.ex
  exact .of_eq (h kV doc pm an cdv ct u)
theorem reps_ints {K : Fr} {F : Hp} : ∀ ns : List Int, Reps K F (ns.map D.int) (ns.map V.int)
  | [] => .nil
  | n :: ns => .cons (.int n) (reps_ints ns)
theorem walk80 {l : PySem.W.OpenLaw} {q : Program} {loose : List Str} {XP : (Str → Option Value) → Heap → Prop} {YP : World → Heap → Prop} {d : DefRec} {K : Params → PySem.W.Frag} (g : List Val → Mem → Res Val)
    (hg : ∀ ns : List Int, ns.length ≤ 63 → g [.d (.scr (ns.map D.int))] [] = .ok (.d (.bl true)) []) (hn : l.most = some 63) (hdf : d.params.defaults = [])
    (hY : ∀ (w : World) (h : Heap), YP w h → (K w.params).In h)
    (F : ∀ (w : World) (mg : Str → Option Value) (fa : Addr) (h : Heap), (K w.params).In h → h.Ns mainGlobals mg → mg d.name = some (.ref fa) →
      ∃ fd : FuncData, (∀ (s : Shared) (u : Value), BindsTo s fd ⟨[u], []⟩ [("script", u)]) ∧ ∀ base : Heap, FnOk l.prog w (K w.params) mg base CX0 80 fa fd ["script"] (spF false (K w.params) 1 g)) :
    PySem.W.WalkO q loose XP YP l.row.toRowW d [] (fun f vs => PySem.call f vs) :=
  L2.walk_of (n := 63) (k := 80) (x := "script") (CX := fun _ => CX0) (sp := fun w => spF false (K w.params) 1 g) hn (by decide) hdf ⟨rfl, by decide, by decide⟩ hY
    (fun w mg fa h KX G hm => let ⟨fd, hb, hF⟩ := F w mg fa h KX G hm; ⟨fd, hb, fun base _ _ => hF base⟩)
    (fun w H a ns hl _ hS => ⟨rfl, [.d (.scr (ns.map D.int))], [], H, [], .d (.bl true), [],
      ⟨Sub.refl H, fun a h => absurd h (by simp), List.nodup_nil, rfl, fun i o b h => by simp at h⟩,
      .cons (Rep.scr (by rw [List.length_map]; exact Nat.le_trans hl (by decide)) hS (reps_ints ns)) .nil, hg ns hl, fun F' μ' H' v st S' p => by
        have p' : Rep (K w.params) F' (.bl true) v := p
        cases p'; rfl⟩) fun _ _ _ _ _ z => z
section
variable {X : Cx} {fa : Sl → Mem → Res Val} {e a tg : Expr} {pos : Pos}
/-- e[::-1] -/
def rRev (K : Fr) : V → Hp → VK → Prop := fun x H Q => (∃ a xs, x = .ref a ∧ SqL K H a xs ∧ ∀ p, H p = none → Q (.ref p) (upd H p (.lst xs.reverse))) ∨ ∃ t : List Char, x = .str (enc t) ∧ t.length ≤ big ∧ Q (.str (enc t.reverse)) H
theorem str_all (x : Str) : (List.range x.length).filterMap (x.cps[·]?) = x.cps.toList := PySem.W.krv_all x.cps
theorem str_rev (t : List Char) : ((Builtin.Str.strSliceIndices none none (-1) (enc t).length).filterMap ((enc t).cps[·]?)).toArray = (enc t.reverse).cps := by
  have e : Builtin.Str.strSliceIndices none none (-1) (enc t).length = sliceRange (((enc t).length : Int) - 1) (-1) (-1) := rfl
  rw [e, PySem.W.krv_sliceRange, PySem.W.krv_range, List.filterMap_reverse, str_all]
  show (t.map Char.toNat).reverse.toArray = (t.reverse.map Char.toNat).toArray
  rw [List.map_reverse]
theorem pe_revA {te : TE} {k : Nat} {p1 p2 p3 : Pos} (he : PE X e te) : PE X (.Subscript e (.Slice none none (some (.UnaryOp .USub (.Constant (.int 1) k p1) p2)) p3) pos) (tUn (rRev X.K) te) := by
  refine ⟨fun pins s σ H Q I h => ?_⟩
  refine Subscript_ (thn (he.run pins s σ H _ I h) fun v s1 ⟨x, H1, I1, r1, q1⟩ => ?_)
  have hst : PO X (some (.UnaryOp .USub (.Constant (.int 1) k p1) p2)) (tPart (tUn (rU fun i => .int (-i)) (tC (.int 1)))) := po_some (pe_un un_neg pe_int)
  refine wpAny_Slice (thn (po_none.run pins s1 σ H1 (fun o H2 => o = none ∧ H2 = H1) I1 ⟨rfl, rfl⟩) fun vl s2 ⟨l, H2, I2, pl, el, e2⟩ => ?_)
  subst el e2
  refine thn (po_none.run pins s2 σ H2 (fun o H3 => o = none ∧ H3 = H2) I2 ⟨rfl, rfl⟩) fun vu s3 ⟨u, H3, I3, pu, eu, e3⟩ => ?_
  subst eu e3
  refine thn (hst.run pins s3 σ H3 (fun o H4 => o = some (-1) ∧ H4 = H3) I3 ⟨1, rfl, -1, rfl, rfl, rfl⟩) fun vs s4 ⟨o, H4, I4, ps, eo, e4⟩ => ?_
  subst eo e4
  have I5 : L2.Inv X pins σ H4 { s4 with heap := s4.heap.push { cls := .type "slice", data := .fields #[vl, vu, vs] } } := I4.kept (t' := s4.toks) fun b ob q => Heap.get?_push_of_some _ q
  rcases q1 with ⟨a, xs, ex, hx, q⟩ | ⟨t, ex, hz, q⟩
  · subst ex
    cases r1
    obtain ⟨its, r, ht, hz⟩ := I5.list hx
    have hlen := r.length
    show wpAny (model X.prog X.w) X.A (subscriptTail e (.Slice none none (some (.UnaryOp .USub (.Constant (.int 1) k p1) p2)) p3) (.ref a) (.ref s4.heap.objs.size)) (EP X pins σ Q) X.xe { s4 with heap := s4.heap.push { cls := .type "slice", data := .fields #[vl, vu, vs] } }
    refine tail_any (ops := [.ref a, .ref s4.heap.objs.size]) ht.isList.typeIs (PySem.slot_list_getitem.lookup) ?_ (by with_unfolding_all rfl)
    refine wpAny_getItem_list_slice ht.isList (Heap.IsSliceOf.new _ vl vu vs) pl pu ps (by decide) ?_ (by rw [List.size_toArray]; omega)
    rw [PySem.W.krv_pick]
    refine ⟨.ref _, _, I5.laid (t' := s4.toks) (o := .lst xs.reverse) (fun b ob q => Heap.get?_push_of_some _ q) (Nat.le_refl _) ?_, rfl, q _ (I5.hok.fresh (Nat.le_refl _))⟩
    exact ⟨by rw [List.length_reverse]; exact hz, _, 0, r.reverse, Heap.get?_push_size _ rfl⟩
  · subst ex
    obtain ⟨tk, rfl⟩ := r1
    obtain ⟨l, rfl, hl⟩ := IsPart.raw pl
    obtain ⟨u, rfl, hu⟩ := IsPart.raw pu
    obtain ⟨st, rfl, hs⟩ := IsPart.raw ps
    have el : l = none := by cases l <;> first | rfl | cases hl
    have eu : u = none := by cases u <;> first | rfl | cases hu
    subst el eu
    show wpAny (model X.prog X.w) X.A (subscriptTail e (.Slice none none (some (.UnaryOp .USub (.Constant (.int 1) k p1) p2)) p3) (.str (enc t) tk) (.ref s4.heap.objs.size)) (EP X pins σ Q) X.xe { s4 with heap := s4.heap.push { cls := .type "slice", data := .fields #[partValue none, partValue none, partValue st] } }
    refine tail_any (ops := [.str (enc t) tk, .ref s4.heap.objs.size]) (typeIs_str _ _ _) (F.slot_str_getitem.lookup) ?_ (by with_unfolding_all rfl)
    refine wpAny_getItem_str_slice (l := none) (u := none) (st := st) ⟨_, Heap.get?_push_size _ rfl, rfl, rfl⟩ (by rw [hs]; rfl) ?_
    unfold sliceMade slicePicked
    rw [hs]
    show Made.post (if ((-1 : Int) == 1 && _) = true then _ else Made.str ⟨((Builtin.Str.strSliceIndices none none (-1) (enc t).length).filterMap ((enc t).cps[·]?)).toArray⟩) _ _
    rw [if_neg (by simp), str_rev]
    exact ⟨by show (enc t.reverse).length ≤ sizeLine; rw [enc_length, List.length_reverse]; exact big_ge hz, .str _, H4, I5.tok _, ⟨_, rfl⟩, q⟩
theorem p_rev {k : Nat} {p1 p2 p3 : Pos} (he : PE X e (LE false X.K fa)) : PE X (.Subscript e (.Slice none none (some (.UnaryOp .USub (.Constant (.int 1) k p1) p2)) p3) pos) (LE false X.K (ev1 revD fa)) := by
  refine (pe_revA he).imp fun σ H Q h => ?_
  have z := lift1 h
  obtain ⟨δ, M, F, μ, x, M', S, R, e0, k⟩ := z
  refine ⟨δ, M, F, μ, x, M', S, R, e0, fun F1 μ1 H1 v1 st1 S1 r1 => ?_⟩
  obtain ⟨F3, x3, d, sb, rx, hp3, q⟩ := k F1 μ1 H1 v1 st1 S1 r1
  cases x3 with
  | str t =>
    cases hp3
    obtain ⟨rfl, hl⟩ := repT_str rx
    exact .inr ⟨t, rfl, hl, postSame sb q (.str _ (by rw [List.length_reverse]; exact hl))⟩
  | lst l =>
    cases hp3
    obtain ⟨a, as, rfl, ha, ra, la⟩ := repT_lst sb rx
    exact .inl ⟨a, as, rfl, SqL.of ha, fun p hp => postLst sb q (by rw [List.length_reverse]; exact la) ra.reverse hp⟩
  | _ => cases hp3
def itemsE : D → Option (List D)
  | .lst l => some l
  | .scr l => some l
  | .str s => some (s.map fun c => .str [c])
  | _ => none
def evEnm (fa : Sl → Mem → Res Val) : Sl → Mem → Res (List D) := fun s M => (fa s M).bind fun v M1 => match v with
  | .d x => Res.of ((itemsE x).map (enumFrom 0)) M1
  | _ => .bad
/-- the signs of a text, each in a new pair -/
def Itse (z : Str) : L2.It :=
  ⟨fun i _ => i < z.cps.size, fun i H v H' => ∃ T c, v = .ref T ∧ H T = none ∧ H' = upd H T (.tup [.int (i : Nat), .str ⟨#[c]⟩]) ∧ z.cps[i]? = some c, fun i _ => i = z.cps.size⟩
theorem turn_enumS {P : Program} {w : World} {K : Fr} {elts : List Expr} {kk : Nat} {tpos : Pos} (z : Str) (t : Tok) (e it : Addr) :
    Turn P w K (.Tuple elts kk tpos) (Itse z) [e, it] e (fun i h => (∃ old, IsEnum h e it ((i : Nat) : Int) old) ∧ h.IsStrIter it (strIterType z) z t i ∧ e ≠ it) where
  mem := by simp
  obj := fun i h st b hb => by
    obtain ⟨⟨old, he⟩, ⟨o, ho, hc, hd⟩, _⟩ := st
    have e' : b = e ∨ b = it := by simpa using hb
    rcases e' with z | z
    · rw [z]; exact ⟨_, he, fun v q => nomatch q⟩
    · rw [z]; exact ⟨o, ho, fun v q => by rw [hd] at q; cases q⟩
  keep := fun i h h' st k => let ⟨⟨old, he⟩, ⟨o, ho, r⟩, hne⟩ := st; ⟨⟨old, k e (by simp) _ he⟩, ⟨o, k it (by simp) o ho, r⟩, hne⟩
  item := by
    intro X hP hw hK hc i pins s σ H E I hf st hg
    subst hP hw hK
    obtain ⟨⟨old, he⟩, hit, hne⟩ := st
    have hel : e < s.heap.objs.size := Heap.lt_size he
    have hil : it < s.heap.objs.size := by obtain ⟨_, q, _⟩ := hit; exact Heap.lt_size q
    refine wpAny_pyNext_enum_itemD (Draws.text (A := X.A.in1) (I.ok.hd hc) it z t) he hit hg hne (by simpa using hne) fun x h' tk hP ho hit' hT hsz hk => ?_
    obtain ⟨c, u, hcx, rfl⟩ := hP
    refine ⟨_, rfl, wpAny_letOwnedTupleGo_enum (s := { s with heap := h', toks := tk + 1 }) ho fun h'' he' sb => ?_⟩
    have hT2 : h''.get? s.heap.objs.size = some { cls := .type "tuple", data := .seq #[.int i tk, .str ⟨#[c]⟩ u] } := (sb.2 _ (Nat.ne_of_gt hel)).trans hT
    have new : ObjOk X.prog X.w (upd H s.heap.objs.size (.tup [.int (i : Nat), .str ⟨#[c]⟩])) h'' s.heap.objs.size (.tup [.int (i : Nat), .str ⟨#[c]⟩]) :=
      ⟨by show 2 ≤ sizeLine; decide, [.int i tk, .str ⟨#[c]⟩ u], .cons ⟨_, rfl⟩ (.cons ⟨_, rfl⟩ .nil), ⟨_, hT2, rfl, _, rfl⟩⟩
    have I1 : L2.Inv X pins σ (upd H s.heap.objs.size (.tup [.int (i : Nat), .str ⟨#[c]⟩])) { s with heap := h'', toks := tk + 1 } :=
      I.turnedNew (ch := [e, it]) (fun b ob hb q => (sb.2 b (fun z => hb (by simp [z]))).trans (hk b ob (fun z => hb (by simp [z])) (fun z => hb (by simp [z])) q)) hf (Nat.le_refl _) new
    refine ⟨.ref s.heap.objs.size, _, I1, rfl, ⟨_, c, rfl, I.hok.fresh (Nat.le_refl _), rfl, hcx⟩, ⟨⟨.str ⟨#[c]⟩ u, ?_⟩, ?_, hne⟩, fun b hb => ?_⟩
    · have e1 : ((i + 1 : Nat) : Int) = (i : Int) + 1 := by omega
      rw [e1]; exact he'
    · obtain ⟨o, ho, r⟩ := hit'
      exact ⟨o, (sb.2 it (Ne.symm hne)).trans ho, r⟩
    · have hb' : b < s.heap.objs.size := by
        have e' : b = e ∨ b = it := by simpa using hb
        rcases e' with z | z
        · rw [z]; exact hel
        · rw [z]; exact hil
      rw [upd_ne (Nat.ne_of_lt hb')]
      exact (hf b hb).1
  done := by
    intro X hP hw hK hc i pins s σ H E I hf st hg
    subst hP hw hK
    obtain ⟨⟨old, he⟩, hit, hne⟩ := st
    have hg' : i = z.cps.size := hg
    rw [hg'] at hit
    obtain ⟨f0, f1, f2, f3, f4, f5⟩ := hf it (by simp)
    exact wpAny_pyNext_enum_endD (Draws.text (A := X.A.in1) (I.ok.hd hc) it z t) he hit fun h' eb => ⟨rfl, I.turned (t' := s.toks) (fun b o hb q => eb b o hb q) f0 f1 f3 f4 f5⟩
  self := fun A i s Q E st h => let ⟨⟨_, he⟩, _⟩ := st; wpAny_pyIter_enum he h
/-- enumerate(v): a list or a text -/
def iEnm (K : Fr) (ta : TA) : TI := fun σ H R => ta σ H fun vs H1 => ∃ x, vs = [x] ∧ ((∃ a xs, x = .ref a ∧ SqL K H1 a xs ∧ R (Ite K a) H1) ∨ ∃ z, x = .str z ∧ R (Itse z) H1)
theorem pi_enm {ta : TA} {p tpos : Pos} {elts : List Expr} {kk : Nat} (hg : Gl X "enumerate") (hm : X.mg "enumerate" = none) (he : PA X [e] ta) (hp : plainArg e = true) : PI X (.Tuple elts kk tpos) (.Call (.Name "enumerate" p) [e] [] pos) (iEnm X.K ta) := by
  refine ⟨fun pins s σ H R I h => ?_⟩
  refine Call_ (ld_blt I hg hm boot_enumerate (PyProof.Rows.callWith_type1 (thn (he.run pos pins s σ H _ I h) fun us s1 ⟨vs, H1, I1, r1, q1⟩ => ?_) (star_plain hp [] X.env) rfl))
  obtain ⟨x, ex, q1⟩ := q1
  subst ex
  cases r1 with
  | cons r rr =>
    cases rr
    rcases q1 with ⟨a, xs, rfl, hq, q⟩ | ⟨z, rfl, q⟩
    · cases r
      obtain ⟨its, rv, p', hz⟩ := I1.list hq
      refine call_enumerate_list p'.isList fun h' he hit hsz hk => wpAny_pyIter_enum he ?_
      have I2 : L2.Inv X pins σ H1 { s1 with heap := h' } := I1.kept (t' := s1.toks) hk
      refine ⟨s1.heap.objs.size + 1, [s1.heap.objs.size + 1, s1.heap.objs.size], _, _, H1, rfl, I2, turn_enum a (s1.heap.objs.size + 1) s1.heap.objs.size, ⟨⟨.none, he⟩, hit, Nat.succ_ne_self _⟩, fun b hb => ?_, q⟩
      have e' : b = s1.heap.objs.size + 1 ∨ b = s1.heap.objs.size := by simpa using hb
      have hle : s1.heap.objs.size ≤ b := by
        rcases e' with z | z
        · rw [z]; exact Nat.le_add_right _ _
        · rw [z]; exact Nat.le_refl _
      exact I1.fpOk hle (I1.hok.fresh hle)
    · obtain ⟨t, rfl⟩ := r
      refine call_enumerate_str fun h' he hit hsz hk => wpAny_pyIter_enum he ?_
      have I2 : L2.Inv X pins σ H1 { s1 with heap := h' } := I1.kept (t' := s1.toks) hk
      refine ⟨s1.heap.objs.size + 1, [s1.heap.objs.size + 1, s1.heap.objs.size], _, _, H1, rfl, I2, turn_enumS z t (s1.heap.objs.size + 1) s1.heap.objs.size, ⟨⟨.none, he⟩, hit, Nat.succ_ne_self _⟩, fun b hb => ?_, q⟩
      have e' : b = s1.heap.objs.size + 1 ∨ b = s1.heap.objs.size := by simpa using hb
      have hle : s1.heap.objs.size ≤ b := by
        rcases e' with z | z
        · rw [z]; exact Nat.le_add_right _ _
        · rw [z]; exact Nat.le_refl _
      exact I1.fpOk hle (I1.hok.fresh hle)
theorem enumFrom_len : ∀ (l : List D) (i : Int), (enumFrom i l).length = l.length
  | [], _ => rfl
  | _ :: l, i => congrArg (· + 1) (enumFrom_len l (i + 1))
theorem enumFrom_get : ∀ (l : List D) (i : Int) (k : Nat) (d : D), (enumFrom i l)[k]? = some d → ∃ x, l[k]? = some x ∧ d = .tup [.int (i + k), x]
  | [], _, _, _, h => by simp [enumFrom] at h
  | x :: l, i, 0, d, h => by simp [enumFrom] at h; exact ⟨x, rfl, by rw [← h]; simp⟩
  | x :: l, i, k + 1, d, h => by
    obtain ⟨y, h1, h2⟩ := enumFrom_get l (i + 1) k d (by simpa [enumFrom] using h)
    refine ⟨y, by simpa using h1, ?_⟩
    rw [h2]
    congr 3
    show i + 1 + (k : Int) = i + ((k + 1 : Nat) : Int)
    omega
theorem its_enumL {K : Fr} {F : Hp} {p : Addr} {vs : List V} {ds : List D} (hl : ds.length ≤ big) (h : SqL K F p vs) (r : Reps K F ds vs) : Its K F (enumFrom 0 ds) (Ite K p) where
  few := by rw [enumFrom_len]; exact hl
  goes := fun i H hi s => ⟨vs, vs[i]'(by rw [← r.length]; rwa [enumFrom_len] at hi), s.sqL h, by simp⟩
  stops := fun H s => ⟨vs, s.sqL h, by rw [enumFrom_len, r.length]; exact Nat.le_refl _⟩
  yields := fun i H x H' d F0 hd s0 s1 ⟨T, y, ex, hT, eH, hy⟩ => by
    obtain ⟨dx, h1, rfl⟩ := enumFrom_get ds 0 i d hd
    obtain ⟨v, hv, rv⟩ := r.get h1
    have z := hy vs ((s0.trans s1).sqL h)
    rw [hv] at z
    have z := Option.some.inj z
    subst z
    subst ex eH
    have n := NewF.alloc s1 hT (.tup [.int (i : Nat), v])
    refine ⟨_, n, Rep.tup (by show 2 ≤ big; decide) upd_same (.cons ?_ (.cons (rv.mono (s0.trans n.fr)) .nil))⟩
    rw [Int.zero_add]; exact .int _
theorem its_enumS {K : Fr} {F : Hp} {s : List Char} (hl : s.length ≤ big) : Its K F (enumFrom 0 (s.map fun c => .str [c])) (Itse (enc s)) where
  few := by rw [enumFrom_len, List.length_map]; exact hl
  goes := fun i H hi _ => by rw [enumFrom_len, List.length_map] at hi; show i < (enc s).cps.size; rw [enc_size]; exact hi
  stops := fun H _ => by show _ = (enc s).cps.size; rw [enumFrom_len, List.length_map, enc_size]
  yields := fun i H x H' d F0 hd s0 s1 ⟨T, c, ex, hT, eH, hc⟩ => by
    obtain ⟨dx, h1, rfl⟩ := enumFrom_get _ 0 i d hd
    obtain ⟨ch, h2, rfl⟩ := enc_get hc
    rw [List.getElem?_map, h2] at h1
    cases h1
    subst ex eH
    have n := NewF.alloc s1 hT (.tup [.int (i : Nat), .str ⟨#[ch.toNat]⟩])
    refine ⟨_, n, Rep.tup (by show 2 ≤ big; decide) upd_same (.cons ?_ (.cons (Rep.str [ch] (by show 1 ≤ big; decide)) .nil))⟩
    rw [Int.zero_add]; exact .int _
theorem p_enm {p tpos : Pos} {elts : List Expr} {kk : Nat} (hm : X.mg "enumerate" = none) (he : PE X e (LE false X.K fa)) (hg : Gl X "enumerate" := by rfl) (hp : plainArg e = true := by rfl) : PI X (.Tuple elts kk tpos) (.Call (.Name "enumerate" p) [e] [] pos) (LI X.K (evEnm fa)) := by
  refine (pi_enm hg hm (q_cons hp he q_nil) hp).imp fun σ H R ⟨δ, M, F, μ, xs, M', S, RS, e0, k⟩ => ?_
  obtain ⟨v, M1, e1, e0⟩ := bind_ok e0
  cases v with
  | ref n => cases e0
  | d y =>
    obtain ⟨h1, rfl⟩ := of_ok e0
    obtain ⟨l, hl, rfl⟩ := Option.map_eq_some_iff.mp h1
    refine ⟨δ, M, F, μ, [.d y], M', S, RS, by unfold evCons; rw [e1]; rfl, fun F1 μ1 H1 vs1 st1 S1 rs1 => ?_⟩
    cases rs1 with
    | cons r1 rr =>
      cases rr
      refine ⟨_, rfl, ?_⟩
      rename_i v1
      have r1' : Rep X.K F1 y v1 := r1
      cases r1' with
      | lst hz h r => cases hl; exact .inl ⟨_, _, rfl, S1.sub.sqL (SqL.of h), k F1 μ1 H1 _ st1 S1 (its_enumL hz (SqL.of h) r)⟩
      | scr hz h r => cases hl; exact .inl ⟨_, _, rfl, S1.sub.sqL h, k F1 μ1 H1 _ st1 S1 (its_enumL hz h r)⟩
      | str s hz => cases hl; exact .inr ⟨_, rfl, k F1 μ1 H1 _ st1 S1 (its_enumS hz)⟩
      | _ => cases hl
end
end DL
end P_DL11
section P_DLu
set_option Elab.async false
set_option linter.all false
set_option maxRecDepth 100000
set_option maxHeartbeats 4000000
/-! tuples: their sum, times one, enumerate. -/
namespace PySem
open Sem (wp)
open AutoSeq1 (wpAny_loadPart')
theorem meets_enumerate_newT (l : Addr) (items : Array Value) (n : Nat) (dct : Option Addr) (sl : Array (Option Value)) :
    Meets (Builtin.«enumerate.__new__» ⟨[.type "enumerate", .ref l], []⟩) (fun _ R s => s.heap.get? l = some { cls := .type "tuple", dict := dct, data := .seq items n, slots := sl } ∧
      R (.ok (.ret (.ref (s.heap.push { cls := .type "tuple_iterator", data := .fields #[.ref l, .int 0 0] }).objs.size)))
        { s with heap := (s.heap.push { cls := .type "tuple_iterator", data := .fields #[.ref l, .int 0 0] }).push { cls := .type "enumerate", data := .fields #[.none, .bool false, .ref s.heap.objs.size, rawInt 0, .none, .none] } }) :=
  .of_wp fun prog w A R s h => by
    obtain ⟨hp, g, d, tk, os⟩ := s; obtain ⟨hl, h⟩ := h
    have hsub := sub_enumerate
    have hL : Heap.IsTuple (Shared.heap ⟨hp, g, d, tk, os⟩) l items := ⟨_, hl, rfl, n, rfl⟩
    wp_walk using wpAny_loadPart' hl
    refine wpAny_stack_any fun st => wpAny_pure ?_
    split
    · rename_i c _ _ _ _ _
      cases (c == Value.type "enumerate")
      · wp_walk using wpAny_loadPart' hl, wpAny_pyIter_tuple hL
        exact ⟨_, rfl, h⟩
      · wp_walk using wpAny_loadPart' hl, wpAny_pyIter_tuple hL
        exact ⟨_, rfl, h⟩
    · wp_walk using wpAny_loadPart' hl, wpAny_pyIter_tuple hL
      exact ⟨_, rfl, h⟩
section
variable {prog : Program} {w : World} {A : Around} {E : Value → Shared → Prop} {s : Shared}
theorem call_enumerate_tuple {l : Addr} {items : Array Value} {Q : Value → Shared → Prop} (hL : s.heap.IsTuple l items)
    (h : ∀ h', IsEnum h' (s.heap.objs.size + 1) s.heap.objs.size 0 .none → h'.IsTupleIter s.heap.objs.size l 0 → h'.objs.size = s.heap.objs.size + 2 →
      (∀ b o, s.heap.get? b = some o → h'.get? b = some o) → Q (.ref (s.heap.objs.size + 1)) { s with heap := h' }) :
    wpAny (model prog w) A (call (.type "enumerate") [.ref l]) Q E s := by
  obtain ⟨⟨c, dct, dt, sl⟩, hl, hc, n, hd⟩ := hL
  replace hc : c = .type "tuple" := hc
  replace hd : dt = .seq items n := hd
  subst hc hd
  refine callType_new F.called_enumerate (by decide) (F.typeCall_enumerate_1 _) (F.newCall_enumerate_1 _) (fun obj => F.args_object_init_2 obj _) F.entry_enumerate_new
    (meets_enumerate_newT l items n dct sl) ⟨hl, ?_⟩
  have hz : (s.heap.push { cls := .type "tuple_iterator", data := .fields #[.ref l, .int 0 0] }).objs.size = s.heap.objs.size + 1 := Heap.size_push ..
  show _ ∧ _
  rw [hz]
  have he : IsEnum ((s.heap.push { cls := .type "tuple_iterator", data := .fields #[.ref l, .int 0 0] }).push
      { cls := .type "enumerate", data := .fields #[.none, .bool false, .ref s.heap.objs.size, rawInt 0, .none, .none] }) (s.heap.objs.size + 1) s.heap.objs.size 0 .none := by
    have := Heap.get?_push_size (s.heap.push { cls := .type "tuple_iterator", data := .fields #[.ref l, .int 0 0] })
      (o := { cls := .type "enumerate", data := .fields #[.none, .bool false, .ref s.heap.objs.size, rawInt 0, .none, .none] }) rfl
    rw [hz] at this; exact this
  refine ⟨⟨_, he, rfl⟩, h _ he ⟨_, Heap.get?_push_of_some _ (Heap.get?_push_size _ rfl), rfl, rfl⟩ (by rw [Heap.size_push, hz]) fun b o x => Heap.get?_push_of_some _ (Heap.get?_push_of_some _ x)⟩
end
theorem tuple_mul1 (l : Addr) (items : Array Value) (n : Nat) (dd : Option Addr) (sl : Array (Option Value)) (u : Tok) :
    Meets (Builtin.«tuple.__mul__» ⟨[.ref l, .int 1 u], []⟩) (fun _ R s => s.heap.get? l = some { cls := .type "tuple", dict := dd, data := .seq items n, slots := sl } ∧ R (.ok (.ret (Value.ref l))) s) :=
  .of_wp fun prog w A R s h => by
    obtain ⟨hp, g, d, tk, os⟩ := s
    obtain ⟨hl, h⟩ := h
    have f1 := AutoSeq1.idx_int
    have c1 : (items.isEmpty || (1 : Int) == 1) = true := by simp
    wp_walk using wpAny_loadPart' hl
    repeat (first
      | (refine wpAny_ite_true (decide_eq_true (by simp)) ?_; wp_walk using wpAny_loadPart' hl))
    all_goals exact ⟨_, rfl, h⟩
end PySem
namespace DL
open PySem PySem.Spec PyProof.Rows L2
def sumTD : List D → Option D
  | [.lst l] => (sumInts l).map .int
  | [.tup l] => (sumInts l).map .int
  | _ => none
def mulT1 : D → D → Option D
  | .tup x, .int j => if j = 1 then some (.tup x) else binD .mul (.tup x) (.int j)
  | x, y => binD .mul x y
section
variable {X : Cx} {e e2 : Expr} {es : List Expr} {fa fb : Sl → Mem → Res Val} {pos p tpos : Pos} {elts : List Expr} {kk : Nat}
theorem bb_sumT (hc : X.calm = true) : CallR X (.builtin "sum") (rLD false X.K sumTD) := by
  intro pins s σ H vs us Q I r ⟨F, xs, d, sb, tx, e, q⟩
  match xs, e, tx with
  | [.lst l], e, tx => exact bb_sum hc pins s σ H vs us Q I r ⟨F, [.lst l], d, sb, tx, e, q⟩
  | [.tup l], e, tx =>
    obtain ⟨v, rfl, rx⟩ := repTs_1 tx
    obtain ⟨n, hn, rfl⟩ := Option.map_eq_some_iff.mp (show (sumInts l).map D.int = some d from e)
    obtain ⟨_, a, as, rfl, ha, ra, la⟩ := repT_tup rx
    obtain ⟨ns, rfl, rfl⟩ := sumInts_ok hn ra
    obtain ⟨its, rv, ⟨o, ho, hcl, m, hd⟩, _⟩ := I.tuple (sb.sqT ha)
    rw [Vals.ref1 r]
    obtain ⟨xs, ex⟩ := rv.ints.allInts.items
    have hn2 : numsOf (intItems xs).toList = ns := by rw [← ex]; exact rv.ints.numsOf
    rw [nums_intItems] at hn2
    refine PySem.W.ktm_sumG (xs := xs) (I.ok.hd hc) ⟨o, ho, hcl, m, by rw [hd, ex]⟩ fun h' tk t' hk => ?_
    rw [preSum_eq, List.take_of_length_le (by simp), hn2]
    exact ⟨.int _, H, I.kept hk, ⟨_, rfl⟩, postSame sb q (.int _)⟩
theorem ob_mulT1 : OpR X (binaryOp .Mult) (r2D false X.K mulT1) := by
  intro pins s σ H x y v u Q I rx ry ⟨F, dx, dy, d, sb, tx, ty, e, k⟩
  by_cases h : ∃ l, dx = .tup l ∧ dy = .int 1
  · obtain ⟨l, rfl, rfl⟩ := h
    cases e
    cases repT_int ty
    obtain ⟨hx, a, as, rfl, ha, ra, la⟩ := repT_tup tx
    obtain ⟨its, r, ⟨⟨cls, dd, data, sl⟩, ho, hc, n, hd⟩, hs⟩ := I.tuple (sb.sqT ha)
    simp only at hc hd
    subst hc hd
    cases rx
    obtain ⟨t, rfl⟩ := ry
    refine wpAny_binaryOp_repeat_ref (T := "tuple") (U := "int") (by decide) ⟨_, ho, rfl⟩ (fun s' => typeIs_int s' 1 t) noFill_tuple_mul PySem.F.fills_int_mul PySem.F.slot_int_rmul repeat_tuple PySem.F.slot_int_index.lookup
      (call_meets PySem.F.slot_int_rmul (typeIs_int s 1 t) PySem.F.entry_int_rmul (PySem.F.args_int_rmul_2 _ _) (int_rmul_tuple 1 t a its.toArray n dd sl)
        ⟨ho, rfl, ⟨_, ho, rfl⟩, call_meets PySem.F.slot_tuple_mul ⟨_, ho, rfl⟩ PySem.F.entry_tuple_mul (PySem.F.args_tuple_mul_2 _ _) (PySem.tuple_mul1 a its.toArray n dd sl t) ⟨ho, ?_⟩⟩)
    exact ⟨.ref a, H, I.kept fun _ _ h => h, rfl, postSame sb k hx⟩
  · refine ob_mul pins s σ H x y v u Q I rx ry ⟨F, dx, dy, d, sb, tx, ty, ?_, k⟩
    rw [← e]
    cases dx <;> first | rfl | skip
    cases dy <;> first | rfl | skip
    rename_i l j
    have : j ≠ 1 := fun z => h ⟨l, rfl, by rw [z]⟩
    simp [mulT1, this]
def itemsT : D → Option (List D)
  | .tup l => some l
  | x => itemsE x
def evEnmT (fa : Sl → Mem → Res Val) : Sl → Mem → Res (List D) := fun s M => (fa s M).bind fun v M1 => match v with
  | .d x => Res.of ((itemsT x).map (enumFrom 0)) M1
  | _ => .bad
/-- the items of a tuple, each in a new pair -/
def Itt (K : PySem.W.Frag) (a : Addr) : L2.It :=
  ⟨fun i H => ∃ (xs : List V) (x : V), SqT K H a xs ∧ xs[i]? = some x, fun i H v H' => ∃ T x, v = .ref T ∧ H T = none ∧ H' = upd H T (.tup [.int (i : Nat), x]) ∧ ∀ xs, SqT K H a xs → xs[i]? = some x, fun i H => ∃ xs : List V, SqT K H a xs ∧ i = xs.length⟩
theorem turn_enumT {P : Program} {w : World} {K : PySem.W.Frag} {elts : List Expr} {kk : Nat} {tpos : Pos} (a e it : Addr) :
    Turn P w K (.Tuple elts kk tpos) (Itt K a) [e, it] e (fun i h => (∃ old, IsEnum h e it ((i : Nat) : Int) old) ∧ h.IsTupleIter it a i ∧ e ≠ it) where
  mem := by simp
  obj := fun i h st b hb => by
    obtain ⟨⟨old, he⟩, ⟨o, ho, hc, hd⟩, _⟩ := st
    have e' : b = e ∨ b = it := by simpa using hb
    rcases e' with z | z
    · rw [z]; exact ⟨_, he, fun v q => nomatch q⟩
    · rw [z]; exact ⟨o, ho, fun v q => by rw [hd] at q; cases q⟩
  keep := fun i h h' st k => let ⟨⟨old, he⟩, ⟨o, ho, r⟩, hne⟩ := st; ⟨⟨old, k e (by simp) _ he⟩, ⟨o, k it (by simp) o ho, r⟩, hne⟩
  item := by
    intro X hP hw hK hc i pins s σ H E I hf st hg
    subst hP hw hK
    obtain ⟨⟨old, he⟩, hit, hne⟩ := st
    obtain ⟨xs, x, hq, hx⟩ := hg
    obtain ⟨its, rv, hp, hz⟩ := I.tuple hq
    obtain ⟨u, hu, ru⟩ := rv.get hx
    have hel : e < s.heap.objs.size := Heap.lt_size he
    have hil : it < s.heap.objs.size := by obtain ⟨_, q, _⟩ := hit; exact Heap.lt_size q
    have hat : a ≠ it := by
      rintro rfl
      obtain ⟨o1, h1, h2, _⟩ := hp
      obtain ⟨o2, h3, h4, _⟩ := hit
      rw [h1] at h3
      cases h3
      rw [h2] at h4
      simp at h4
    have hea : e ≠ a := by
      rintro rfl
      obtain ⟨o1, h1, h2, _⟩ := hp
      rw [he] at h1
      cases h1
      simp at h2
    refine wpAny_pyNext_enum_itemD (Draws.tuple (A := X.A.in1) (I.ok.hd hc) it a hat its.toArray) he ⟨hit, hp⟩ (by
      have := (List.getElem?_eq_some_iff.mp hu).1
      simpa using this) hne (by simp [hne, hea]) fun y h' tk hP ho hit' hT hsz hk => ?_
    have hy : y = u := by
      have : its[i]? = some y := by simpa using hP
      rw [hu] at this
      exact (Option.some.inj this).symm
    subst hy
    refine ⟨_, rfl, wpAny_letOwnedTupleGo_enum (s := { s with heap := h', toks := tk + 1 }) ho fun h'' he' sb => ?_⟩
    have hT2 : h''.get? s.heap.objs.size = some { cls := .type "tuple", data := .seq #[.int i tk, y] } := (sb.2 _ (Nat.ne_of_gt hel)).trans hT
    have new : ObjOk X.prog X.w (upd H s.heap.objs.size (.tup [.int (i : Nat), x])) h'' s.heap.objs.size (.tup [.int (i : Nat), x]) :=
      ⟨by show 2 ≤ sizeLine; decide, [.int i tk, y], .cons ⟨_, rfl⟩ (.cons ru .nil), ⟨_, hT2, rfl, _, rfl⟩⟩
    have I1 : L2.Inv X pins σ (upd H s.heap.objs.size (.tup [.int (i : Nat), x])) { s with heap := h'', toks := tk + 1 } :=
      I.turnedNew (ch := [e, it]) (fun b ob hb q => (sb.2 b (fun z => hb (by simp [z]))).trans (hk b ob (fun z => hb (by simp [z])) (fun z => hb (by simp [z])) q)) hf (Nat.le_refl _) new
    refine ⟨.ref s.heap.objs.size, _, I1, rfl, ⟨_, x, rfl, I.hok.fresh (Nat.le_refl _), rfl, fun ys hy => by rw [I.tuple_inj hy hq]; exact hx⟩, ⟨⟨y, ?_⟩, ?_, hne⟩, fun b hb => ?_⟩
    · have e1 : ((i + 1 : Nat) : Int) = (i : Int) + 1 := by omega
      rw [e1]; exact he'
    · obtain ⟨o, ho, r⟩ := hit'.1
      exact ⟨o, (sb.2 it (Ne.symm hne)).trans ho, r⟩
    · have hb' : b < s.heap.objs.size := by
        have e' : b = e ∨ b = it := by simpa using hb
        rcases e' with z | z
        · rw [z]; exact hel
        · rw [z]; exact hil
      rw [upd_ne (Nat.ne_of_lt hb')]
      exact (hf b hb).1
  done := by
    intro X hP hw hK hc i pins s σ H E I hf st hg
    subst hP hw hK
    obtain ⟨⟨old, he⟩, hit, hne⟩ := st
    obtain ⟨xs, hq, hx⟩ := hg
    obtain ⟨its, rv, hp, hz⟩ := I.tuple hq
    have hl := rv.length
    obtain ⟨f0, f1, f2, f3, f4, f5⟩ := hf it (by simp)
    have hat : a ≠ it := by
      rintro rfl
      obtain ⟨o1, h1, h2, _⟩ := hp
      obtain ⟨o2, h3, h4, _⟩ := hit
      rw [h1] at h3
      cases h3
      rw [h2] at h4
      simp at h4
    rw [hx, hl] at hit
    exact wpAny_pyNext_enum_endD (Draws.tuple (A := X.A.in1) (I.ok.hd hc) it a hat its.toArray) he ⟨by simpa using hit, hp⟩ fun h' eb => ⟨rfl, I.turned (t' := s.toks) (fun b o hb q => eb b o hb q) f0 f1 f3 f4 f5⟩
  self := fun A i s Q E st h => let ⟨⟨_, he⟩, _⟩ := st; wpAny_pyIter_enum he h
/-- enumerate(v): a list, a text or a tuple -/
def iEnmT (K : Fr) (ta : TA) : TI := fun σ H R => ta σ H fun vs H1 => ∃ x, vs = [x] ∧ ((∃ a xs, x = .ref a ∧ SqL K H1 a xs ∧ R (Ite K a) H1) ∨ (∃ a xs, x = .ref a ∧ SqT K H1 a xs ∧ R (Itt K a) H1) ∨ ∃ z, x = .str z ∧ R (Itse z) H1)
theorem pi_enmT {ta : TA} (hg : Gl X "enumerate") (hm : X.mg "enumerate" = none) (he : PA X [e] ta) (hp : plainArg e = true) : PI X (.Tuple elts kk tpos) (.Call (.Name "enumerate" p) [e] [] pos) (iEnmT X.K ta) := by
  refine ⟨fun pins s σ H R I h => ?_⟩
  refine Call_ (ld_blt I hg hm boot_enumerate (PyProof.Rows.callWith_type1 (thn (he.run pos pins s σ H _ I h) fun us s1 ⟨vs, H1, I1, r1, q1⟩ => ?_) (star_plain hp [] X.env) rfl))
  obtain ⟨x, ex, q1⟩ := q1
  subst ex
  cases r1 with
  | cons r rr =>
    cases rr
    have hfp : ∀ b, b ∈ [s1.heap.objs.size + 1, s1.heap.objs.size] → s1.heap.objs.size ≤ b := fun b hb => by
      have e' : b = s1.heap.objs.size + 1 ∨ b = s1.heap.objs.size := by simpa using hb
      rcases e' with z | z
      · rw [z]; exact Nat.le_add_right _ _
      · rw [z]; exact Nat.le_refl _
    rcases q1 with ⟨a, xs, rfl, hq, q⟩ | ⟨a, xs, rfl, hq, q⟩ | ⟨z, rfl, q⟩
    · cases r
      obtain ⟨its, rv, p', hz⟩ := I1.list hq
      refine call_enumerate_list p'.isList fun h' he hit hsz hk => wpAny_pyIter_enum he ?_
      have I2 : L2.Inv X pins σ H1 { s1 with heap := h' } := I1.kept (t' := s1.toks) hk
      exact ⟨s1.heap.objs.size + 1, [s1.heap.objs.size + 1, s1.heap.objs.size], _, _, H1, rfl, I2, turn_enum a (s1.heap.objs.size + 1) s1.heap.objs.size, ⟨⟨.none, he⟩, hit, Nat.succ_ne_self _⟩, fun b hb => I1.fpOk (hfp b hb) (I1.hok.fresh (hfp b hb)), q⟩
    · cases r
      obtain ⟨its, rv, p', hz⟩ := I1.tuple hq
      refine call_enumerate_tuple p' fun h' he hit hsz hk => wpAny_pyIter_enum he ?_
      have I2 : L2.Inv X pins σ H1 { s1 with heap := h' } := I1.kept (t' := s1.toks) hk
      exact ⟨s1.heap.objs.size + 1, [s1.heap.objs.size + 1, s1.heap.objs.size], _, _, H1, rfl, I2, turn_enumT a (s1.heap.objs.size + 1) s1.heap.objs.size, ⟨⟨.none, he⟩, hit, Nat.succ_ne_self _⟩, fun b hb => I1.fpOk (hfp b hb) (I1.hok.fresh (hfp b hb)), q⟩
    · obtain ⟨t, rfl⟩ := r
      refine call_enumerate_str fun h' he hit hsz hk => wpAny_pyIter_enum he ?_
      have I2 : L2.Inv X pins σ H1 { s1 with heap := h' } := I1.kept (t' := s1.toks) hk
      exact ⟨s1.heap.objs.size + 1, [s1.heap.objs.size + 1, s1.heap.objs.size], _, _, H1, rfl, I2, turn_enumS z t (s1.heap.objs.size + 1) s1.heap.objs.size, ⟨⟨.none, he⟩, hit, Nat.succ_ne_self _⟩, fun b hb => I1.fpOk (hfp b hb) (I1.hok.fresh (hfp b hb)), q⟩
theorem its_enumT {K : Fr} {F : Hp} {p : Addr} {vs : List V} {ds : List D} (hl : ds.length ≤ big) (h : SqT K F p vs) (r : Reps K F ds vs) : Its K F (enumFrom 0 ds) (Itt K p) where
  few := by rw [enumFrom_len]; exact hl
  goes := fun i H hi s => ⟨vs, vs[i]'(by rw [← r.length]; rwa [enumFrom_len] at hi), s.sqT h, by simp⟩
  stops := fun H s => ⟨vs, s.sqT h, by rw [enumFrom_len, r.length]⟩
  yields := fun i H x H' d F0 hd s0 s1 ⟨T, y, ex, hT, eH, hy⟩ => by
    obtain ⟨dx, h1, rfl⟩ := enumFrom_get ds 0 i d hd
    obtain ⟨v, hv, rv⟩ := r.get h1
    have z := hy vs ((s0.trans s1).sqT h)
    rw [hv] at z
    have z := Option.some.inj z
    subst z
    subst ex eH
    have n := NewF.alloc s1 hT (.tup [.int (i : Nat), v])
    refine ⟨_, n, Rep.tup (by show 2 ≤ big; decide) upd_same (.cons ?_ (.cons (rv.mono (s0.trans n.fr)) .nil))⟩
    rw [Int.zero_add]; exact .int _
theorem p_enmT {p tpos : Pos} {elts : List Expr} {kk : Nat} (hm : X.mg "enumerate" = none) (he : PE X e (LE false X.K fa)) (hg : Gl X "enumerate" := by rfl) (hp : plainArg e = true := by rfl) : PI X (.Tuple elts kk tpos) (.Call (.Name "enumerate" p) [e] [] pos) (LI X.K (evEnmT fa)) := by
  refine (pi_enmT hg hm (q_cons hp he q_nil) hp).imp fun σ H R ⟨δ, M, F, μ, xs, M', S, RS, e0, k⟩ => ?_
  obtain ⟨v, M1, e1, e0⟩ := bind_ok e0
  cases v with
  | ref n => cases e0
  | d y =>
    obtain ⟨h1, rfl⟩ := of_ok e0
    obtain ⟨l, hl, rfl⟩ := Option.map_eq_some_iff.mp h1
    refine ⟨δ, M, F, μ, [.d y], M', S, RS, by unfold evCons; rw [e1]; rfl, fun F1 μ1 H1 vs1 st1 S1 rs1 => ?_⟩
    cases rs1 with
    | cons r1 rr =>
      cases rr
      refine ⟨_, rfl, ?_⟩
      rename_i v1
      have r1' : Rep X.K F1 y v1 := r1
      cases r1' with
      | lst hz h r => cases hl; exact .inl ⟨_, _, rfl, S1.sub.sqL (SqL.of h), k F1 μ1 H1 _ st1 S1 (its_enumL hz (SqL.of h) r)⟩
      | scr hz h r => cases hl; exact .inl ⟨_, _, rfl, S1.sub.sqL h, k F1 μ1 H1 _ st1 S1 (its_enumL hz h r)⟩
      | tup hz h r => cases hl; exact .inr (.inl ⟨_, _, rfl, S1.sub.sqT (SqT.of h), k F1 μ1 H1 _ st1 S1 (its_enumT hz (SqT.of h) r)⟩)
      | str s hz => cases hl; exact .inr (.inr ⟨_, rfl, k F1 μ1 H1 _ st1 S1 (its_enumS hz)⟩)
      | _ => cases hl
end
end DL
end P_DLu
section P_DLs
set_option Elab.async false
set_option linter.all false
set_option maxRecDepth 100000
set_option maxHeartbeats 1000000
/-! rindex; sorted by what data say. -/
namespace DL
open PySem PySem.Spec PyProof.Rows L2 PySem.SeqAt
def tupN : D → Bool
  | .tup (_ :: _) => true
  | _ => false
def oneK : D → Bool
  | .int _ => true
  | .str _ => true
  | _ => false
def sortOk (l : List D) : Bool := D.plains l && ((toPys l).all fun x => (toPys l).all fun y => PySem.W.alike x y) && (l.all tupN || l.all oneK) && l.all fun x => decide ((toPy x).depth ≤ 60)
def leP (x y : D) : Bool := PySem.W.dataLe false toPy x y
def sortedL : List D → Option D
  | [.lst l] => if l.length ≤ 1000 ∧ sortOk l = true then some (.lst (l.mergeSort leP)) else none
  | _ => none
theorem toPys_map : ∀ l : List D, toPys l = l.map toPy
  | [] => rfl
  | x :: l => by show toPy x :: toPys l = _; rw [toPys_map l]; rfl
section
variable {X : Cx} {K : Fr} {F H : Hp}
theorem each_of : ∀ {l : List D} {as : List V} {its : List Value}, Reps K F l as → Vals as its → PySem.W.EachIs (fun v b => ∃ x : V, RelV x v ∧ Rep K F b x) its l
  | [], _, _, .nil, .nil => .nil
  | _ :: _, _, _, .cons r rs, .cons w ws => .cons ⟨_, w, r⟩ (each_of rs ws)
theorem of_each : ∀ {l : List D} {its : List Value}, PySem.W.EachIs (fun v b => ∃ x : V, RelV x v ∧ Rep K F b x) its l → ∃ as, Vals as its ∧ Reps K F l as
  | _, _, .nil => ⟨[], .nil, .nil⟩
  | _, _, .cons ⟨x, w, r⟩ t => by
    obtain ⟨as, h1, h2⟩ := of_each t
    exact ⟨x :: as, .cons w h1, .cons r h2⟩
theorem tupN_ok {x : D} (h : tupN x = true) : ∃ y r, toPy x = .tuple (y :: r) := by
  cases x <;> first | (cases h; done) | skip
  rename_i l
  cases l with
  | nil => cases h
  | cons a l => exact ⟨_, _, rfl⟩
theorem oneK_ok {x : D} (h : oneK x = true) : toPy x ≠ .none ∧ ∀ xs, toPy x ≠ .tuple xs := by
  cases x <;> first | (cases h; done) | exact ⟨fun e => (by cases e), fun _ e => (by cases e)⟩
theorem bb_sorted {k : Nat} (hr : Room k X.A) : CallR X (.builtin "sorted") (rLD true X.K sortedL) := by
  intro pins s σ H vs us Q I r ⟨F, xs, d, sb, tx, e, q⟩
  match xs, e, tx with
  | [.lst l], e, tx =>
    obtain ⟨v, rfl, rx⟩ := repTs_1 tx
    have e : (if l.length ≤ 1000 ∧ sortOk l = true then some (D.lst (l.mergeSort leP)) else none) = some d := e
    by_cases hc : l.length ≤ 1000 ∧ sortOk l = true
    case neg => rw [if_neg hc] at e; cases e
    rw [if_pos hc] at e
    cases e
    obtain ⟨hl, ho⟩ := hc
    unfold sortOk at ho
    simp only [Bool.and_eq_true] at ho
    obtain ⟨⟨⟨hp, hal⟩, hk⟩, hd⟩ := ho
    obtain ⟨a, as, rfl, ha, ra, la⟩ := repT_lst sb rx
    rw [Vals.ref1 r]
    obtain ⟨its, rv, pl, hz⟩ := I.list (SqL.of ha)
    obtain ⟨ws, rd⟩ := readsL I sb ra rv hp
    rw [toPys_map] at rd hal
    refine PySem.W.sorted_data (enc := toPy) pl.isList (each_of ra rv) (PySem.W.readsAll_each toPy rd) (fun x hx y hy => List.all_eq_true.mp (List.all_eq_true.mp hal x hx) y hy) ?_ (by rw [sizeLine_eq]; omega) (fun b hb => ?_) fun out hol eo => ?_
    · rw [Bool.or_eq_true] at hk
      rcases hk with hk | hk
      · exact .inl fun x hx => by
          obtain ⟨b, hb, rfl⟩ := List.mem_map.mp hx
          exact tupN_ok (List.all_eq_true.mp hk b hb)
      · exact .inr fun x hx => by
          obtain ⟨b, hb, rfl⟩ := List.mem_map.mp hx
          exact oneK_ok (List.all_eq_true.mp hk b hb)
    · have h1 : (toPy b).depth ≤ 60 := of_decide_eq_true (List.all_eq_true.mp hd b hb)
      have := hr.un
      omega
    · obtain ⟨as', rv', ra'⟩ := of_each eo
      obtain ⟨ep, he'⟩ := PyProof.Rows.sortedAll_at s.heap its out.toArray
      have hlen : (l.mergeSort leP).length = l.length := (List.mergeSort_perm l leP).length_eq
      have hla : as'.length ≤ sizeLine := by rw [← ra'.length, sizeLine_eq]; show (l.mergeSort leP).length ≤ _; omega
      exact ⟨.ref _, upd H (s.heap.objs.size + 1) (.lst as'), I.laid (t' := s.toks) (fun _ _ => PyProof.Rows.sortedAll_old) (Nat.le_succ _) ⟨hla, out, ep, rv', he'⟩, rfl, postNew sb q (by rw [hlen]; exact la) ra' (I.hok.fresh (Nat.le_succ _))⟩
/-! rindex -/
theorem last_enc {s : List Char} {c : Char} {n : Nat} (h : place (· == c) s.reverse = some n) : Builtin.Str.lastOccurrence (enc s) (enc [c]) 0 (enc s).length = some (s.length - 1 - n) := by
  obtain ⟨h1, h2, h3⟩ := place_spec h
  rw [List.length_reverse] at h1
  have at_ : ∀ i, StrLaws.At (enc s) (enc [c]) (enc s).length i ↔ s[i]? = some c := fun i => by
    show (i + (⟨#[c.toNat]⟩ : Str).length ≤ (enc s).length ∧ _) ↔ _
    rw [enc_one, StrLaws.subAt_one]
    show (s.map Char.toNat)[i]? = _ ↔ _
    rw [List.getElem?_map]
    constructor
    · intro e
      obtain ⟨a, ha, e⟩ := Option.map_eq_some_iff.mp e
      rw [ha, char_inj e]
    · intro e; rw [e]; rfl
  have hn : s[s.length - 1 - n]? = some c := by
    have e : s.reverse[n]? = some c := by
      rw [List.getElem?_eq_getElem (by rw [List.length_reverse]; exact h1)]
      rw [beq_iff_eq] at h2; rw [h2]
    rw [List.getElem?_reverse h1] at e
    exact e
  rcases StrLaws.last_spec (enc s) (enc [c]) with ⟨_, no⟩ | ⟨i, e, hi, hk⟩
  · exact absurd ((at_ _).mpr hn) (no _)
  · have hs := (at_ i).mp hi
    have hil : i < s.length := (List.getElem?_eq_some_iff.mp hs).1
    have e2 : i = s.length - 1 - n := by
      rcases Nat.lt_trichotomy i (s.length - 1 - n) with z | z | z
      · exact absurd ((at_ _).mpr hn) (hk _ z)
      · exact z
      · have hm : s.length - 1 - i < s.reverse.length := by rw [List.length_reverse]; omega
        have := h3 (s.length - 1 - i) hm (by omega)
        have e3 : s.reverse[s.length - 1 - i]? = some c := by
          rw [List.getElem?_reverse (by omega)]
          rw [show s.length - 1 - (s.length - 1 - i) = i by omega]; exact hs
        rw [List.getElem?_eq_getElem hm] at e3
        injection e3 with e3
        rw [e3] at this
        simp at this
    rw [← e2]; exact e
theorem me_rindex : MeFact X "rindex" "str" "str.rindex" (rMD false X.K (atKd .str (meD .rindex))) where
  pa := PySem.F.plainAttrs_str
  slot := PySem.F.slot_str_rindex
  ty := PySem.F.type_str_rindex
  rule := by
    intro pins s σ H x xs v us Q I rx rs ⟨F, dx, dxs, d, sb, tx, txs, e, q⟩
    unfold atKd at e
    split at e
    case isFalse => cases e
    cases dx <;> first | (rename_i h; cases h; done) | skip
    rename_i t _
    obtain ⟨rfl, _⟩ := repT_str tx
    match dxs, e, txs with
    | [.str [c]], e, txs =>
      obtain ⟨w, rfl, rw'⟩ := repTs_1 txs
      obtain ⟨rfl, _⟩ := repT_str rw'
      obtain ⟨n, hn, rfl⟩ := Option.map_eq_some_iff.mp (show (place (· == c) t.reverse).map (fun n : Nat => D.int (t.length - 1 - n : Nat)) = some d from e)
      have ho := last_enc hn
      obtain ⟨tk, rfl⟩ := rx
      cases rs with
      | cons r1 r2 =>
        cases r2
        obtain ⟨tk2, rfl⟩ := r1
        exact PySem.call_gives PySem.F.slot_str_rindex (typeIs_str _ _ _) PySem.F.entry_str_rindex (PySem.F.args_str_rindex_2 _ _) (gives_str_rindex _ _ tk tk2 _ ho) ⟨.int _, H, I.tok _, ⟨_, rfl⟩, postSame sb q (.int _)⟩
theorem tab_rindex : MeTab X false "rindex" (meD .rindex) := tab_str (.inr (.inr (.inl rfl))) me_rindex
end
end DL
end P_DLs
section P_DLdc
set_option Elab.async false
set_option linter.all false
set_option maxRecDepth 100000
set_option maxHeartbeats 1000000
/-! A dict of one text as data: made, compared; a text as a tuple. -/
namespace DL
open PySem PySem.Spec PyProof.Rows L2
theorem Step.freeze {b : Nat} {F F' : Hp} {μ μ' : List Addr} {H H' : Hp} (s : Step b F μ H F' μ' H') {p : Addr} (hp : H p = none) (hF : F' p = none) (o : HO) : Step b F μ H (upd F' p o) μ' H' where
  fr := fun a u h => by
    have q := s.fr a u h
    rw [upd_ne (ne_of_none q hF)]; exact q
  pre := s.pre
  new := s.new
  keep := s.keep
  up := s.up
  newF := fun a u h => by
    by_cases e : a = p
    · rw [e]; exact .inr (.inl hp)
    · rw [upd_ne e] at h; exact s.newF a u h
theorem Sim.freezeD {K : Fr} {F : Hp} {μ : List Addr} {M : Mem} {H : Hp} (S : Sim K F μ M H) {p : Addr} {o : HO} (hF : F p = none) (hH : H p = some o) (hm : p ∉ μ) : Sim K (upd F p o) μ M H where
  sub := fun a u h => by
    by_cases e : a = p
    · rw [e, upd_same] at h; cases h; rw [e]; exact hH
    · rw [upd_ne e] at h; exact S.sub a u h
  out := fun a h => by rw [upd_ne (fun e => hm (by rw [← e]; exact h))]; exact S.out a h
  nd := S.nd
  len := S.len
  obj := fun i u a q1 q2 => by
    have q := S.obj i u a q1 q2
    have sb : Sub F (upd F p o) := fun a u h => by rw [upd_ne (ne_of_none h hF)]; exact h
    exact q.mono sb
def evDic1 (fk fv : Sl → Mem → Res Val) : Sl → Mem → Res Val := fun s M => (fk s M).bind fun u M1 => (fv s M1).bind fun w M2 => match u, w with
  | .d (.str k), .d (.int i) => .ok (.d (.dic [(.str k, .int i)])) M2
  | _, _ => .bad
section
variable {X : Cx} {a b : Expr} {fk fv : Sl → Mem → Res Val} {pos : Pos}
theorem p_dic1 (hk : PE X a (LE false X.K fk)) (hv : PE X b (LE false X.K fv)) : PE X (.Dict [some a] [b] pos) (LE false X.K (evDic1 fk fv)) := by
  refine (pe_disp (pps_cons hk hv pps_nil) rfl rfl (by simp) (show 1 ≤ 15 by decide)).imp fun σ H Q ⟨δ, M, F, μ, x, M', S, R, e0, kk⟩ => ?_
  obtain ⟨u, M1, e1, e0⟩ := bind_ok e0
  obtain ⟨w, M2, e2, e0⟩ := bind_ok e0
  match u, w, e1, e2, e0 with
  | .d (.str k), .d (.int i), e1, e2, e0 =>
    cases e0
    intro p hp
    have Fp : F p = none := by
      cases q : F p with
      | none => rfl
      | some o => rw [S.sub p o q] at hp; cases hp
    have mp : p ∉ μ := fun z => S.tracked z hp
    have S0 := S.updNew Fp mp (.dK [])
    refine ⟨δ, M, F, μ, _, M1, S0, R, e1, fun F1 μ1 H1 v1 st1 S1 r1 => ?_⟩
    refine ⟨δ, M1, F1, μ1, _, M', S1, R.mono st1.fr st1.whole, e2, fun F2 μ2 H2 v2 st2 S2 r2 => ?_⟩
    obtain ⟨h1, F1p, m1⟩ := st1.apart S1.sub upd_same Fp mp
    obtain ⟨h2, F2p, m2⟩ := st2.apart S2.sub h1 F1p m1
    have r1' : Rep X.K F1 (.str k) v1 := r1
    have r2' : Rep X.K F2 (.int i) v2 := r2
    cases r1'
    cases r2'
    refine ⟨h2, [(Sum.inr (enc k), V.int i)], rfl, show 1 ≤ 15 by decide, ?_⟩
    have st12 := st1.transE st2
    have st : StepE F μ H F2 μ2 H2 := ⟨st12.fr, st12.pre, fun a ha => by
      rcases st12.new a ha with q | q
      · exact .inl q
      · by_cases e : a = p
        · rw [e, upd_same] at q; cases q
        · rw [upd_ne e] at q; exact .inr q, fun a o h n => st12.keep a o (by rw [upd_ne (ne_of_none h hp)]; exact h) n, fun a h => by
      have q := st12.up a h
      by_cases e : a = p
      · rw [e]; exact hp
      · rwa [upd_ne e] at q, fun a o h => by
      rcases st12.newF a o h with q | q | q
      · exact .inl q
      · by_cases e : a = p
        · rw [e]; exact .inr (.inl hp)
        · rw [upd_ne e] at q; exact .inr (.inl q)
      · exact .inr (.inr q)⟩
    have em : mergeK [] [((Sum.inr (enc k) : Key), V.int i)] = [(Sum.inr (enc k), V.int i)] := rfl
    rw [em]
    have S3 := (S2.updNew F2p m2 (.dK [(Sum.inr (enc k), V.int i)])).freezeD F2p upd_same m2
    refine kk _ μ2 _ _ ((st.updNew hp _).freeze hp F2p _) S3 ?_
    exact Rep.dic [(k, i)] (by simp) upd_same
/-! == of such dicts -/
def dicS : List (D × D) → List (D × D) → Bool
  | [], [] => true
  | (.str a, .int i) :: l, (.str b, .int j) :: k => a == b && i == j && dicS l k
  | _, _ => false
theorem dicS_eq : ∀ {l k : List (List Char × Int)}, dicS (l.map fun p => (D.str p.1, D.int p.2)) (k.map fun p => (D.str p.1, D.int p.2)) = true → l = k
  | [], [], _ => rfl
  | [], _ :: _, h => by cases h
  | _ :: _, [], h => by cases h
  | (a, i) :: l, (b, j) :: k, h => by
    have h : (a == b && i == j && dicS _ _) = true := h
    rw [Bool.and_eq_true, Bool.and_eq_true, beq_iff_eq, beq_iff_eq] at h
    rw [h.1.1, h.1.2, dicS_eq h.2]
def eqC : D → D → Option D
  | .dic l, .dic k => if dicS l k = true then some (.bl true) else none
  | x, y => cmpV .eq x y
theorem ob_eqC {k : Nat} (hr : Room k X.A) : OpR X (compareOp .Eq) (r2D false X.K eqC) := by
  intro pins s σ H x y v u Q I rx ry ⟨F, dx, dy, d, sb, tx, ty, e, q⟩
  by_cases hd : (∃ l k, dx = .dic l ∧ dy = .dic k)
  · obtain ⟨l, k, rfl, rfl⟩ := hd
    obtain ⟨a, l', rfl, rfl, nd, ha⟩ := repT_dic tx
    obtain ⟨b, k', rfl, rfl, _, hb⟩ := repT_dic ty
    have e : (if dicS _ _ = true then some (D.bl true) else none) = some d := e
    split at e
    case isFalse => cases e
    rename_i hs
    cases e
    obtain rfl := dicS_eq hs
    refine op_eq_dict (by have := hr.units; omega) pins s σ H _ _ v u Q I rx ry ⟨a, b, _, rfl, rfl, sb _ _ ha, sb _ _ hb, ?_, fun p hp => ?_, postSame sb q (.bl true)⟩
    · rw [List.map_map]
      have : (l'.map ((fun kv : Key × V => kv.1) ∘ fun p : List Char × Int => ((Sum.inr (enc p.1) : Key), V.int p.2))) = (l'.map (·.1)).map fun t => (Sum.inr (enc t) : Key) := by rw [List.map_map]; rfl
      rw [this]
      exact List.pairwise_map.mpr (nd.imp fun h z => h (enc_inj (Sum.inr.inj z)))
    · obtain ⟨p', _, rfl⟩ := List.mem_map.mp hp
      rfl
  · have e2 : eqC dx dy = cmpV .eq dx dy := by
      cases dx <;> cases dy <;> first | rfl | exact absurd ⟨_, _, rfl, rfl⟩ hd
    rw [e2] at e
    exact ob_eq hr pins s σ H x y v u Q I rx ry ⟨F, dx, dy, d, sb, tx, ty, e, q⟩
/-! tuple of a text -/
def tupSD : List D → Option D
  | [.str s] => some (.tup (s.map fun c => .str [c]))
  | xs => biD .tuple xs
theorem meets_tuple_str (x : Str) (t : Tok) (hsz : x.cps.size ≤ sizeLine) :
    Meets (Builtin.«tuple.__new__» ⟨[.type "tuple", .str x t], []⟩)
      (fun A R s => A.handled = none ∧ ∀ (s' : Shared) (acc : Array Value), (∀ b o', s.heap.get? b = some o' → s'.heap.get? b = some o') → s'.gens = s.gens → s'.drawn = s.drawn → s'.os = s.os → ItemsOf (SignAt x) acc x.cps.size →
        R (.ok (.ret (.ref s'.heap.objs.size))) { s' with heap := s'.heap.push { cls := .type "tuple", data := .seq acc } }) :=
  .of_wp fun prog w A R s h => by
    obtain ⟨hp, g, d, tk, os⟩ := s
    obtain ⟨hA, h⟩ := h
    have hsub := sub_tuple_self
    have hinit := init_tuple_lookup
    have hmh := madeHere_tuple
    have hT : Shared.TypeIs ⟨hp, g, d, tk, os⟩ (.str x t) "str" := rfl
    wp_walk using wpAny_typeOf hT, wpAny_collect_str (A := A.in1) (hn := hsz) hA x t
    intro s' acc hk h1 h2 h3 hacc
    show wpAny _ _ (Builtin.Tuple.tupleExact acc.toList.toArray >>= fun v => ret v) _ _ _
    unfold Builtin.Tuple.tupleExact
    refine wpAny_bind (wpAny_newObj_type ?_ (by show acc.toList.toArray.size ≤ sizeLine; simp only [Array.toArray_toList]; rw [hacc.1]; exact hsz))
    refine wpAny_pure ⟨_, rfl, ?_⟩
    have e : acc.toList.toArray = acc := by simp
    rw [e]
    exact h s' acc hk h1 h2 h3 hacc
theorem call_tuple_str {prog : Program} {w : World} {A : Around} {E : Value → Shared → Prop} {s : Shared} {x : Str} {t : Tok} {Q : Value → Shared → Prop} (hA : A.handled = none) (hsz : x.cps.size ≤ sizeLine)
    (h : ∀ (h1 : Heap) (t' : Nat) (acc : Array Value), (∀ b o', s.heap.get? b = some o' → h1.get? b = some o') → ItemsOf (SignAt x) acc x.cps.size → Q (.ref h1.objs.size) { s with heap := h1.push { cls := .type "tuple", data := .seq acc }, toks := t' }) :
    wpAny (model prog w) A (call (.type "tuple") [.str x t]) Q E s := by
  refine callType_new F.called_tuple (by decide) (F.typeCall_tuple_1 _) (F.newCall_tuple_1 _) (fun obj => F.args_object_init_2 obj _) F.entry_tuple_new
    (meets_tuple_str x t hsz) ⟨hA, fun s' acc hk h1 h2 h3 hacc => ?_⟩
  obtain ⟨hp', g', dd', tk', os'⟩ := s'
  replace h1 : g' = s.gens := h1
  replace h2 : dd' = s.drawn := h2
  replace h3 : os' = s.os := h3
  subst h1 h2 h3
  exact ⟨⟨_, Heap.get?_push_size _ rfl, rfl⟩, h hp' tk' acc hk hacc⟩
theorem bb_tupS (hc : X.calm = true) : CallR X (.type "tuple") (rLD false X.K tupSD) := by
  intro pins s σ H vs us Q I r ⟨F, xs, d, sb, tx, e, q⟩
  by_cases hs : ∃ t, xs = [.str t]
  · obtain ⟨t, rfl⟩ := hs
    obtain ⟨v, rfl, rx⟩ := repTs_1 tx
    cases e
    obtain ⟨rfl, la⟩ := repT_str rx
    obtain ⟨u, rfl, tk, rfl⟩ := vals1 r
    have hsz : (enc t).cps.size ≤ sizeLine := by rw [enc_size]; exact big_ge la
    refine call_tuple_str (I.ok.hd hc) hsz fun h1 t' acc hk hi => ?_
    have rv : Vals (t.map fun c => V.str (enc [c])) acc.toList := by
      refine signs_vals t _ (by rw [Array.length_toList, hi.1, enc_size]) fun i h => ?_
      obtain ⟨c, u, hc, e⟩ := hi.2 i acc.toList[i] (by rw [← Array.getElem?_toList]; exact List.getElem?_eq_getElem h)
      exact ⟨u, by rw [e, hc]; rfl⟩
    have I1 : L2.Inv X pins σ H { s with heap := h1, toks := t' } := I.kept (t' := t') hk
    have hp : H h1.objs.size = none := I1.hok.fresh (Nat.le_refl _)
    refine ⟨.ref h1.objs.size, _, I1.laid (t' := t') (h' := h1.push { cls := .type "tuple", data := .seq acc }) (fun b o q => Heap.get?_push_of_some _ q) (Nat.le_refl _) (show ObjOk X.prog X.w _ _ _ (.tup _) from ⟨by rw [List.length_map]; exact big_ge la, acc.toList, rv, ⟨_, Heap.get?_push_size _ rfl, rfl, 0, by simp⟩⟩), rfl, ?_⟩
    exact postTup sb q (by rw [List.length_map]; exact la) (reps_chars t) hp
  · have e2 : tupSD xs = biD .tuple xs := by
      unfold tupSD
      split
      · exact absurd ⟨_, rfl⟩ hs
      · rfl
    rw [e2] at e
    exact bb_tuple pins s σ H vs us Q I r ⟨F, xs, d, sb, tx, e, q⟩
/-! sorted of a text -/
def sortedSx : List D → Option D
  | [.str s] => if s.length ≤ 1000 then some (.lst ((s.map fun c => D.str [c]).mergeSort leP)) else none
  | xs => sortedL xs
def SgR (v : Value) (b : D) : Prop := ∃ (c : Char) (t : Tok), b = .str [c] ∧ v = .str (enc [c]) t
theorem sorted_str {prog : Program} {w : World} {A : Around} {E : Value → Shared → Prop} {s : Shared} {l : List Char} {t : Tok} {Q : Value → Shared → Prop} (hA : A.handled = none) (hu : A.units + 64 < cLine) (hl : l.length ≤ 1000)
    (h : ∀ (h0 h1 : Heap) (t' : Nat) (out : List Value) (n : Nat), (∀ b o', s.heap.get? b = some o' → h0.get? b = some o') → (∀ b o', h0.get? b = some o' → h1.get? b = some o') → h1.get? h0.objs.size = some (PyProof.Rows.seqObj "list" out.toArray n) → PySem.W.EachIs SgR out ((l.map fun c => D.str [c]).mergeSort leP) →
      Q (.ref h0.objs.size) { s with heap := h1, toks := t' }) :
    wpAny (model prog w) A (call (.builtin "sorted") [.str (enc l) t]) Q E s := by
  have hsz : (enc l).cps.size ≤ sizeLine := by rw [enc_size, sizeLine_eq]; omega
  refine Calls.call_function_entry PyProof.Rows.kind_sorted PyProof.Rows.plain_sorted PyProof.Rows.entry_sorted (PyProof.Rows.args_sorted1 _) ?_
  unfold Builtin.«sorted»
  refine wpAny_bind (m := checkCount "sorted" 1 1 _) (wpAny_pure ?_)
  refine wpAny_bind (wpAny_collect_str (A := A.in1) hA (enc l) t (fun s' acc hk h1 h2 h3 hacc => ?_) hsz)
  have hL : acc.toList.length ≤ sizeLine := by rw [Array.length_toList, hacc.1]; exact hsz
  refine wpAny_bind (wpAny_newList ?_ hL)
  obtain ⟨hp', g', dd', tk', os'⟩ := s'
  replace h1 : g' = s.gens := h1
  replace h2 : dd' = s.drawn := h2
  replace h3 : os' = s.os := h3
  subst h1 h2 h3
  have each : ∀ (its : List Value) (cs : List Char), its.length = cs.length → (∀ j v, its[j]? = some v → SignAt (enc cs) j v) → PySem.W.EachIs SgR its (cs.map fun c => D.str [c]) := by
    intro its
    induction its with
    | nil => intro cs e _; cases cs with | nil => exact .nil | cons _ _ => cases e
    | cons v its ih =>
      intro cs e hj
      cases cs with
      | nil => cases e
      | cons c cs =>
        refine .cons ?_ (ih cs (by simpa using e) fun j u hu => ?_)
        · obtain ⟨x, t, hx, rfl⟩ := hj 0 v rfl
          have : x = c.toNat := by
            have : some c.toNat = some x := hx
            exact (Option.some.inj this).symm
          rw [this]
          exact ⟨c, t, rfl, rfl⟩
        · obtain ⟨x, t, hx, rfl⟩ := hj (j + 1) u hu
          exact ⟨x, t, by simpa [enc] using hx, rfl⟩
  have eI := each acc.toList l (by rw [Array.length_toList, hacc.1, enc_size]) fun j v hv => hacc.2 j v (by simpa using hv)
  have ho : (hp'.push { cls := .type "list", data := .seq acc.toList.toArray }).get? hp'.objs.size = some (PyProof.Rows.seqObj "list" acc.toList.toArray 0) := Heap.get?_push_size _ rfl
  refine wpAny_bind (wpAny_holding (PySem.W.list_sort_data (enc := toPy) (R := SgR) ho eI ?_ ?_ ?_ ?_ ?_ fun out hol eo => ?_))
  · exact eI.mono fun v b ⟨c, t, h1, h2⟩ => ⟨[], by rw [h1, h2]; exact .str _ _, by simp⟩
  · intro x hx y hy
    obtain ⟨b1, hb1, rfl⟩ := List.mem_map.mp hx
    obtain ⟨b2, hb2, rfl⟩ := List.mem_map.mp hy
    obtain ⟨c1, _, rfl⟩ := List.mem_map.mp hb1
    obtain ⟨c2, _, rfl⟩ := List.mem_map.mp hb2
    rfl
  · refine .inr fun x hx => ?_
    obtain ⟨b, hb, rfl⟩ := List.mem_map.mp hx
    obtain ⟨c, _, rfl⟩ := List.mem_map.mp hb
    exact oneK_ok rfl
  · rw [List.length_map]
    show l.length ≤ _
    rw [sizeLine_eq]; omega
  · intro b hb
    obtain ⟨c, _, rfl⟩ := List.mem_map.mp hb
    show A.units + 1 + 1 + (toPy (D.str [c])).depth < cLine
    have : (toPy (D.str [c])).depth ≤ 1 := by first | exact Nat.zero_le _ | exact Nat.le_refl _
    omega
  · refine wpAny_pure ⟨_, rfl, ?_⟩
    obtain ⟨n, hn⟩ := PyProof.Rows.sortedHeap_at (out := out.toArray) ho
    refine h hp' _ tk' out n hk (fun b o q => ?_) hn eo
    have hlt : b < hp'.objs.size := Heap.lt_size q
    rw [PyProof.Rows.sortedHeap_old (Nat.ne_of_lt hlt) (by rw [Heap.size_push]; exact Nat.lt_succ_of_lt hlt)]
    exact Heap.get?_push_of_some _ q
theorem bb_sortedS (hc : X.calm = true) {k : Nat} (hr : Room k X.A) : CallR X (.builtin "sorted") (rLD true X.K sortedSx) := by
  intro pins s σ H vs us Q I r ⟨F, xs, d, sb, tx, e, q⟩
  by_cases hs : ∃ t, xs = [.str t]
  · obtain ⟨t, rfl⟩ := hs
    obtain ⟨v, rfl, rx⟩ := repTs_1 tx
    have e : (if t.length ≤ 1000 then some (D.lst ((t.map fun c => D.str [c]).mergeSort leP)) else none) = some d := e
    split at e
    case isFalse => cases e
    rename_i hl
    cases e
    obtain ⟨rfl, la⟩ := repT_str rx
    obtain ⟨u, rfl, tk, rfl⟩ := vals1 r
    refine sorted_str (I.ok.hd hc) (by have := hr.un; omega) hl fun h0 h1 t' out n k0 k1 ho eo => ?_
    have I1 : L2.Inv X pins σ H { s with heap := h0, toks := t' } := I.kept (t' := t') k0
    have hp : H h0.objs.size = none := I1.hok.fresh (Nat.le_refl _)
    obtain ⟨as', rv', ra'⟩ : ∃ as, Vals as out ∧ Reps X.K F ((t.map fun c => D.str [c]).mergeSort leP) as := by
      generalize (t.map fun c => D.str [c]).mergeSort leP = bs at eo
      clear ho q
      induction eo with
      | nil => exact ⟨[], .nil, .nil⟩
      | cons h t ih =>
        obtain ⟨c, tk, rfl, rfl⟩ := h
        obtain ⟨as, h1, h2⟩ := ih
        exact ⟨.str (enc [c]) :: as, .cons ⟨tk, rfl⟩ h1, .cons (.str [c] (show 1 ≤ big by decide)) h2⟩
    have hlen : ((t.map fun c => D.str [c]).mergeSort leP).length = t.length := by rw [List.length_mergeSort, List.length_map]
    have hla : as'.length ≤ sizeLine := by rw [← ra'.length, hlen, sizeLine_eq]; omega
    exact ⟨.ref _, upd H h0.objs.size (.lst as'), I1.laid (t' := t') k1 (Nat.le_refl _) (show ObjOk X.prog X.w _ _ _ (.lst as') from ⟨hla, out, n, rv', ho⟩), rfl, postNew sb q (by rw [hlen]; exact la) ra' hp⟩
  · have e2 : sortedSx xs = sortedL xs := by
      unfold sortedSx
      split
      · exact absurd ⟨_, rfl⟩ hs
      · rfl
    rw [e2] at e
    exact bb_sorted hr pins s σ H vs us Q I r ⟨F, xs, d, sb, tx, e, q⟩
end
end DL
end P_DLdc
section P_DLj
set_option Elab.async false
set_option linter.all false
set_option maxRecDepth 100000
set_option maxHeartbeats 1000000
/-! sep.join(d), d a dict whose keys are texts. -/
namespace DL
open PySem PySem.Spec PyProof.Rows L2
theorem nolen_dk : typeLookup (.type "dict_keyiterator") "__len__" = pure none := by rw [typeLookup_type, builtinLookup_eq_fast]; kernel_rfl
theorem hint_dk : typeLookup (.type "dict_keyiterator") "__length_hint__" = pure (some (.builtin "dict_keyiterator.__length_hint__")) := by rw [typeLookup_type, builtinLookup_eq_fast]; kernel_rfl
section
variable {prog : Program} {w : World} {A : Around} {E : Value → Shared → Prop} {s : Shared} {I : Addr} {fp wr : List Addr} {G : Array GenState → Array GenState → Prop} {n : Nat} {P : Nat → Value → Prop} {St : Nat → Shared → Prop}
theorem collect_dk {Q : List Value → Shared → Prop} (W : WalksS prog w A.in1 I fp wr G n P St) (hT : ∀ i s, St i s → s.TypeIs (.ref I) "dict_keyiterator") (hst : St 0 s) (hfp : ∀ b ∈ fp, b < s.heap.objs.size) (hI : I ∈ fp)
    (hQ : ∀ s' acc, Moved wr G s s' → ItemsOf P acc n → Q acc.toList s') (hn : n ≤ sizeLine) : wpAny (model prog w) A (collect (.ref I)) Q E s := by
  have hSf : s.heap.objs.size ∉ fp := fun hm => Nat.lt_irrefl _ (hfp _ hm)
  have hSI : s.heap.objs.size ≠ I := fun e => hSf (e ▸ hI)
  unfold collect
  refine wpAny_bind (wpAny_runValue (codeAny_builtin PySem.F.entry_proto_collect ?_))
  rw [Around.under_plainId PySem.F.plain_proto_collect _]
  show wpAny _ A.in1 (newList [] >>= fun l => again (.builtin "list.__iadd__" ⟨[l, .ref I], []⟩)) _ _ s
  refine wpAny_bind (wpAny_newObj_type ?_)
  refine wpAny_pure ⟨plainId_quiet PySem.F.plain_list_iadd _, codeAny_builtin PySem.F.entry_list_iadd ?_⟩
  rw [Around.under_plainId PySem.F.plain_list_iadd _]
  have hst₁ := W.frame 0 s (s.heap.push { cls := .type "list", data := .seq ([] : List Value).toArray }) s.toks hst (Nat.le_refl _) fun b _ o e => Heap.get?_push_of_some _ e
  have hS₁ : (s.heap.push { cls := .type "list", data := .seq ([] : List Value).toArray }).get? s.heap.objs.size = some { cls := .type "list", data := .seq ([] : List Value).toArray } := Heap.get?_push_size _ rfl
  have h1 : Builtin.List.listSameRef (.ref s.heap.objs.size) (.ref I) = false := by simp [Builtin.List.listSameRef, hSI]
  show wpAny _ A.in1 (Builtin.List.listExtendWith (.ref s.heap.objs.size) (.ref I) (.ref s.heap.objs.size)) _ _ _
  unfold Builtin.List.listExtendWith
  refine wpAny_bind (wpAny_typeOf (hT 0 _ hst₁) ?_)
  rw [if_neg (by rw [h1]; decide)]
  refine wpAny_bind (W.self 0 _ _ _ hst₁ ?_)
  refine wpAny_bind (wpAny_holding ?_)
  unfold Builtin.List.listLengthHint
  refine wpAny_bind (wpAny_specialOf (hT 0 _ hst₁) nolen_dk ?_)
  show wpAny _ A.in1 (specialOf (Value.ref I) (Str.ofString "__length_hint__") >>= _) _ _ _
  refine wpAny_bind (wpAny_specialOf (hT 0 _ hst₁) hint_dk ?_)
  (generalize hid : ("dict_keyiterator.__length_hint__" : String) = id0; (fail_if_success (clear hid id0)); wp_delta; rw [show splitId id0 = some ("dict_keyiterator", "__length_hint__") from by subst hid; decide +kernel]; subst hid)
  refine wpAny_bind (wpAny_isInstance (b := true) (hT 0 _ hst₁) (by rw [isSubtype_type]; kernel_rfl) ?_)
  refine wpAny_pure ?_
  rw [if_neg (by decide)]
  refine wpAny_pure ⟨plainId_quiet PySem.F.plain_extend_loop _, codeAny_extend_loopS W hn _ hSf _ n 0 _ _ _ rfl (Nat.zero_le _) hst₁ hS₁ (ItemsOf.nil P) fun s' acc' c' hm hS' hacc => ?_⟩
  show wpAny _ A (load s.heap.objs.size >>= _) _ _ s'
  refine wpAny_bind (wpAny_load hS' ?_)
  exact wpAny_pure (hQ s' acc' (Moved.drop_new (o := { cls := .type "list", data := .seq ([] : List Value).toArray }) (tk := s.toks) hm (Nat.le_refl _)) hacc)
end
theorem strs_keys : ∀ {l : List Value} {ks : List Str}, l.length = ks.length → (∀ (j : Nat) (v : Value), l[j]? = some v → ∃ (y : Str) (t : Tok), ks[j]? = some y ∧ v = Value.str y t) → StrsAre l ks
  | [], [], _, _ => .nil
  | [], _ :: _, h, _ => by cases h
  | _ :: _, [], h, _ => by cases h
  | v :: l, y :: ks, h, k => by
    obtain ⟨y', t, e1, e2⟩ := k 0 v rfl
    cases e1
    subst e2
    exact .cons y t (strs_keys (by simpa using h) fun j w hw => k (j + 1) w hw)
section
variable {prog : Program} {w : World} {A : Around} {E : Value → Shared → Prop} {s : Shared}
theorem join_dict {x : Str} {t : Tok} {d : Addr} {kvs : List (Key × Value)} {ep : Nat} {ys : List Str} {Q : Value → Shared → Prop} (lo : (d == sysModules) = false) (hh : A.handled = none) (hm : s.heap.DictAt (mixKind prog w) d kvs ep) (hz : kvs.length ≤ sizeLine)
    (hk : kvs.map (·.1) = ys.map Sum.inr) (hok : (ys.map (·.length)).sum + ys.length * x.length ≤ 16777216)
    (hq : ∀ h' t' k, (∀ b o, s.heap.get? b = some o → h'.get? b = some o) → Q (.str (Txt.join x ys) t') { s with heap := h', toks := k }) :
    wpAny (model prog w) A (call (.builtin "str.join") [.str x t, .ref d]) Q E s := by
  refine wpAny_call (codeAny_call_builtin PySem.F.slot_str_join.plain PySem.F.entry_str_join (PySem.F.slot_str_join.check _ _ _ _ _ _ _ _ (typeIs_str _ _ _) (PySem.F.args_str_join_2 _ _) ?_))
  rw [join_tree_other]
  refine wpAny_bind (wpAny_typeOf (T := "dict") hm.dictOf.typeIs ?_)
  show wpAny _ A.in1 ((pyIter (.ref d)).tryCatch _ >>= fun it => collect it >>= fun items => joinTail x items) _ _ s
  refine wpAny_bind (wpAny_tryCatch (wpAny_pyIter_dict lo hm ?_))
  have hd := hm.lt_size
  have W := (Walks.dictKeys (prog := prog) (w := w) (A := A.in1.in1) (knd := mixKind prog w) (by simp [hh]) s.heap.objs.size d (Nat.ne_of_lt hd) kvs ep).toS
  have hl : kvs.length = ys.length := by have := congrArg List.length hk; simpa using this
  refine wpAny_bind (collect_dk (s := ({ s with heap := s.heap.push { cls := .type "dict_keyiterator", data := .fields #[.ref d, .int 0 0, .int kvs.length 0, .int ep 0] } } : Shared)) W (fun i s st => st.1.typeIs) ⟨⟨_, Heap.get?_push_size _ rfl, rfl, rfl⟩, hm.push _⟩ (fun b hb => ?_) (by simp) (fun s' acc hmv hacc => ?_) hz)
  · have e : ({ s with heap := s.heap.push { cls := .type "dict_keyiterator", data := .fields #[.ref d, .int 0 0, .int kvs.length 0, .int ep 0] } } : Shared).heap.objs.size = s.heap.objs.size + 1 := Heap.size_push ..
    rw [e]
    simp only [List.mem_cons, List.not_mem_nil, or_false] at hb
    rcases hb with hb | hb
    · rw [hb]; exact Nat.lt_succ_self _
    · rw [hb]; exact Nat.lt_succ_of_lt hd
  · have hs : StrsAre acc.toList ys := strs_keys (by rw [Array.length_toList, hacc.1, hl]) fun j v hv => by
      obtain ⟨k, y, hky, hi⟩ := hacc.2 j v (by rw [← Array.getElem?_toList]; exact hv)
      have e1 : (ys.map Sum.inr)[j]? = some k := by rw [← hk, List.getElem?_map, hky]; rfl
      rw [List.getElem?_map] at e1
      obtain ⟨z, hz2, rfl⟩ := Option.map_eq_some_iff.mp e1
      have hi' : keyIs (Sum.inr z) v = true := hi
      obtain ⟨t, e⟩ := keyIs_rel hi'
      exact ⟨z, t, hz2, e⟩
    obtain ⟨l, hl2, ht⟩ := strsAre_values hs
    subst ht
    rw [hl2]
    have hok' := joinOk_of hok
    unfold JoinOk at hok'
    rw [Bool.not_eq_true'] at hok'
    have g : Gives (joinTail x (strValues l)) (joinMade x l) := by
      have g0 := gives_joinTail x l hok'
      cases l with
      | nil => exact g0
      | cons p r => cases r with
        | nil => exact g0
        | cons q r' => exact g0
    refine g prog w A (wants Q E) s' (post_join l ⟨joinFit_length hok', fun t' k => ?_⟩)
    obtain ⟨h', g', d', tk', os'⟩ := s'
    have eg : g' = s.gens := hmv.gens
    have ed : d' = s.drawn := hmv.drawn
    have eo : os' = s.os := hmv.os
    subst eg; subst ed; subst eo
    refine hq h' t' k fun b o e => ?_
    exact hmv.heap b o (by simp only [List.mem_cons, List.not_mem_nil, or_false]; exact Nat.ne_of_lt (Heap.lt_size e)) (Heap.get?_push_of_some _ e)
end
section
variable {X : Cx}
def rJoinD : V → List V → Hp → VK → Prop := fun x xs H Q => ∃ (a : Str) (p : Addr) (kvs : List (Key × V)) (ys : List Str), x = .str a ∧ xs = [.ref p] ∧ H p = some (.dK kvs) ∧ kvs.map (·.1) = ys.map Sum.inr ∧
  (ys.map (·.length)).sum + ys.length * a.length ≤ 16777216 ∧ Q (.str (Txt.join a ys)) H
theorem mt_joinD (hc : X.calm = true) : MtR X "str.join" rJoinD := by
  intro pins s σ H x xs v us Q I rx rs h
  obtain ⟨a, p, kvs, ys, rfl, rfl, hp, hk, hz, h⟩ := h
  obtain ⟨t, rfl⟩ := rx
  cases rs with
  | cons r1 rs =>
    cases rs
    cases r1
    obtain ⟨z, lo, vs, rk, hd⟩ := (show ObjOk X.prog X.w H s.heap p (.dK kvs) from I.hok p _ hp)
    obtain ⟨ep, hat⟩ := hd.dictAt
    refine join_dict (kvs := vs) (ys := ys) lo (I.ok.hd hc) hat (by rw [← Paired.length rk]; exact z) (by rw [← KV.keys rk]; exact hk) hz fun h' t' k kp => ?_
    exact ⟨.str _, H, (I.kept (h' := h') (t' := k) kp), ⟨t', rfl⟩, h⟩
end
end DL
end P_DLj
section P_DLk
set_option Elab.async false
set_option linter.all false
set_option maxRecDepth 100000
set_option maxHeartbeats 1000000
/-! sep.join({key: True for target in iter ..}): the unlike ones of the texts. -/
namespace DL
open PySem PySem.Spec PyProof.Rows L2
def joinKeys (sep : List Char) (ys : List D) : Option D := match texts ys with
  | some ts => if lens ts.eraseDups + ts.eraseDups.length * sep.length ≤ big then some (.str (glue sep ts.eraseDups)) else none
  | none => none
def evJd (sep : List Char) (own : List Nat) (t : Tg) (fI : Sl → Mem → Res (List D)) (fifs : Sl → Mem → Res Bool) (fk : Sl → Mem → Res Val) : Sl → Mem → Res Val := fun s M =>
  (fI s M).bind fun xs M1 => (compLoop (evBlk own t fifs fk s) xs M1).bind fun ys M2 => Res.of ((joinKeys sep ys).map .d) M2
theorem enc_inj' {a b : List Char} (h : enc a = enc b) : a = b := by
  have h2 := congrArg (fun z : Str => z.cps.toList) h
  have h3 : a.map Char.toNat = b.map Char.toNat := by simpa [enc] using h2
  clear h h2
  induction a generalizing b with
  | nil => cases b with
    | nil => rfl
    | cons _ _ => cases h3
  | cons c a ih => cases b with
    | nil => cases h3
    | cons d b =>
      rw [List.map_cons, List.map_cons] at h3
      injection h3 with h4 h5
      rw [char_inj h4, ih h5]
def ddK (ts : List (List Char)) : List (Key × V) := ts.eraseDups.map fun t => (Sum.inr (enc t), V.bl true)
theorem ddK_keys (ts : List (List Char)) : (ddK ts).map (·.1) = (ts.eraseDups.map enc).map Sum.inr := by
  unfold ddK; rw [List.map_map, List.map_map]; rfl
theorem dups_add (ts : List (List Char)) (t : List Char) : (ts ++ [t]).eraseDups = if t ∈ ts then ts.eraseDups else ts.eraseDups ++ [t] := by
  rw [List.eraseDups_append]
  by_cases h : t ∈ ts
  · rw [if_pos h]
    have : [t].removeAll ts = [] := by show List.filter _ [t] = []; simp [h]
    rw [this]; simp
  · rw [if_neg h]
    have : [t].removeAll ts = [t] := by show List.filter _ [t] = [t]; simp [h]
    rw [this]; rfl
theorem ddK_put (ts : List (List Char)) (t : List Char) : putK (ddK ts) (Sum.inr (enc t)) (V.bl true) = ddK (ts ++ [t]) := by
  unfold putK
  have hany : ((ddK ts).any fun kv => decide (kv.1 = Sum.inr (enc t))) = true ↔ t ∈ ts := by
    rw [List.any_eq_true]
    constructor
    · rintro ⟨p, hp, e⟩
      obtain ⟨u, hu, rfl⟩ := List.mem_map.mp hp
      have e : (Sum.inr (enc u) : Key) = Sum.inr (enc t) := of_decide_eq_true e
      injection e with e
      rw [← enc_inj' e]; exact List.mem_eraseDups.mp hu
    · intro h
      exact ⟨_, List.mem_map.mpr ⟨t, List.mem_eraseDups.mpr h, rfl⟩, decide_eq_true rfl⟩
  by_cases h : t ∈ ts
  · rw [if_pos (hany.mpr h)]
    unfold ddK
    rw [dups_add, if_pos h, List.map_map]
    refine List.map_congr_left fun u _ => ?_
    show (if (Sum.inr (enc u) : Key) = Sum.inr (enc t) then ((Sum.inr (enc u), V.bl true) : Key × V) else (Sum.inr (enc u), V.bl true)) = (Sum.inr (enc u), V.bl true)
    exact ite_self _
  · rw [if_neg (fun z => h (hany.mp z))]
    unfold ddK
    rw [dups_add, if_neg h, List.map_append]; rfl
theorem dups_lenL : ∀ l : List (List Char), l.eraseDups.length ≤ l.length
  | [] => Nat.le_refl _
  | c :: l => by
    rw [List.eraseDups_cons, List.length_cons, List.length_cons]
    have h1 := List.length_filter_le (fun b => !b == c) l
    have h2 := dups_lenL (l.filter fun b => !b == c)
    omega
termination_by l => l.length
decreasing_by
  have h1 := List.length_filter_le (fun b => !b == c) l
  simp only [List.length_cons]
  omega
theorem texts_app : ∀ {a : List D} {y : D} {b : List D} {ts : List (List Char)}, texts (a ++ y :: b) = some ts → ∃ u, y = .str u
  | [], y, b, ts, h => by
    cases y <;> first | (cases h; done) | exact ⟨_, rfl⟩
  | x :: a, y, b, ts, h => by
    cases x <;> first | (cases h; done) | skip
    obtain ⟨us, hu, _⟩ := Option.map_eq_some_iff.mp (show (texts (a ++ y :: b)).map _ = some ts from h)
    exact texts_app hu
theorem texts_str : ∀ ts : List (List Char), texts (ts.map D.str) = some ts
  | [] => rfl
  | t :: ts => by show (texts (ts.map D.str)).map (t :: ·) = _; rw [texts_str ts]; rfl
section
variable {fa : Sl → Mem → Res Val}
theorem liftJd {K : Fr} {own o : List Nat} {t : Tg} {sep : List Char} {fI : Sl → Mem → Res (List D)} {fifs : Sl → Mem → Res Bool} {σ : L2.St} {H : Hp} {Q : VK} (ho : ∀ i ∈ o, i ∈ own) (h : LE false K (evJd sep own t fI fifs fa) σ H Q) :
    tM1 rJoinD (tC (.str (enc sep))) (tDc (LI K fI) (LG K t o) (LT K fifs) (LE false K fa) (tC (.bl true)) own) σ H Q := by
  obtain ⟨δ, M, F, μ, x, M', S, R, e0, k⟩ := h
  obtain ⟨xs, M1, e1, e0⟩ := bind_ok e0
  obtain ⟨rs, M2', e2, e0⟩ := bind_ok e0
  obtain ⟨d, hd, rfl, rfl⟩ := res_map e0
  refine ⟨⟨_, rfl⟩, ⟨δ, M, F, μ, xs, M1, S, R, e1, fun F1 μ1 H1 J st1 S1 its D hD => ?_⟩⟩
  have R1 := R.mono st1.fr st1.whole
  have hfew : xs.length ≤ 16777216 := its.few
  have F1D : F1 D = none := by
    cases q : F1 D with
    | none => rfl
    | some u => rw [S1.sub D u q] at hD; cases hD
  obtain ⟨all, hall, hjoin⟩ : ∃ all, texts rs = some all ∧ (if lens all.eraseDups + all.eraseDups.length * sep.length ≤ big then some (DL.D.str (glue sep all.eraseDups)) else none) = some d := by
    unfold joinKeys at hd
    cases ht : texts rs with
    | none => rw [ht] at hd; cases hd
    | some all => rw [ht] at hd; exact ⟨all, rfl, hd⟩
  refine ⟨fun i m Hi => m = xs.length - i ∧ i ≤ xs.length ∧ ∃ Fi μi Mi ts zs, StepE F1 μ1 H1 Fi μi Hi ∧ Sim K Fi μi Mi Hi ∧ Hi D = some (.dK (ddK ts)) ∧ Fi D = none ∧ D ∉ μi ∧ ts.length ≤ i ∧ rs = ts.map DL.D.str ++ zs ∧ compLoop (evBlk own t fifs fa δ) (xs.drop i) Mi = .ok zs M', ⟨xs.length, rfl, Nat.zero_le _, F1, μ1, M1, [], rs, (Step.refl _ _ _ _).updNew hD _, S1.updNew F1D (fun z => S1.tracked z hD) _, upd_same, F1D, fun z => S1.tracked z hD, Nat.le_refl _, rfl, e2⟩, ?_⟩
  rintro i m Hi ⟨rfl, hi, Fi, μi, Mi, ts, zs, st, Si, hacc, FD, mD, hyl, hrs, hrun⟩
  by_cases hlt : i < xs.length
  · refine .inr ⟨its.goes i Hi hlt (st.fr.trans Si.sub), fun H' => ∃ Fi μi Mi ts zs, StepE F1 μ1 H1 Fi μi H' ∧ Sim K Fi μi Mi H' ∧ H' D = some (.dK (ddK ts)) ∧ Fi D = none ∧ D ∉ μi ∧ ts.length ≤ i + 1 ∧ rs = ts.map DL.D.str ++ zs ∧ compLoop (evBlk own t fifs fa δ) (xs.drop (i + 1)) Mi = .ok zs M', fun H' p' => ⟨xs.length - (i + 1), by omega, rfl, hlt, p'⟩, fun v H2 hy => ?_⟩
    have hx : xs[i]? = some xs[i] := List.getElem?_eq_getElem hlt
    rw [List.drop_eq_getElem_cons hlt] at hrun
    unfold compLoop at hrun
    obtain ⟨oy, M3, e3, hrun⟩ := bind_ok hrun
    obtain ⟨zs', M4, e4, hrun⟩ := bind_ok hrun
    obtain ⟨F2, nf, rx⟩ := its.yields i Hi v H2 xs[i] Fi hx st.fr Si.sub hy
    have st2 : StepE Fi μi Hi F2 μi H2 := nf.step
    have S2 := nf.sim Si
    obtain ⟨hacc2, FD2, mD2⟩ := st2.apart S2.sub hacc FD mD
    unfold evBlk at e3
    cases hb : bindTg t xs[i] (wipeS δ own) with
    | none => simp only [hb] at e3; cases e3
    | some δ' =>
      simp only [hb] at e3
      obtain ⟨b, M5, e5, e3⟩ := bind_ok e3
      have Rw : RepS K F2 μi (wipeS δ own) (wipe σ own) := ((R1.mono st.fr st.whole).mono st2.fr st2.whole).wipe own
      refine ⟨wipeS δ own, F2, μi, xs[i], δ', Rw, rx, S2.sub, hb, fun σ2 R2 l2 s2 => ⟨wipe_same (by rw [l2, wipe_length]) fun j hj => s2 j fun z => hj (ho j z), ?_⟩⟩
      refine ⟨δ', Mi, F2, μi, b, M5, S2, R2, e5, fun F5 μ5 H5 st5 S5 => ?_⟩
      obtain ⟨hacc5, FD5, mD5⟩ := st5.apart S5.sub hacc2 FD2 mD2
      have stt := (Step.transE st (Step.transE st2 st5))
      cases b with
      | false =>
        rw [if_neg Bool.false_ne_true] at e3 ⊢
        cases e3
        cases hrun
        exact ⟨F5, μ5, _, ts, zs, stt, S5, hacc5, FD5, mD5, by omega, hrs, e4⟩
      | true =>
        rw [if_pos rfl] at e3 ⊢
        obtain ⟨w, M6, e6, e3⟩ := bind_ok e3
        cases w with
        | ref n => cases e3
        | d y =>
          cases e3
          cases hrun
          obtain ⟨u, rfl⟩ := texts_app (by rw [← hrs]; exact hall)
          refine ⟨δ', M5, F5, μ5, .d (.str u), _, S5, R2.mono st5.fr st5.whole, e6, fun F6 μ6 H6 w st6 S6 r6 => ?_⟩
          obtain ⟨hacc6, FD6, mD6⟩ := st6.apart S6.sub hacc5 FD5 mD5
          have r6' : Rep K F6 (.str u) w := r6
          cases r6'
          have hle := dups_lenL ts
          refine ⟨ddK ts, Sum.inr (enc u), rfl, hacc6, by unfold ddK; rw [List.length_map, sizeLine_eq]; omega, F6, μ6, _, ts ++ [u], zs', (stt.transE st6).updNew hD _, S6.updNew FD6 mD6 _, by rw [upd_same, ddK_put], FD6, mD6, by rw [List.length_append, List.length_singleton]; omega, by rw [hrs, List.map_append, List.append_assoc]; rfl, e4⟩
  · have e : i = xs.length := by omega
    subst e
    refine .inl ⟨its.stops Hi (st.fr.trans Si.sub), ?_⟩
    rw [List.drop_length] at hrun
    cases hrun
    rw [List.append_nil] at hrs
    subst hrs
    rw [texts_str] at hall
    obtain rfl : ts = all := Option.some.inj hall
    by_cases hz : lens ts.eraseDups + ts.eraseDups.length * sep.length ≤ big
    case neg => rw [if_neg hz] at hjoin; cases hjoin
    rw [if_pos hz] at hjoin
    cases hjoin
    refine ⟨enc sep, D, ddK ts, ts.eraseDups.map enc, rfl, rfl, hacc, ddK_keys ts, ?_, ?_⟩
    · rw [lens_eq, List.length_map, enc_length]; exact hz
    · rw [TL.join_eq, join_enc]
      exact k Fi μi Hi _ (st1.transE st) Si (Rep.str _ (Nat.le_trans (glue_len _ _) hz))
end
end DL
end P_DLk
section P_DLd
set_option Elab.async false
set_option linter.all false
set_option maxRecDepth 100000
set_option maxHeartbeats 1000000
/-! min, max with a default; sep.join of a dict that is made on the spot, printed. -/
namespace DL
open PySem PySem.Spec PyProof.Rows L2 PySem.SeqAt
open PySem.W (AlikeAll min_list_default max_list_default)
def dfltD (b : Bi) : List D → List D → Option D
  | [.lst []], [.non] => some .non
  | [.lst []], [.int i] => some (.int i)
  | [.lst (x :: l)], [.non] => biD b [.lst (x :: l)]
  | [.lst (x :: l)], [.int _] => biD b [.lst (x :: l)]
  | _, _ => none
def evBK (p : List D → List D → Option D) (fl fk : Sl → Mem → Res (List Val)) : Sl → Mem → Res Val := fun s M => (fl s M).bind fun vs M1 => (fk s M1).bind fun ws M2 => match views M2 vs, views M2 ws with
  | some xs, some ys => Res.of ((p xs ys).map .d) M2
  | _, _ => .bad
def rKD (K : Fr) (p : List D → List D → Option D) : List V → List V → Hp → VK → Prop := fun vs zs H Q => ∃ F xs ys d, Sub F H ∧ RepTs K F H xs vs ∧ RepTs K F H ys zs ∧ p xs ys = some d ∧ PostD false K F H d Q
section
variable {X : Cx} {fl fk : Sl → Mem → Res (List Val)}
theorem liftBK {K : Fr} {p : List D → List D → Option D} {σ : L2.St} {H : Hp} {Q : VK} (h : LE false K (evBK p fl fk) σ H Q) : tCKw (rKD K p) (LA K fl) (LA K fk) σ H Q := by
  obtain ⟨δ, M, F, μ, x, M', S, R, e0, k⟩ := h
  obtain ⟨vs, M1, e1, e0⟩ := bind_ok e0
  obtain ⟨ws, M2, e2, e0⟩ := bind_ok e0
  refine ⟨δ, M, F, μ, vs, M1, S, R, e1, fun F1 μ1 H1 v1 st1 S1 r1 => ⟨δ, M1, F1, μ1, ws, M2, S1, R.mono st1.fr st1.whole, e2, fun F2 μ2 H2 v2 st2 S2 r2 => ?_⟩⟩
  cases hx : views M2 vs with
  | none => rw [hx] at e0; cases e0
  | some dx =>
    cases hy : views M2 ws with
    | none => rw [hx, hy] at e0; cases e0
    | some dy =>
      rw [hx, hy] at e0
      obtain ⟨d, hd, rfl, rfl⟩ := res_map e0
      exact ⟨F2, dx, dy, d, S2.sub, S2.views (RepVs.mono st2.fr st2.whole r1) hx, S2.views r2 hy, hd, PostD.of S2 (fun a h => st1.up a (st2.up a h)) fun F' H' u n S' q => k F' μ2 H' u (st1.transE (st2.transE n.step)) S' q⟩
theorem toPys_cons {l : List D} {y : PyData} {ys : List PyData} (h : toPys l = y :: ys) : ∃ x r, l = x :: r ∧ y = toPy x ∧ ys = toPys r := by
  cases l with
  | nil => cases h
  | cons x r =>
    have h : toPy x :: toPys r = y :: ys := h
    injection h with h1 h2
    exact ⟨x, r, rfl, h1.symm, h2.symm⟩
theorem alike_nil : AlikeAll [] := ⟨fun x h => (by cases h), fun x h => (by cases h)⟩
theorem bk_min {k : Nat} (hc : X.calm = true) (hr : Room k X.A) : CallRK X (.builtin "min") ["default"] (rKD X.K (dfltD .min)) := by
  intro pins s σ H xs zs us ws Q I r rz ⟨F, dx, dy, d, sb, tx, ty, e, q⟩
  have hb : ∀ x y b, ltFlat y x = some b → like2 x y = true := fun x y b h => like2_symm (ltFlat_like h)
  have go0 : ∀ {y : D}, dx = [.lst []] → dy = [y] → d = y → (∀ v, RepT X.K F H y v → Rep X.K F y v) → wpAny (model X.prog X.w) X.A (call (.builtin "min") us ((["default"] : List Str).zip ws)) (EP X pins σ Q) X.xe s := by
    rintro y rfl rfl rfl hy
    obtain ⟨v, rfl, rx⟩ := repTs_1 tx
    obtain ⟨z, rfl, ry⟩ := repTs_1 ty
    obtain ⟨a, as, rfl, ha, ra, la⟩ := repT_lst sb rx
    rw [Vals.ref1 r]
    obtain ⟨w, rfl, rw'⟩ := rz.one
    obtain ⟨its, rv, pl, hz⟩ := I.list (SqL.of ha)
    obtain ⟨bs, rd⟩ := readsL I sb ra rv rfl
    refine min_list_default (xs := toPys []) (I.ok.hd hc) pl.isList (by rw [List.toList_toArray]; exact rd) alike_nil (by have := hr.un; show X.A.units + 1 + 0 < cLine; omega) (fun _ h' tk hk => ?_) (fun y ys i v h' tk bs e => by cases e)
    exact ⟨z, H, I.kept hk, rw', postSame sb q (hy z ry)⟩
  have go1 : ∀ {x y : D} {l : List D}, dx = [.lst (x :: l)] → dy = [y] → biD .min [.lst (x :: l)] = some d → wpAny (model X.prog X.w) X.A (call (.builtin "min") us ((["default"] : List Str).zip ws)) (EP X pins σ Q) X.xe s := by
    rintro x y l rfl rfl e
    obtain ⟨v, rfl, rx⟩ := repTs_1 tx
    obtain ⟨z, rfl, ry⟩ := repTs_1 ty
    obtain ⟨a, as, rfl, ha, ra, la⟩ := repT_lst sb rx
    rw [Vals.ref1 r]
    obtain ⟨w, rfl, rw'⟩ := rz.one
    obtain ⟨its, rv, pl, hz⟩ := I.list (SqL.of ha)
    obtain ⟨f0, f1, f2, f3, f4⟩ := best_facts (bt := ltFlat) hb e
    obtain ⟨bs, rd⟩ := readsL I sb ra rv f3
    refine min_list_default (xs := toPys (x :: l)) (I.ok.hd hc) pl.isList (by rw [List.toList_toArray]; exact rd) f1 (by have := hr.un; show X.A.units + 1 + PyData.depthAll (toPys (x :: l)) < cLine; rw [f2]; omega) (fun e => by cases e) (fun y ys i u h' tk cs e hu hrd hk => ?_)
    obtain ⟨x', r', e1, rfl, rfl⟩ := toPys_cons e
    cases e1
    rw [best_min f0] at hrd
    exact pick_item I sb ra rv (by simpa using hu) hrd f4 f3 hk q
  match dx, dy, e, tx, ty with
  | [.lst []], [.non], e, tx, ty => exact go0 rfl rfl (Option.some.inj e).symm fun v t => by cases repT_non t; exact .non
  | [.lst []], [.int i], e, tx, ty => exact go0 rfl rfl (Option.some.inj e).symm fun v t => by cases repT_int t; exact .int i
  | [.lst (x :: l)], [.non], e, tx, ty => exact go1 rfl rfl e
  | [.lst (x :: l)], [.int i], e, tx, ty => exact go1 rfl rfl e
theorem bk_max {k : Nat} (hc : X.calm = true) (hr : Room k X.A) : CallRK X (.builtin "max") ["default"] (rKD X.K (dfltD .max)) := by
  intro pins s σ H xs zs us ws Q I r rz ⟨F, dx, dy, d, sb, tx, ty, e, q⟩
  have hb : ∀ x y b, (fun a b => ltFlat b a) y x = some b → like2 x y = true := fun x y b h => ltFlat_like h
  have go0 : ∀ {y : D}, dx = [.lst []] → dy = [y] → d = y → (∀ v, RepT X.K F H y v → Rep X.K F y v) → wpAny (model X.prog X.w) X.A (call (.builtin "max") us ((["default"] : List Str).zip ws)) (EP X pins σ Q) X.xe s := by
    rintro y rfl rfl rfl hy
    obtain ⟨v, rfl, rx⟩ := repTs_1 tx
    obtain ⟨z, rfl, ry⟩ := repTs_1 ty
    obtain ⟨a, as, rfl, ha, ra, la⟩ := repT_lst sb rx
    rw [Vals.ref1 r]
    obtain ⟨w, rfl, rw'⟩ := rz.one
    obtain ⟨its, rv, pl, hz⟩ := I.list (SqL.of ha)
    obtain ⟨bs, rd⟩ := readsL I sb ra rv rfl
    refine max_list_default (xs := toPys []) (I.ok.hd hc) pl.isList (by rw [List.toList_toArray]; exact rd) alike_nil (by have := hr.un; show X.A.units + 1 + 0 < cLine; omega) (fun _ h' tk hk => ?_) (fun y ys i v h' tk bs e => by cases e)
    exact ⟨z, H, I.kept hk, rw', postSame sb q (hy z ry)⟩
  have go1 : ∀ {x y : D} {l : List D}, dx = [.lst (x :: l)] → dy = [y] → biD .max [.lst (x :: l)] = some d → wpAny (model X.prog X.w) X.A (call (.builtin "max") us ((["default"] : List Str).zip ws)) (EP X pins σ Q) X.xe s := by
    rintro x y l rfl rfl e
    obtain ⟨v, rfl, rx⟩ := repTs_1 tx
    obtain ⟨z, rfl, ry⟩ := repTs_1 ty
    obtain ⟨a, as, rfl, ha, ra, la⟩ := repT_lst sb rx
    rw [Vals.ref1 r]
    obtain ⟨w, rfl, rw'⟩ := rz.one
    obtain ⟨its, rv, pl, hz⟩ := I.list (SqL.of ha)
    obtain ⟨f0, f1, f2, f3, f4⟩ := best_facts (bt := fun a b => ltFlat b a) hb e
    obtain ⟨bs, rd⟩ := readsL I sb ra rv f3
    refine max_list_default (xs := toPys (x :: l)) (I.ok.hd hc) pl.isList (by rw [List.toList_toArray]; exact rd) f1 (by have := hr.un; show X.A.units + 1 + PyData.depthAll (toPys (x :: l)) < cLine; rw [f2]; omega) (fun e => by cases e) (fun y ys i u h' tk cs e hu hrd hk => ?_)
    obtain ⟨x', r', e1, rfl, rfl⟩ := toPys_cons e
    cases e1
    rw [best_max f0] at hrd
    exact pick_item I sb ra rv (by simpa using hu) hrd f4 f3 hk q
  match dx, dy, e, tx, ty with
  | [.lst []], [.non], e, tx, ty => exact go0 rfl rfl (Option.some.inj e).symm fun v t => by cases repT_non t; exact .non
  | [.lst []], [.int i], e, tx, ty => exact go0 rfl rfl (Option.some.inj e).symm fun v t => by cases repT_int t; exact .int i
  | [.lst (x :: l)], [.non], e, tx, ty => exact go1 rfl rfl e
  | [.lst (x :: l)], [.int i], e, tx, ty => exact go1 rfl rfl e
end
section
variable {X : Cx} {fa fk : Sl → Mem → Res Val} {fl fkl : Sl → Mem → Res (List Val)} {e kx tg iter : Expr} {es : List Expr} {kws : List Keyword} {pos : Pos}
theorem p_dflt_min {k : Nat} {p : Pos} (hr : Room k X.A) (hm : X.mg "min" = none) (ha : PA X (e :: es) (LA X.K fl)) (hk : PK X kws (LA X.K fkl)) (hg : Gl X "min" := by rfl) (hc : X.calm = true := by rfl)
    (he : backTo pos (starEach (e :: es) X.env) = (false, eval e X.env) :: backTo pos (starEach es X.env) := by rfl) (hpl : (backTo pos (starEach (e :: es) X.env)).any (·.1) = false := by rfl)
    (hall : (backToKw pos (keywordEach kws X.env)).all (·.1.isSome) = true := by rfl) (hnone : (backToKw pos (keywordEach kws X.env)).any (·.1.isNone) = false := by rfl) (hks : (backToKw pos (keywordEach kws X.env)).filterMap (·.1) = [(("default" : Str))] := by rfl) :
    PE X (.Call (.Name "min" p) (e :: es) kws pos) (LE false X.K (evBK (dfltD .min) fl fkl)) :=
  (pe_callBK (bk_min hc hr) hg hm PyProof.Rows.boot_min ha hk (by decide) (by decide) he hpl hall hnone hks).imp fun _ _ _ h => liftBK h
theorem p_dflt_max {k : Nat} {p : Pos} (hr : Room k X.A) (hm : X.mg "max" = none) (ha : PA X (e :: es) (LA X.K fl)) (hk : PK X kws (LA X.K fkl)) (hg : Gl X "max" := by rfl) (hc : X.calm = true := by rfl)
    (he : backTo pos (starEach (e :: es) X.env) = (false, eval e X.env) :: backTo pos (starEach es X.env) := by rfl) (hpl : (backTo pos (starEach (e :: es) X.env)).any (·.1) = false := by rfl)
    (hall : (backToKw pos (keywordEach kws X.env)).all (·.1.isSome) = true := by rfl) (hnone : (backToKw pos (keywordEach kws X.env)).any (·.1.isNone) = false := by rfl) (hks : (backToKw pos (keywordEach kws X.env)).filterMap (·.1) = [(("default" : Str))] := by rfl) :
    PE X (.Call (.Name "max" p) (e :: es) kws pos) (LE false X.K (evBK (dfltD .max) fl fkl)) :=
  (pe_callBK (bk_max hc hr) hg hm PyProof.Rows.boot_max ha hk (by decide) (by decide) he hpl hall hnone hks).imp fun _ _ _ h => liftBK h
theorem p_jd {scope : Scope} {own : List (Str × Nat)} {ifs : List Expr} {o : List Nat} {t : Tg} {sx : Str} {sep : List Char} {k k2 : Nat} {cpos p2 apos dpos : Pos} {fI : Sl → Mem → Res (List D)} {fifs : Sl → Mem → Res Bool} (ho : ∀ i ∈ o, i ∈ own.map (·.2)) (hN : X.N.Nodup) (hi : PI X tg iter (LI X.K fI)) (ok : BlkOk X.N X.env.scope scope own)
    (hg : ∀ (s : Shared) (H : Hp) (C : Addr) (cl : List (Str × Addr)) (fp : List Addr), PG (X.blk s H scope (compEnvC scope cl C X.env) fp) tg (LG X.K t o)) (ht : ∀ (s : Shared) (H : Hp) (C : Addr) (cl : List (Str × Addr)) (fp : List Addr), PTs (X.blk s H scope (compEnvC scope cl C X.env) fp) ifs (LT X.K fifs))
    (hk : ∀ (s : Shared) (H : Hp) (C : Addr) (cl : List (Str × Addr)) (fp : List Addr), PE (X.blk s H scope (compEnvC scope cl C X.env) fp) kx (LE false X.K fk)) (hc : X.calm = true := by rfl) (hs : ∀ x, foldedSetIterable iter X.env x = pure x := by intro _; rfl)
    (hsep : sx = enc sep := by decide +kernel) (hbase : attributeBase (.Constant (.str sx) k cpos) "join" X.env (eval (.Constant (.str sx) k cpos) X.env) = eval (.Constant (.str sx) k cpos) X.env := by rfl) (hline : (apos.endLine == pos.line) = true := by rfl) :
    PE X (.Call (.Attribute (.Constant (.str sx) k cpos) "join" apos) [.DictComp kx (.Constant (.bool true) k2 p2) [⟨tg, iter, ifs, 0⟩] scope dpos] [] pos) (LE false X.K (evJd sep (own.map (·.2)) t fI fifs fk)) := by
  subst hsep
  exact (pe_m1 PySem.F.slot_str_join PySem.F.type_str_join (mt_joinD hc) pe_str (pe_dc hc hN hi ok hg ht hk (fun _ _ _ _ _ => pe_bl) hs) rfl hbase hline).imp fun _ _ _ h => liftJd ho h
end
end DL
end P_DLd
section P_DLsd
set_option Elab.async false
set_option linter.all false
set_option maxRecDepth 100000
set_option maxHeartbeats 1000000
/-! sorted({key: True for target in iter ..}) where no two texts are unlike; the empty dict. -/
namespace DL
open PySem PySem.Spec PyProof.Rows L2
def soleD (ys : List D) : Option D := match texts ys with
  | some ts => if ts.eraseDups.length ≤ 1 then some (.lst (ts.eraseDups.map D.str)) else none
  | none => none
def evSd (own : List Nat) (t : Tg) (fI : Sl → Mem → Res (List D)) (fifs : Sl → Mem → Res Bool) (fk : Sl → Mem → Res Val) : Sl → Mem → Res Val := fun s M =>
  (fI s M).bind fun xs M1 => (compLoop (evBlk own t fifs fk s) xs M1).bind fun ys M2 => Res.of ((soleD ys).map .d) M2
def rSd : List V → Hp → VK → Prop := fun xs H Q => ∃ (a : Addr) (kvs : List (Key × V)) (ks : List Str), xs = [.ref a] ∧ Rd H a (.dK kvs) ∧ kvs.map (·.1) = ks.map Sum.inr ∧ ks.length < 64 ∧
    ∀ ys p, ys.Perm ks → sortedS ys = true → H p = none → Q (.ref p) (upd H p (.lst (ys.map V.str)))
theorem perm_one {α : Type} : ∀ {a b : List α}, a.Perm b → b.length ≤ 1 → a = b
  | a, [], h, _ => List.Perm.eq_nil h
  | a, [x], h, _ => List.perm_singleton.mp h
  | _, _ :: _ :: _, _, h => by simp at h
theorem reps_strs {K : Fr} {F : Hp} : ∀ {l : List (List Char)}, (∀ u ∈ l, u.length ≤ big) → Reps K F (l.map D.str) ((l.map enc).map V.str)
  | [], _ => .nil
  | u :: l, h => .cons (.str u (h u (List.mem_cons_self ..))) (reps_strs fun x hx => h x (List.mem_cons_of_mem _ hx))
section
variable {fa : Sl → Mem → Res Val}
theorem liftSd {K : Fr} {own o : List Nat} {t : Tg} {fI : Sl → Mem → Res (List D)} {fifs : Sl → Mem → Res Bool} {σ : L2.St} {H : Hp} {Q : VK} (ho : ∀ i ∈ o, i ∈ own) (h : LE false K (evSd own t fI fifs fa) σ H Q) :
    tCB rSd (tCons (tDc (LI K fI) (LG K t o) (LT K fifs) (LE false K fa) (tC (.bl true)) own) tNil) σ H Q := by
  obtain ⟨δ, M, F, μ, x, M', S, R, e0, k⟩ := h
  obtain ⟨xs, M1, e1, e0⟩ := bind_ok e0
  obtain ⟨rs, M2', e2, e0⟩ := bind_ok e0
  obtain ⟨d, hd, rfl, rfl⟩ := res_map e0
  refine ⟨δ, M, F, μ, xs, M1, S, R, e1, fun F1 μ1 H1 J st1 S1 its D hD => ?_⟩
  have R1 := R.mono st1.fr st1.whole
  have hfew : xs.length ≤ 16777216 := its.few
  have F1D : F1 D = none := by
    cases q : F1 D with
    | none => rfl
    | some u => rw [S1.sub D u q] at hD; cases hD
  obtain ⟨all, hall, hjoin⟩ : ∃ all, texts rs = some all ∧ (if all.eraseDups.length ≤ 1 then some (DL.D.lst (all.eraseDups.map DL.D.str)) else none) = some d := by
    unfold soleD at hd
    cases ht : texts rs with
    | none => rw [ht] at hd; cases hd
    | some all => rw [ht] at hd; exact ⟨all, rfl, hd⟩
  refine ⟨fun i m Hi => m = xs.length - i ∧ i ≤ xs.length ∧ ∃ Fi μi Mi ts zs, StepE F1 μ1 H1 Fi μi Hi ∧ Sim K Fi μi Mi Hi ∧ Hi D = some (.dK (ddK ts)) ∧ Fi D = none ∧ D ∉ μi ∧ ts.length ≤ i ∧ (∀ u ∈ ts, u.length ≤ big) ∧ rs = ts.map DL.D.str ++ zs ∧ compLoop (evBlk own t fifs fa δ) (xs.drop i) Mi = .ok zs M', ⟨xs.length, rfl, Nat.zero_le _, F1, μ1, M1, [], rs, (Step.refl _ _ _ _).updNew hD _, S1.updNew F1D (fun z => S1.tracked z hD) _, upd_same, F1D, fun z => S1.tracked z hD, Nat.le_refl _, (fun _ z => nomatch z), rfl, e2⟩, ?_⟩
  rintro i m Hi ⟨rfl, hi, Fi, μi, Mi, ts, zs, st, Si, hacc, FD, mD, hyl, hbl, hrs, hrun⟩
  by_cases hlt : i < xs.length
  · refine .inr ⟨its.goes i Hi hlt (st.fr.trans Si.sub), fun H' => ∃ Fi μi Mi ts zs, StepE F1 μ1 H1 Fi μi H' ∧ Sim K Fi μi Mi H' ∧ H' D = some (.dK (ddK ts)) ∧ Fi D = none ∧ D ∉ μi ∧ ts.length ≤ i + 1 ∧ (∀ u ∈ ts, u.length ≤ big) ∧ rs = ts.map DL.D.str ++ zs ∧ compLoop (evBlk own t fifs fa δ) (xs.drop (i + 1)) Mi = .ok zs M', fun H' p' => ⟨xs.length - (i + 1), by omega, rfl, hlt, p'⟩, fun v H2 hy => ?_⟩
    have hx : xs[i]? = some xs[i] := List.getElem?_eq_getElem hlt
    rw [List.drop_eq_getElem_cons hlt] at hrun
    unfold compLoop at hrun
    obtain ⟨oy, M3, e3, hrun⟩ := bind_ok hrun
    obtain ⟨zs', M4, e4, hrun⟩ := bind_ok hrun
    obtain ⟨F2, nf, rx⟩ := its.yields i Hi v H2 xs[i] Fi hx st.fr Si.sub hy
    have st2 : StepE Fi μi Hi F2 μi H2 := nf.step
    have S2 := nf.sim Si
    obtain ⟨hacc2, FD2, mD2⟩ := st2.apart S2.sub hacc FD mD
    unfold evBlk at e3
    cases hb : bindTg t xs[i] (wipeS δ own) with
    | none => simp only [hb] at e3; cases e3
    | some δ' =>
      simp only [hb] at e3
      obtain ⟨b, M5, e5, e3⟩ := bind_ok e3
      have Rw : RepS K F2 μi (wipeS δ own) (wipe σ own) := ((R1.mono st.fr st.whole).mono st2.fr st2.whole).wipe own
      refine ⟨wipeS δ own, F2, μi, xs[i], δ', Rw, rx, S2.sub, hb, fun σ2 R2 l2 s2 => ⟨wipe_same (by rw [l2, wipe_length]) fun j hj => s2 j fun z => hj (ho j z), ?_⟩⟩
      refine ⟨δ', Mi, F2, μi, b, M5, S2, R2, e5, fun F5 μ5 H5 st5 S5 => ?_⟩
      obtain ⟨hacc5, FD5, mD5⟩ := st5.apart S5.sub hacc2 FD2 mD2
      have stt := (Step.transE st (Step.transE st2 st5))
      cases b with
      | false =>
        rw [if_neg Bool.false_ne_true] at e3 ⊢
        cases e3
        cases hrun
        exact ⟨F5, μ5, _, ts, zs, stt, S5, hacc5, FD5, mD5, by omega, hbl, hrs, e4⟩
      | true =>
        rw [if_pos rfl] at e3 ⊢
        obtain ⟨w, M6, e6, e3⟩ := bind_ok e3
        cases w with
        | ref n => cases e3
        | d y =>
          cases e3
          cases hrun
          obtain ⟨u, rfl⟩ := texts_app (by rw [← hrs]; exact hall)
          refine ⟨δ', M5, F5, μ5, .d (.str u), _, S5, R2.mono st5.fr st5.whole, e6, fun F6 μ6 H6 w st6 S6 r6 => ?_⟩
          obtain ⟨hacc6, FD6, mD6⟩ := st6.apart S6.sub hacc5 FD5 mD5
          have r6' : Rep K F6 (.str u) w := r6
          have hu6 : u.length ≤ big := by cases r6'; assumption
          cases r6'
          have hle := dups_lenL ts
          refine ⟨ddK ts, Sum.inr (enc u), rfl, hacc6, by unfold ddK; rw [List.length_map, sizeLine_eq]; omega, F6, μ6, _, ts ++ [u], zs', (stt.transE st6).updNew hD _, S6.updNew FD6 mD6 _, by rw [upd_same, ddK_put], FD6, mD6, by rw [List.length_append, List.length_singleton]; omega, (fun x hx => by
            rcases List.mem_append.mp hx with h | h
            · exact hbl x h
            · rw [List.mem_singleton.mp h]; exact hu6), by rw [hrs, List.map_append, List.append_assoc]; rfl, e4⟩
  · have e : i = xs.length := by omega
    subst e
    refine .inl ⟨its.stops Hi (st.fr.trans Si.sub), ?_⟩
    rw [List.drop_length] at hrun
    cases hrun
    rw [List.append_nil] at hrs
    subst hrs
    rw [texts_str] at hall
    obtain rfl : ts = all := Option.some.inj hall
    by_cases hz : ts.eraseDups.length ≤ 1
    case neg => rw [if_neg hz] at hjoin; cases hjoin
    rw [if_pos hz] at hjoin
    cases hjoin
    refine ⟨D, ddK ts, ts.eraseDups.map enc, rfl, .inl hacc, ddK_keys ts, by rw [List.length_map]; omega, fun ys p hp hs hq => ?_⟩
    have ey : ys = ts.eraseDups.map enc := perm_one hp (by rw [List.length_map]; exact hz)
    subst ey
    have n := NewF.alloc Si.sub hq (.lst ((ts.eraseDups.map enc).map V.str))
    refine k _ μi _ _ ((st1.transE st).transE n.step) (n.sim Si) ?_
    refine Rep.lst (vs := (ts.eraseDups.map enc).map V.str) (by rw [List.length_map]; exact Nat.le_trans hz (by decide)) upd_same ?_
    exact reps_strs fun u hu => hbl u (List.mem_eraseDups.mp hu)
end
section
variable {X : Cx} {kx tg iter : Expr} {fk : Sl → Mem → Res Val} {pos : Pos}
theorem p_sd {scope : Scope} {own : List (Str × Nat)} {ifs : List Expr} {o : List Nat} {t : Tg} {k2 : Nat} {p p2 dpos : Pos} {fI : Sl → Mem → Res (List D)} {fifs : Sl → Mem → Res Bool} (hm : X.mg "sorted" = none) (ho : ∀ i ∈ o, i ∈ own.map (·.2)) (hN : X.N.Nodup) (hi : PI X tg iter (LI X.K fI)) (ok : BlkOk X.N X.env.scope scope own)
    (hg : ∀ (s : Shared) (H : Hp) (C : Addr) (cl : List (Str × Addr)) (fp : List Addr), PG (X.blk s H scope (compEnvC scope cl C X.env) fp) tg (LG X.K t o)) (ht : ∀ (s : Shared) (H : Hp) (C : Addr) (cl : List (Str × Addr)) (fp : List Addr), PTs (X.blk s H scope (compEnvC scope cl C X.env) fp) ifs (LT X.K fifs))
    (hk : ∀ (s : Shared) (H : Hp) (C : Addr) (cl : List (Str × Addr)) (fp : List Addr), PE (X.blk s H scope (compEnvC scope cl C X.env) fp) kx (LE false X.K fk)) (hc : X.calm = true := by rfl) (hs : ∀ x, foldedSetIterable iter X.env x = pure x := by intro _; rfl) (hgl : Gl X "sorted" := by rfl) :
    PE X (.Call (.Name "sorted" p) [.DictComp kx (.Constant (.bool true) k2 p2) [⟨tg, iter, ifs, 0⟩] scope dpos] [] pos) (LE false X.K (evSd (own.map (·.2)) t fI fifs fk)) := by
  have q : PE X (.Call (.Name "sorted" p) [.DictComp kx (.Constant (.bool true) k2 p2) [⟨tg, iter, ifs, 0⟩] scope dpos] [] pos) (tCB rSd (tCons (tDc (LI X.K fI) (LG X.K t o) (LT X.K fifs) (LE false X.K fk) (tC (.bl true)) (own.map (·.2))) tNil)) :=
    pe_callB (call_sortedD hc) hgl hm PyProof.Rows.boot_sorted (pa_cons (pe_dc hc hN hi ok hg ht hk (fun _ _ _ _ _ => pe_bl) hs) pa_nil)
  exact q.imp fun _ _ _ h => liftSd ho h
/-- the empty dict -/
def evDic0 : Sl → Mem → Res Val := fun s M => .ok (.d (.dic [])) M
theorem p_dic0 : PE X (.Dict [] [] pos) (LE false X.K evDic0) := by
  refine pe_dnewK.imp fun σ H Q ⟨δ, M, F, μ, x, M', S, R, e0, kk⟩ => ?_
  cases e0
  intro p hp
  have n := NewF.alloc S.sub hp (.dK [])
  refine kk _ μ _ _ n.step (n.sim S) ?_
  exact Rep.dic [] (by simp) upd_same
end
end DL
end P_DLsd
section P_DLmt
set_option Elab.async false
set_option linter.all false
set_option maxRecDepth 100000
set_option maxHeartbeats 1000000
/-! list(range(n)), tuple(range(n)); min of tuples of numbers; tuples of numbers compared by <=. -/
namespace DL
open PySem PySem.Spec PyProof.Rows L2 PySem.SeqAt
open PySem.W (AlikeAll min_list_default alike alikeAll dataLt minD)
def lrD : D → Option D
  | .int n => if -16777216 ≤ n ∧ n ≤ 16777216 then some (.lst (upto n.toNat 0)) else none
  | _ => none
def trD : D → Option D
  | .int n => if -16777216 ≤ n ∧ n ≤ 16777216 then some (.tup (upto n.toNat 0)) else none
  | _ => none
section
variable {X : Cx} {a : Expr} {fa : Sl → Mem → Res Val} {pos : Pos}
theorem reps_upto {K : Fr} {F : Hp} : ∀ (n : Nat) (i : Int), Reps K F (upto n i) ((List.range n).map fun k => V.int (i + (k : Nat)))
  | 0, _ => .nil
  | n + 1, i => by
    rw [List.range_succ_eq_map, List.map_cons, List.map_map]
    show Reps K F (.int i :: upto n (i + 1)) _
    refine .cons ?_ ?_
    · have e : i + ((0 : Nat) : Int) = i := by omega
      rw [e]; exact .int i
    · have h := reps_upto (K := K) (F := F) n (i + 1)
      have e : (fun k => V.int (i + ((Nat.succ k : Nat) : Int))) = fun (k : Nat) => V.int (i + 1 + (k : Int)) := by
        funext k; congr 1; omega
      show Reps K F _ (List.map ((fun k => V.int (i + ((k : Nat) : Int))) ∘ Nat.succ) _)
      have e2 : ((fun k => V.int (i + ((k : Nat) : Int))) ∘ Nat.succ) = fun (k : Nat) => V.int (i + 1 + (k : Int)) := e
      rw [e2]; exact h
theorem upto_len : ∀ (n : Nat) (i : Int), (upto n i).length = n
  | 0, _ => rfl
  | n + 1, i => by show (upto n (i + 1)).length + 1 = _; rw [upto_len n]
theorem p_lrg {p p2 q : Pos} (hm : X.mg "list" = none) (hm2 : X.mg "range" = none) (ha : PE X a (LE false X.K fa)) (hc : X.calm = true := by rfl) (hg : Gl X "list" := by rfl) (hg2 : Gl X "range" := by rfl)
    (na : starEach [a] X.env = (false, eval a X.env) :: starEach [] X.env := by rfl) (nr : starEach [.Call (.Name "range" p2) [a] [] q] X.env = (false, eval (.Call (.Name "range" p2) [a] [] q) X.env) :: starEach [] X.env := by rfl) :
    PE X (.Call (.Name "list" p) [.Call (.Name "range" p2) [a] [] q] [] pos) (LE true X.K (ev1 lrD fa)) := by
  refine ⟨fun pins s σ H Q I h => ?_⟩
  have h := lift1 h
  refine Call_ (ld_blt I hg hm boot_list (PyProof.Rows.callWith_type1 (args_cons ?_ nr) nr))
  refine Call_ (ld_blt I hg2 hm2 boot_range (PyProof.Rows.callWith_type1 (args_cons (thn (ha.run pins s σ H _ I h) fun v s1 ⟨x, H1, I1, r1, q1⟩ => args_nil ?_) na) na))
  obtain ⟨F3, x3, d, sb, rx, hp3, q⟩ := q1
  cases x3 <;> first | (cases hp3; done) | skip
  rename_i n
  have hp3 : (if -16777216 ≤ n ∧ n ≤ 16777216 then some (D.lst (upto n.toNat 0)) else none) = some d := hp3
  by_cases hsm : -16777216 ≤ n ∧ n ≤ 16777216
  case neg => rw [if_neg hsm] at hp3; cases hp3
  rw [if_pos hsm] at hp3
  cases hp3
  have := repT_int rx
  subst this
  obtain ⟨t, rfl⟩ := r1
  refine call_range_1 ?_
  have I2 : L2.Inv X pins σ H1 { s1 with heap := s1.heap.push { cls := .type "range", data := .fields #[.int 0 s1.toks, .int n t, .int 1 (s1.toks + 1)] }, toks := s1.toks + 1 + 1 } := I1.kept fun b u e => Heap.get?_push_of_some _ e
  refine args_nil ?_
  refine call_list_range (a := 0) (b := n) (c := 1) (n := (n - 0).toNat) (I1.ok.hd hc) (IsRange.new _ _ _ _ _ _ _) (small_one (by omega) (by omega) (by omega) (by omega)) (rangeSize_nat 0 n) (by show _ ≤ 16777216; omega) fun h' tk acc c' hk e' hi => ?_
  have hl : (rgV 0 n).length ≤ sizeLine := by rw [rgV_length, sizeLine_eq]; omega
  have e0 : (n - 0).toNat = n.toNat := by rw [Int.sub_zero]
  refine ⟨.ref _, upd H1 _ (.lst (rgV 0 n)), I2.laid hk (Nat.le_refl _) (show ObjOk X.prog X.w _ _ _ (.lst (rgV 0 n)) from ⟨hl, acc.toList, c', vals_rg hi, by rw [Array.toArray_toList]; exact e'⟩), rfl, ?_⟩
  refine postNew sb q (by rw [upto_len]; show _ ≤ 16777216; omega) ?_ (I2.hok.fresh (Nat.le_refl _))
  have := reps_upto (K := X.K) (F := F3) n.toNat 0
  unfold rgV
  rw [e0]; exact this
theorem p_trg {p p2 q : Pos} (hm : X.mg "tuple" = none) (hm2 : X.mg "range" = none) (ha : PE X a (LE false X.K fa)) (hc : X.calm = true := by rfl) (hg : Gl X "tuple" := by rfl) (hg2 : Gl X "range" := by rfl)
    (na : starEach [a] X.env = (false, eval a X.env) :: starEach [] X.env := by rfl) (nr : starEach [.Call (.Name "range" p2) [a] [] q] X.env = (false, eval (.Call (.Name "range" p2) [a] [] q) X.env) :: starEach [] X.env := by rfl) :
    PE X (.Call (.Name "tuple" p) [.Call (.Name "range" p2) [a] [] q] [] pos) (LE false X.K (ev1 trD fa)) := by
  refine ⟨fun pins s σ H Q I h => ?_⟩
  have h := lift1 h
  refine Call_ (ld_blt I hg hm boot_tuple (PyProof.Rows.callWith_type1 (args_cons ?_ nr) nr))
  refine Call_ (ld_blt I hg2 hm2 boot_range (PyProof.Rows.callWith_type1 (args_cons (thn (ha.run pins s σ H _ I h) fun v s1 ⟨x, H1, I1, r1, q1⟩ => args_nil ?_) na) na))
  obtain ⟨F3, x3, d, sb, rx, hp3, q⟩ := q1
  cases x3 <;> first | (cases hp3; done) | skip
  rename_i n
  have hp3 : (if -16777216 ≤ n ∧ n ≤ 16777216 then some (D.tup (upto n.toNat 0)) else none) = some d := hp3
  by_cases hsm : -16777216 ≤ n ∧ n ≤ 16777216
  case neg => rw [if_neg hsm] at hp3; cases hp3
  rw [if_pos hsm] at hp3
  cases hp3
  have := repT_int rx
  subst this
  obtain ⟨t, rfl⟩ := r1
  refine call_range_1 ?_
  have I2 : L2.Inv X pins σ H1 { s1 with heap := s1.heap.push { cls := .type "range", data := .fields #[.int 0 s1.toks, .int n t, .int 1 (s1.toks + 1)] }, toks := s1.toks + 1 + 1 } := I1.kept fun b u e => Heap.get?_push_of_some _ e
  refine args_nil ?_
  refine call_tuple_range (a := 0) (b := n) (c := 1) (n := (n - 0).toNat) (I1.ok.hd hc) (IsRange.new _ _ _ _ _ _ _) (small_one (by omega) (by omega) (by omega) (by omega)) (rangeSize_nat 0 n) (by show _ ≤ 16777216; omega) fun h' tk acc hk hi => ?_
  have hl : (rgV 0 n).length ≤ sizeLine := by rw [rgV_length, sizeLine_eq]; omega
  have e0 : (n - 0).toNat = n.toNat := by rw [Int.sub_zero]
  have I3 : L2.Inv X pins σ H1 { s1 with heap := h', toks := tk } := I2.kept hk
  refine ⟨.ref h'.objs.size, upd H1 h'.objs.size (.tup (rgV 0 n)), I3.laid (t' := tk) (fun c o e => Heap.get?_push_of_some _ e) (Nat.le_refl _) (show ObjOk X.prog X.w _ _ _ (.tup (rgV 0 n)) from ⟨hl, acc.toList, vals_rg hi, by rw [Array.toArray_toList]; exact IsTup.new _ _⟩), rfl, ?_⟩
  refine postTup sb q (by rw [upto_len]; show _ ≤ 16777216; omega) ?_ (I3.hok.fresh (Nat.le_refl _))
  have := reps_upto (K := X.K) (F := F3) n.toNat 0
  unfold rgV
  rw [e0]; exact this
end
/-! min of tuples -/
def isI : D → Bool
  | .int _ => true
  | _ => false
def isIT (r : Nat) : D → Bool
  | .tup xs => decide (xs.length = r) && xs.all isI
  | _ => false
def foldT (x : D) (l : List D) : D := l.foldl (fun b z => if dataLt (toPy z) (toPy b) then z else b) x
def minT : List D → List D → Option D
  | [.lst []], [.non] => some .non
  | [.lst (.tup xs :: l)], [.non] => if (D.tup xs :: l).all (isIT xs.length) = true then some (foldT (.tup xs) l) else none
  | _, _ => none
theorem foldT_py : ∀ (l : List D) (x : D), toPy (foldT x l) = minD (toPy x) (toPys l)
  | [], _ => rfl
  | z :: l, x => by
    show toPy (foldT (if dataLt (toPy z) (toPy x) then z else x) l) = List.foldl _ (if dataLt (toPy z) (toPy x) = true then toPy z else toPy x) (toPys l)
    rw [foldT_py l]
    by_cases h : dataLt (toPy z) (toPy x) = true
    · rw [if_pos h, if_pos h]; rfl
    · rw [if_neg h, if_neg h]; rfl
theorem foldT_mem : ∀ (l : List D) (x : D), foldT x l = x ∨ foldT x l ∈ l
  | [], _ => .inl rfl
  | z :: l, x => by
    show foldT (if dataLt (toPy z) (toPy x) then z else x) l = x ∨ foldT (if dataLt (toPy z) (toPy x) then z else x) l ∈ z :: l
    by_cases h : dataLt (toPy z) (toPy x) = true
    · rw [if_pos h]
      rcases foldT_mem l z with e | e
      · exact .inr (by rw [e]; exact List.mem_cons_self ..)
      · exact .inr (List.mem_cons_of_mem _ e)
    · rw [if_neg h]
      rcases foldT_mem l x with e | e
      · exact .inl e
      · exact .inr (List.mem_cons_of_mem _ e)
theorem ints_plain : ∀ {xs : List D}, xs.all isI = true → D.plains xs = true ∧ PyData.depthAll (toPys xs) = 0
  | [], _ => ⟨rfl, rfl⟩
  | x :: xs, h => by
    rw [List.all_cons, Bool.and_eq_true] at h
    obtain ⟨h1, h2⟩ := ints_plain h.2
    cases x <;> first | (cases h.1; done) | skip
    exact ⟨by show (true && D.plains xs) = true; rw [h1]; rfl, by show max 0 (PyData.depthAll (toPys xs)) = 0; rw [h2]; rfl⟩
theorem ints_alike : ∀ {xs ys : List D}, xs.all isI = true → ys.all isI = true → alikeAll (toPys xs) (toPys ys) = true
  | [], _, _, _ => by show alikeAll [] _ = true; unfold alikeAll; rfl
  | x :: xs, [], _, _ => rfl
  | x :: xs, y :: ys, h, g => by
    rw [List.all_cons, Bool.and_eq_true] at h g
    cases x <;> first | (cases h.1; done) | skip
    cases y <;> first | (cases g.1; done) | skip
    show (true && alikeAll (toPys xs) (toPys ys)) = true
    rw [ints_alike h.2 g.2]; rfl
theorem isIT_tup {r : Nat} {x : D} (h : isIT r x = true) : ∃ xs, x = .tup xs ∧ xs.length = r ∧ xs.all isI = true := by
  cases x <;> first | (cases h; done) | skip
  rename_i xs
  have h : (decide (xs.length = r) && xs.all isI) = true := h
  rw [Bool.and_eq_true, decide_eq_true_eq] at h
  exact ⟨xs, rfl, h.1, h.2⟩
theorem its_facts {r : Nat} : ∀ {l : List D}, l.all (isIT r) = true → D.plains l = true ∧ PyData.depthAll (toPys l) ≤ 1
  | [], _ => ⟨rfl, Nat.zero_le _⟩
  | x :: l, h => by
    rw [List.all_cons, Bool.and_eq_true] at h
    obtain ⟨h1, h2⟩ := its_facts h.2
    obtain ⟨xs, rfl, _, h3⟩ := isIT_tup h.1
    obtain ⟨g1, g2⟩ := ints_plain h3
    refine ⟨by show (D.plains xs && D.plains l) = true; rw [g1, h1]; rfl, ?_⟩
    show max (PyData.depth (.tuple (toPys xs))) (PyData.depthAll (toPys l)) ≤ 1
    have : PyData.depth (.tuple (toPys xs)) ≤ 1 := by
      show PyData.depthAll (toPys xs) + 1 ≤ 1
      omega
    omega
section
variable {X : Cx} {fl fkl : Sl → Mem → Res (List Val)} {e : Expr} {es : List Expr} {kws : List Keyword} {pos : Pos}
theorem bk_minT {k : Nat} (hc : X.calm = true) (hr : Room k X.A) : CallRK X (.builtin "min") ["default"] (rKD X.K minT) := by
  intro pins s σ H xs zs us ws Q I r rz ⟨F, dx, dy, d, sb, tx, ty, e, q⟩
  match dx, dy, e, tx, ty with
  | [.lst []], [.non], e, tx, ty =>
    cases (Option.some.inj e)
    obtain ⟨v, rfl, rx⟩ := repTs_1 tx
    obtain ⟨z, rfl, ry⟩ := repTs_1 ty
    obtain ⟨a, as, rfl, ha, ra, la⟩ := repT_lst sb rx
    rw [Vals.ref1 r]
    obtain ⟨w, rfl, rw'⟩ := rz.one
    obtain ⟨its, rv, pl, hz⟩ := I.list (SqL.of ha)
    obtain ⟨bs, rd⟩ := readsL I sb ra rv rfl
    refine min_list_default (xs := toPys []) (I.ok.hd hc) pl.isList (by rw [List.toList_toArray]; exact rd) alike_nil (by have := hr.un; show X.A.units + 1 + 0 < cLine; omega) (fun _ h' tk hk => ?_) (fun y ys i v h' tk bs e => by cases e)
    cases repT_non ry
    exact ⟨.non, H, I.kept hk, rw', postSame sb q .non⟩
  | [.lst (.tup ys :: l)], [.non], e, tx, ty =>
    have e : (if (D.tup ys :: l).all (isIT ys.length) = true then some (foldT (.tup ys) l) else none) = some d := e
    by_cases hg : (D.tup ys :: l).all (isIT ys.length) = true
    case neg => rw [if_neg hg] at e; cases e
    rw [if_pos hg] at e
    cases e
    obtain ⟨v, rfl, rx⟩ := repTs_1 tx
    obtain ⟨z, rfl, ry⟩ := repTs_1 ty
    obtain ⟨a, as, rfl, ha, ra, la⟩ := repT_lst sb rx
    rw [Vals.ref1 r]
    obtain ⟨w, rfl, rw'⟩ := rz.one
    obtain ⟨its, rv, pl, hz⟩ := I.list (SqL.of ha)
    obtain ⟨f3, f2⟩ := its_facts hg
    have f1 : AlikeAll (toPys (.tup ys :: l)) := by
      refine ⟨fun x hx y hy => ?_, fun x hx => ?_⟩
      · obtain ⟨x', hx', rfl⟩ := toPys_mem hx
        obtain ⟨y', hy', rfl⟩ := toPys_mem hy
        obtain ⟨a1, rfl, _, h1⟩ := isIT_tup (List.all_eq_true.mp hg x' hx')
        obtain ⟨a2, rfl, _, h2⟩ := isIT_tup (List.all_eq_true.mp hg y' hy')
        exact ints_alike h1 h2
      · obtain ⟨x', hx', rfl⟩ := toPys_mem hx
        obtain ⟨a1, rfl, _, h1⟩ := isIT_tup (List.all_eq_true.mp hg x' hx')
        exact fun z => nomatch z
    have f4 : (foldT (.tup ys) l).plain = true := by
      have hm : foldT (.tup ys) l ∈ D.tup ys :: l := by
        rcases foldT_mem l (.tup ys) with e | e
        · rw [e]; exact List.mem_cons_self ..
        · exact List.mem_cons_of_mem _ e
      exact mem_plains f3 hm
    obtain ⟨bs, rd⟩ := readsL I sb ra rv f3
    refine min_list_default (xs := toPys (.tup ys :: l)) (I.ok.hd hc) pl.isList (by rw [List.toList_toArray]; exact rd) f1 (by have := hr.un; show X.A.units + 1 + PyData.depthAll (toPys (.tup ys :: l)) < cLine; omega) (fun e => by cases e) (fun y zs i u h' tk cs e hu hrd hk => ?_)
    obtain ⟨x', r', e1, rfl, rfl⟩ := toPys_cons e
    cases e1
    rw [← foldT_py] at hrd
    exact pick_item I sb ra rv (by simpa using hu) hrd f4 f3 hk q
theorem p_dflt_minT {k : Nat} {p : Pos} (hr : Room k X.A) (hm : X.mg "min" = none) (ha : PA X (e :: es) (LA X.K fl)) (hk : PK X kws (LA X.K fkl)) (hg : Gl X "min" := by rfl) (hc : X.calm = true := by rfl)
    (he : backTo pos (starEach (e :: es) X.env) = (false, eval e X.env) :: backTo pos (starEach es X.env) := by rfl) (hpl : (backTo pos (starEach (e :: es) X.env)).any (·.1) = false := by rfl)
    (hall : (backToKw pos (keywordEach kws X.env)).all (·.1.isSome) = true := by rfl) (hnone : (backToKw pos (keywordEach kws X.env)).any (·.1.isNone) = false := by rfl) (hks : (backToKw pos (keywordEach kws X.env)).filterMap (·.1) = [(("default" : Str))] := by rfl) :
    PE X (.Call (.Name "min" p) (e :: es) kws pos) (LE false X.K (evBK minT fl fkl)) :=
  (pe_callBK (bk_minT hc hr) hg hm PyProof.Rows.boot_min ha hk (by decide) (by decide) he hpl hall hnone hks).imp fun _ _ _ h => liftBK h
end
/-! tuples compared -/
def intOf : D → Int
  | .int i => i
  | _ => 0
def leTD : D → D → Option D
  | .tup x, .tup y => if (x.all isI && y.all isI) = true then some (.bl (lexLeI (x.map intOf) (y.map intOf))) else none
  | x, y => cmpV .le x y
theorem lexAt_le (ns ms : List Int) : ∀ (k i : Nat), i + k = min ns.length ms.length → Ob.lexAt (fun j => decide (ns.getD j 0 = ms.getD j 0)) (fun j => decide (ns.getD j 0 ≤ ms.getD j 0)) (decide (ns.length ≤ ms.length)) i k = lexLeI (ns.drop i) (ms.drop i)
  | 0, i, h => by
    rw [Ob.lexAt_zero]
    by_cases hl : ns.length ≤ ms.length
    · have e : ns.drop i = [] := List.drop_eq_nil_of_le (by omega)
      rw [e, decide_eq_true hl]; rfl
    · have e : ms.drop i = [] := List.drop_eq_nil_of_le (by omega)
      have e2 : i < ns.length := by omega
      rw [e, decide_eq_false hl, List.drop_eq_getElem_cons e2]; rfl
  | k + 1, i, h => by
    have h1 : i < ns.length := by omega
    have h2 : i < ms.length := by omega
    rw [Ob.lexAt_succ, List.drop_eq_getElem_cons h1, List.drop_eq_getElem_cons h2, lexAt_le ns ms k (i + 1) (by omega)]
    have g1 : ns.getD i 0 = ns[i] := by simp [h1]
    have g2 : ms.getD i 0 = ms[i] := by simp [h2]
    show (if decide (ns.getD i 0 = ms.getD i 0) = true then _ else decide (ns.getD i 0 ≤ ms.getD i 0)) = (if ns[i] = ms[i] then _ else decide (ns[i] ≤ ms[i]))
    rw [g1, g2]
    by_cases e : ns[i] = ms[i]
    · rw [if_pos (decide_eq_true e), if_pos e]
    · rw [if_neg (by simpa using e), if_neg e]
theorem reps_isI {K : Fr} {F : Hp} : ∀ {l : List D} {vs : List V}, Reps K F l vs → l.all isI = true → vs = (l.map intOf).map V.int
  | [], _, .nil, _ => rfl
  | x :: l, _, .cons h t, g => by
    rw [List.all_cons, Bool.and_eq_true] at g
    rw [reps_isI t g.2]
    cases x <;> first | (cases g.1; done) | skip
    cases h
    rfl
theorem ob_leT {X : Cx} {k : Nat} (hr : Room k X.A) : OpR X (compareOp .LtE) (r2D false X.K leTD) := by
  intro pins s σ H x y v u Q I rx ry ⟨F, dx, dy, d, sb, tx, ty, e, q⟩
  by_cases hd : (∃ l k, dx = .tup l ∧ dy = .tup k)
  · obtain ⟨l, k2, rfl, rfl⟩ := hd
    have e : (if (l.all isI && k2.all isI) = true then some (D.bl (lexLeI (l.map intOf) (k2.map intOf))) else none) = some d := e
    by_cases hg : (l.all isI && k2.all isI) = true
    case neg => rw [if_neg hg] at e; cases e
    rw [if_pos hg] at e
    cases e
    rw [Bool.and_eq_true] at hg
    obtain ⟨_, a, as, rfl, ha, ra, la⟩ := repT_tup tx
    obtain ⟨_, b, bs, rfl, hb, rb, lb⟩ := repT_tup ty
    have e1 := reps_isI ra hg.1
    have e2 := reps_isI rb hg.2
    subst e1 e2
    refine op_leT (by have := hr.un; omega) pins s σ H _ _ v u Q I rx ry ⟨a, b, _, _, rfl, rfl, sb.sqT ha, sb.sqT hb, ?_⟩
    rw [lexAt_le _ _ _ 0 (by omega), List.drop_zero, List.drop_zero]
    exact postSame sb q (.bl _)
  · have e2 : leTD dx dy = cmpV .le dx dy := by
      cases dx <;> cases dy <;> first | rfl | exact absurd ⟨_, _, rfl, rfl⟩ hd
    rw [e2] at e
    exact ob_le pins s σ H x y v u Q I rx ry ⟨F, dx, dy, d, sb, tx, ty, e, q⟩
end DL
end P_DLmt
section P_DLtx
set_option Elab.async false
set_option linter.all false
set_option maxRecDepth 100000
set_option maxHeartbeats 2000000
/-! Texts: f-strings, str(x), int(text), text.split(sign). -/
namespace DL
open PySem PySem.Spec PyProof.Rows L2
def decs (i : Int) : List Char := (toString i).toList
theorem enc_decs (i : Int) : Str.ofString (toString i) = enc (decs i) := by rw [Str.ofString_eq_toList]; rfl
theorem log_ok {i : Int} (h : i.natAbs < 1000000) : i.natAbs.log2 < 1920 := by
  by_cases z : i.natAbs = 0
  · rw [z]; decide
  · rw [Nat.log2_lt z]
    exact Nat.lt_trans h (by decide +kernel)
def fmtD : D → Option (List Char)
  | .str s => some s
  | .int i => if i.natAbs < 1000000 then some (decs i) else none
  | _ => none
theorem str_assoc (a b c : Str) : a ++ b ++ c = a ++ (b ++ c) := by
  show (⟨(a.cps ++ b.cps) ++ c.cps⟩ : Str) = ⟨a.cps ++ (b.cps ++ c.cps)⟩
  rw [Array.append_assoc]
theorem str_app_len (a b : Str) : (a ++ b).length = a.length + b.length := by
  show (a.cps ++ b.cps).size = _
  rw [Array.size_append]; rfl
def LJ (K : Fr) (f : Sl → Mem → Res (List Char)) (acc : Str) (σ : L2.St) (H : Hp) (Q : Str → Hp → Prop) : Prop := ∃ δ M F μ x M', Sim K F μ M H ∧ RepS K F μ δ σ ∧ f δ M = .ok x M' ∧ acc.length + x.length ≤ big ∧
  ∀ F' μ' H', StepE F μ H F' μ' H' → Sim K F' μ' M' H' → Q (acc ++ enc x) H'
structure PJx (X : Cx) (es : List Expr) (f : Sl → Mem → Res (List Char)) : Prop where
  ex : ∃ ts, PJ X es ts ∧ ∀ acc σ H Q, LJ X.K f acc σ H Q → tJs ts acc σ H Q
def evJNil : Sl → Mem → Res (List Char) := fun _ M => .ok [] M
def evJFmt (fa : Sl → Mem → Res Val) (fl : Sl → Mem → Res (List Char)) : Sl → Mem → Res (List Char) := fun s M => (fa s M).bind fun v M1 => match v with
  | .d x => (match fmtD x with
    | some t => (fl s M1).bind fun u M2 => .ok (t ++ u) M2
    | none => .bad)
  | _ => .bad
def evJoined (f : Sl → Mem → Res (List Char)) : Sl → Mem → Res Val := fun s M => (f s M).bind fun x M1 => if x.length ≤ big then .ok (.d (.str x)) M1 else .bad
section
variable {X : Cx} {fa fb : Sl → Mem → Res Val} {fl : Sl → Mem → Res (List Char)} {a b : Expr} {es : List Expr} {pos : Pos}
theorem app_nil (a : Str) : a ++ enc [] = a := by
  show (⟨a.cps ++ (enc []).cps⟩ : Str) = a
  have : (enc []).cps = #[] := rfl
  rw [this, Array.append_empty]
theorem p_jnil : PJx X [] evJNil := ⟨[], .nil, fun acc σ H Q ⟨δ, M, F, μ, x, M', S, R, e0, hl, k⟩ => by
  cases e0
  have := k F μ H (Step.refl _ _ _ _) S
  rw [app_nil] at this
  exact this⟩
theorem LJ.next {K : Fr} {acc : Str} {σ : L2.St} {Q : Str → Hp → Prop} {δ : Sl} {M1 M2 : Mem} {F F1 : Hp} {μ μ1 : List Addr} {H H1 : Hp} {t u : List Char} (S1 : Sim K F1 μ1 M1 H1) (R1 : RepS K F1 μ1 δ σ) (st : StepE F μ H F1 μ1 H1) (e2 : fl δ M1 = .ok u M2) (hl : acc.length + (t ++ u).length ≤ big)
    (k : ∀ F' μ' H', StepE F μ H F' μ' H' → Sim K F' μ' M2 H' → Q (acc ++ enc (t ++ u)) H') : LJ K fl (acc ++ enc t) σ H1 Q :=
  ⟨δ, M1, F1, μ1, u, M2, S1, R1, e2, by rw [str_app_len, enc_length]; rw [List.length_append] at hl; omega, fun F' μ' H' st2 S2 => by
    have := k F' μ' H' (st.transE st2) S2
    rw [enc_append, ← str_assoc] at this
    exact this⟩
theorem p_jfmt (ha : PE X a (LE false X.K fa)) (hr : PJx X es fl) : PJx X (.FormattedValue a (-1) none pos :: es) (evJFmt fa fl) := by
  obtain ⟨ts, hp, hk⟩ := hr.ex
  refine ⟨_, .cons (pe_fmt ha) hp, fun acc σ H Q ⟨δ, M, F, μ, x, M', S, R, e0, hl, k⟩ => ?_⟩
  obtain ⟨v, M1, e1, e0⟩ := bind_ok e0
  cases v with
  | ref n => cases e0
  | d y =>
    refine ⟨δ, M, F, μ, .d y, M1, S, R, e1, fun F1 μ1 H1 v st1 S1 r => ?_⟩
    have R1 := R.mono st1.fr st1.whole
    cases y <;> first | (cases e0; done) | skip
    case int i =>
      cases r
      have e0 : (match (if i.natAbs < 1000000 then some (decs i) else none : Option (List Char)) with | some t => (fl δ M1).bind fun u M2 => Res.ok (t ++ u) M2 | none => .bad) = .ok x M' := e0
      by_cases hi : i.natAbs < 1000000
      · rw [if_pos hi] at e0
        obtain ⟨u, M2, e2, e0⟩ := bind_ok e0
        cases e0
        refine .inr ⟨i, rfl, log_ok hi, Str.ofString (toString i), rfl, ?_, ?_⟩
        · rw [enc_decs, str_app_len, enc_length, sizeLine_eq]
          rw [List.length_append] at hl
          have : acc.length + (decs i).length ≤ big := by omega
          exact this
        · rw [enc_decs]
          exact hk _ _ _ _ (LJ.next S1 R1 st1 e2 hl k)
      · rw [if_neg hi] at e0; cases e0
    case str s =>
      obtain ⟨u, M2, e2, e0⟩ := bind_ok (show (fl δ M1).bind _ = _ from e0)
      cases e0
      cases r with
      | str _ hs =>
        refine .inl ⟨enc s, rfl, by rw [enc_length, sizeLine_eq]; exact hs, enc s, rfl, ?_, hk _ _ _ _ (LJ.next S1 R1 st1 e2 hl k)⟩
        rw [str_app_len, enc_length, sizeLine_eq]
        rw [List.length_append] at hl
        have : acc.length + s.length ≤ big := by omega
        exact this
def evJVal (fa : Sl → Mem → Res Val) (fl : Sl → Mem → Res (List Char)) : Sl → Mem → Res (List Char) := fun s M => (fa s M).bind fun v M1 => match v with
  | .d (.str t) => (fl s M1).bind fun u M2 => .ok (t ++ u) M2
  | _ => .bad
theorem p_jval (ha : PE X a (LE false X.K fa)) (hr : PJx X es fl) : PJx X (a :: es) (evJVal fa fl) := by
  obtain ⟨ts, hp, hk⟩ := hr.ex
  refine ⟨_, .cons ha hp, fun acc σ H Q ⟨δ, M, F, μ, x, M', S, R, e0, hl, k⟩ => ?_⟩
  obtain ⟨v, M1, e1, e0⟩ := bind_ok e0
  cases v with
  | ref n => cases e0
  | d y =>
    refine ⟨δ, M, F, μ, .d y, M1, S, R, e1, fun F1 μ1 H1 v st1 S1 r => ?_⟩
    have R1 := R.mono st1.fr st1.whole
    cases y <;> first | (cases e0; done) | skip
    case str s =>
      obtain ⟨u, M2, e2, e0⟩ := bind_ok (show (fl δ M1).bind _ = _ from e0)
      cases e0
      cases r with
      | str _ hs =>
        refine ⟨enc s, rfl, ?_, hk _ _ _ _ (LJ.next S1 R1 st1 e2 hl k)⟩
        rw [str_app_len, enc_length, sizeLine_eq]
        rw [List.length_append] at hl
        have : acc.length + s.length ≤ big := by omega
        exact this
theorem p_joined {v1 v2 : Expr} {rest : List Expr} (h : PJx X (v1 :: v2 :: rest) fl) : PE X (.JoinedStr (v1 :: v2 :: rest) pos) (LE false X.K (evJoined fl)) := by
  obtain ⟨ts, hp, hk⟩ := h.ex
  refine (pe_joined hp).imp fun σ H Q ⟨δ, M, F, μ, x, M', S, R, e0, k⟩ => ?_
  obtain ⟨y, M1, e1, e0⟩ := bind_ok e0
  by_cases hl : y.length ≤ big
  · rw [if_pos hl] at e0
    cases e0
    refine hk _ _ _ _ ⟨δ, M, F, μ, y, _, S, R, e1, by show 0 + y.length ≤ big; omega, fun F' μ' H' st S' => ?_⟩
    have e : Str.empty ++ enc y = enc y := by
      show (⟨#[] ++ (enc y).cps⟩ : Str) = enc y
      rw [Array.empty_append]
    show Q (.str (Str.empty ++ enc y)) H'
    rw [e]
    exact k F' μ' H' _ st S' (.str y hl)
  · rw [if_neg hl] at e0; cases e0
end
/-! ### str(x), int(text) -/
def strDd : List D → Option D
  | [.int i] => if i.natAbs < 1000000 ∧ (decs i).length ≤ big then some (.str (decs i)) else none
  | _ => none
def intTD : List D → Option D
  | [.str s] => if s.length ≤ 640 then (PySem.intText? (enc s)).map D.int else none
  | xs => biD .int xs
section
variable {X : Cx}
theorem bb_strT : CallR X (.type "str") (rLD false X.K strDd) := by
  intro pins s σ H vs us Q I r ⟨F, xs, d, sb, tx, e, q⟩
  match xs, e, tx with
  | [.int i], e, tx =>
    have e : (if i.natAbs < 1000000 ∧ (decs i).length ≤ big then some (D.str (decs i)) else none) = some d := e
    by_cases hi : i.natAbs < 1000000 ∧ (decs i).length ≤ big
    · rw [if_pos hi] at e
      cases e
      obtain ⟨v, rfl, rx⟩ := repTs_1 tx
      have := repT_int rx
      subst this
      refine call_str_int pins s σ H _ us Q I r ⟨i, rfl, log_ok hi.1, ?_⟩
      show Q (.str (Str.ofString (toString i))) H
      rw [enc_decs]
      exact postSame sb q (.str _ hi.2)
    · rw [if_neg hi] at e; cases e
theorem bb_intT : CallR X (.type "int") (rLD false X.K intTD) := by
  intro pins s σ H vs us Q I r ⟨F, xs, d, sb, tx, e, q⟩
  by_cases hs : ∃ t, xs = [.str t]
  · obtain ⟨t, rfl⟩ := hs
    have e : (if t.length ≤ 640 then (PySem.intText? (enc t)).map D.int else none) = some d := e
    by_cases hl : t.length ≤ 640
    · rw [if_pos hl] at e
      obtain ⟨n, hn, rfl⟩ := Option.map_eq_some_iff.mp e
      obtain ⟨v, rfl, rx⟩ := repTs_1 tx
      obtain ⟨rfl, la⟩ := repT_str rx
      exact call_int_str pins s σ H _ us Q I r ⟨enc t, n, rfl, hn, by rw [enc_length]; exact hl, postSame sb q (.int _)⟩
    · rw [if_neg hl] at e; cases e
  · have e2 : intTD xs = biD .int xs := by
      unfold intTD
      split
      · exact absurd ⟨_, rfl⟩ hs
      · rfl
    rw [e2] at e
    exact bb_int pins s σ H vs us Q I r ⟨F, xs, d, sb, tx, e, q⟩
end
/-! ### split -/
def splG (c : Char) : List Char → List Char → List (List Char)
  | acc, [] => [acc]
  | acc, x :: r => if x = c then acc :: splG c [] r else splG c (acc ++ [x]) r
def splD : D → D → Option D
  | .str s, .str [c] => if c.toNat < 256 ∧ s.length + 2 ≤ big then some (.lst ((splG c [] s).map D.str)) else none
  | _, _ => none
theorem spl_map (c : Char) : ∀ (s acc : List Char), TL.spl [c.toNat] 0 (acc.map Char.toNat) (s.map Char.toNat) = (splG c acc s).map (List.map Char.toNat)
  | [], acc => rfl
  | x :: r, acc => by
    show (if TL.pre [c.toNat] (x.toNat :: r.map Char.toNat) = true then acc.map Char.toNat :: TL.spl [c.toNat] 0 [] (r.map Char.toNat) else TL.spl [c.toNat] 0 (acc.map Char.toNat ++ [x.toNat]) (r.map Char.toNat)) = _
    have ep : TL.pre [c.toNat] (x.toNat :: r.map Char.toNat) = (x == c) := by
      show (([x.toNat] : List Nat) == [c.toNat]) = _
      rw [Bool.eq_iff_iff]
      simp
      exact ⟨fun h => char_inj h, fun h => by rw [h]⟩
    rw [ep]
    have ih := spl_map c r
    by_cases h : x = c
    · rw [if_pos (by simpa using h)]
      show _ = List.map (List.map Char.toNat) (if x = c then _ else _)
      rw [if_pos h, List.map_cons, ← ih []]; rfl
    · rw [if_neg (by simpa using h)]
      show _ = List.map (List.map Char.toNat) (if x = c then _ else _)
      rw [if_neg h, ← ih (acc ++ [x]), List.map_append]; rfl
theorem split_enc (c : Char) (s : List Char) (hc : c.toNat < 256) : Txt.split (enc s) (enc [c]) = (splG c [] s).map enc := by
  have h := SX.split_S (a := s.map Char.toNat) (b := [c.toNat]) (by simp) (by simp [hc])
  have e := spl_map c s []
  rw [show ([] : List Char).map Char.toNat = [] from rfl] at e
  rw [e, List.map_map] at h
  exact h
theorem spl_len (c : Char) : ∀ (s acc : List Char), (splG c acc s).length ≤ s.length + 1 ∧ ∀ t ∈ splG c acc s, t.length ≤ acc.length + s.length
  | [], acc => ⟨Nat.le_refl _, fun t h => by rw [List.mem_singleton.mp h]; exact Nat.le_refl _⟩
  | x :: r, acc => by
    unfold splG
    by_cases h : x = c
    · rw [if_pos h]
      obtain ⟨h1, h2⟩ := spl_len c r []
      refine ⟨by rw [List.length_cons, List.length_cons]; omega, fun t ht => ?_⟩
      rcases List.mem_cons.mp ht with rfl | ht
      · exact Nat.le_add_right _ _
      · have := h2 t ht; rw [List.length_cons]; simp at this; omega
    · rw [if_neg h]
      obtain ⟨h1, h2⟩ := spl_len c r (acc ++ [x])
      refine ⟨by rw [List.length_cons]; omega, fun t ht => ?_⟩
      have := h2 t ht
      rw [List.length_append] at this; rw [List.length_cons]; simp at this; omega
theorem reps_txts {K : Fr} {F : Hp} : ∀ (l : List (List Char)), (∀ t ∈ l, t.length ≤ big) → Reps K F (l.map D.str) ((l.map enc).map V.str)
  | [], _ => .nil
  | t :: l, h => .cons (.str t (h t (List.mem_cons_self ..))) (reps_txts l fun u hu => h u (List.mem_cons_of_mem _ hu))
def evSplit (fa fb : Sl → Mem → Res Val) : Sl → Mem → Res Val := fun s M => (fa s M).bind fun v M1 => (fb s M1).bind fun w M2 => match v, w with
  | .d x, .d y => Res.of ((splD x y).map Val.d) M2
  | _, _ => .bad
section
variable {X : Cx} {fa fb : Sl → Mem → Res Val} {o e : Expr}
theorem p_split {apos pos : Pos} (ho : PE X o (LE false X.K fa)) (he : PE X e (LE false X.K fb)) (hs : starEach [e] X.env = [(false, eval e X.env)] := by rfl) (hbase : attributeBase o "split" X.env (eval o X.env) = eval o X.env := by rfl) (hline : (apos.endLine == pos.line) = true := by rfl) :
    PE X (.Call (.Attribute o "split" apos) [e] [] pos) (LE true X.K (evSplit fa fb)) := by
  refine (pe_split ho he hs hbase hline).imp fun σ H Q ⟨δ, M, F, μ, x, M', S, R, e0, k⟩ => ?_
  obtain ⟨v, M1, e1, e0⟩ := bind_ok e0
  obtain ⟨w, M2, e2, e0⟩ := bind_ok e0
  cases v with
  | ref n => cases w <;> cases e0
  | d y =>
    cases w with
    | ref n => cases e0
    | d z =>
      have e0 : Res.of ((splD y z).map Val.d) M2 = .ok x M' := e0
      obtain ⟨s, c, rfl, rfl⟩ : ∃ s c, y = .str s ∧ z = .str [c] := by
        unfold splD at e0
        split at e0
        · exact ⟨_, _, rfl, rfl⟩
        · cases e0
      have e0 : Res.of ((if c.toNat < 256 ∧ s.length + 2 ≤ big then some (D.lst ((splG c [] s).map D.str)) else none).map Val.d) M2 = .ok x M' := e0
      by_cases hc : c.toNat < 256 ∧ s.length + 2 ≤ big
      case neg => rw [if_neg hc] at e0; cases e0
      rw [if_pos hc] at e0
      cases e0
      refine ⟨δ, M, F, μ, .d (.str s), M1, S, R, e1, fun F1 μ1 H1 v st1 S1 r1 => ?_⟩
      cases r1
      refine ⟨⟨_, rfl⟩, δ, M1, F1, μ1, .d (.str [c]), _, S1, R.mono st1.fr st1.whole, e2, fun F2 μ2 H2 w st2 S2 r2 => ?_⟩
      cases r2
      refine ⟨enc s, enc [c], rfl, rfl, rfl, by rw [enc_length, sizeLine_eq]; exact hc.2, fun p hp => ?_⟩
      rw [split_enc c s hc.1]
      obtain ⟨l1, l2⟩ := spl_len c s []
      have n := NewF.alloc S2.sub hp (.lst (((splG c [] s).map enc).map V.str))
      have n2 : NewF F2 H2 F2 (upd H2 p (.lst (((splG c [] s).map enc).map V.str))) := ⟨Sub.refl _, S2.sub.trans n.keep, n.keep, fun a o h => .inl h⟩
      refine k F2 μ2 _ _ ((st1.transE st2).transE n2.step) (n2.sim S2) ⟨p, _, _, rfl, rfl, upd_same, ?_, fun z => S2.tracked z hp, st1.up p (st2.up p hp), by rw [List.length_map]; omega, reps_txts _ fun t ht => ?_⟩
      · cases q : F2 p with
        | none => rfl
        | some o => rw [S2.sub p o q] at hp; cases hp
      · have := l2 t ht; simp at this; omega
end
end DL
end P_DLtx
section P_DLxf
set_option Elab.async false
set_option linter.all false
set_option maxRecDepth 100000
set_option maxHeartbeats 2000000
/-! An error of the class DoesNotFit: made, raised, its field read (turned from the worked proof of an own error with a field). -/
namespace PySem
namespace LowDNF
open PySem.W PySem.Calls PyProof.Rows PySem.HandSPX
/-! ### the text of __init__ -/
def iA (p1 p2 : Pos) : Arguments := { posonlyargs := [], args := [{ arg := "self", annotation := none, pos := p1 }, { arg := "given", annotation := none, pos := p2 }], vararg := none, kwonlyargs := [], kw_defaults := [], kwarg := none, defaults := [] }
def iB (q1 q2 q3 q4 : Pos) : List Stmt := [.Assign [.Attribute (.Name "self" q1) "given" q2] (.Name "given" q3) q4]
def iS : Scope := { kind := .function, names := [(PySem.Str.ofString "self", .local), (PySem.Str.ofString "given", .local)], isGenerator := false, isCoroutine := false, more := [] }
/-- what the written part says of Low, at C, and of its __init__, at fI -/
structure LowTxt (K : Frag) (mg : Str → Option Value) (C fI : Addr) : Prop where
  gC : mg "DoesNotFit" = some (.ref C)
  cls : ∃ nm q N bs bm sn sub ab col dd k0 k1 k2 k3 k5, K.lookup C = some (excClassObj nm q C N bs bm true sn sub ab col dd k0 k1 k2 k3 k5 "ValueError.__new__") ∧ refsVE bm = true
  sa : findIn K (.ref C) "__setattr__" = some (some (.builtin "object.__setattr__"))
  ga : findIn K (.ref C) "__getattribute__" = some (some (.builtin "BaseException.__getattribute__"))
  gg : findIn K (.ref C) "__getattr__" = some none
  noN : findIn K (.ref C) "given" = some none
  iC : findIn K (.ref C) "__init__" = some (some (.ref fI))
  tC : typeIn K (.ref fI) = some (.type "function")
  kC : keepIn K (.ref C) = true
  exC : subIn K (.ref C) (.type "BaseException") = some true
  tyC : typeIn K (.ref C) = some (.type "type")
  hdC : hasDictIn K C = true
  fn : ∃ (oc : Value) (od : Option Addr) (doc pm : Value) (an : Option Addr) (cdv ct : Value) (osl : Array (Option Value)) (p1 p2 q1 q2 q3 q4 : Pos),
    K.lookup fI = some ⟨oc, od, .func (fnOf "__init__" "DoesNotFit.__init__" (iA p1 p2) (iB q1 q2 q3 q4) iS .none .none doc pm an cdv ct), osl⟩ ∧ codeIn K cdv "DoesNotFit.__init__" = true
theorem one_size (v : Value) : [v].length ≤ sizeLine := by
  rw [sizeLine_eq]
  exact (by decide : 1 ≤ 16777216)
theorem kept_but {K : Frag} {h h' : Heap} {x : Addr} (X : K.In h) (hx : K.lookup x = none) (k : ∀ b o, b ≠ x → h.get? b = some o → h'.get? b = some o) : K.In h' := fun a o e =>
  k a o (fun z => by rw [z, hx] at e; cases e) (X a o e)
theorem ldC {M : Model} {s : Shared} {name : Str} {scope : Scope} {L a : Addr} {cd : Value} {m : Str → Option Value} {x : Str} {pos : Pos} {v : Value} {Q : Value → Shared → Prop} {A : Around} {E : Value → Shared → Prop} (hn : s.heap.Ns L m) (hv : m x = some v) (h : Q v s)
    (hk : scope.kind = .function := by rfl) (hl : (envOfC name scope L a cd).kindOf x = some .local := by rfl) (hd : (x == ("__debug__" : Str)) = false := by decide) :
    wpAny M A (eval (.Name x pos) (envOfC name scope L a cd)) Q E s := wpAny_Name (wpAny_loadName_local hk hl hn hv h) hd
/-- what __init__ leaves of a fresh exception at x -/
structure InitEnd (h h' : Heap) (x C dx t1 : Addr) (v : Value) : Prop where
  keep : ∀ b o, b ≠ x → h.get? b = some o → h'.get? b = some o
  obj : h'.get? x = some { cls := .ref C, dict := some dx, data := .fields #[.ref t1, .none, .none, .none, .bool false, .none] }
  dbig : h.objs.size ≤ dx
  dne : dx ≠ x
  ns : h'.Ns1 dx (fun y => if y = "given" then some v else none)
/-- a made Low -/
structure OwnMade (h h' : Heap) (e C d : Addr) (v : Value) : Prop where
  keep : ∀ b o, h.get? b = some o → h'.get? b = some o
  new : h.objs.size ≤ e
  obj : ∃ oe vs, h'.get? e = some oe ∧ oe.cls = .ref C ∧ oe.dict = some d ∧ oe.data = .fields vs ∧ vs[1]? = some .none
  dbig : h.objs.size ≤ d
  dne : d ≠ e
  ns : h'.Ns1 d (fun y => if y = "given" then some v else none)
section
variable {prog : Program} {w : World} {A : Around} {E : Value → Shared → Prop} {R : Result → Shared → Prop} {s : Shared} {K : Frag} {mg : Str → Option Value} {C fI : Addr}
theorem low_init (T : LowTxt K mg C fI) {x t0 : Addr} {v : Value} (X : K.In s.heap) (hlim : s.heap.NoLimit) (hx : s.heap.get? x = some (excO C t0)) (hnx : K.lookup x = none) (hroom : A.depth < recursionLimit)
    (hq : ∀ h' tk dx, InitEnd s.heap h' x C dx t0 v → R (.ok (.ret .none)) { s with heap := h', toks := tk }) :
    codeAny (model prog w) A (.call (.ref fI) ⟨[.ref x, v], []⟩) R s := by
  obtain ⟨oc, od, doc, pm, an, cdv, ct, osl, p1, p2, q1, q2, q3, q4, ho, hcd⟩ := T.fn
  obtain ⟨nm, q, N, bs, bm, sn, sub, ab, col, dd, k0, k1, k2, k3, k5, hC, hbm⟩ := T.cls
  have hcl : clsIn K C = some { name := nm, bases := bs, mro := .ref C :: bm, ns := N, qualname := q, hasDict := true, slotNames := sn, subclasses := sub, abstract := ab, collection := col, hasDel := false } := by unfold clsIn; rw [hC] <;> rfl
  refine Att.call_fn (binds := [("self", .ref x), ("given", v)]) X hlim ho hcd hroom (BindsTo.of_eq (by first | rfl | with_unfolding_all rfl)) (by first | rfl | decide | with_unfolding_all rfl) (fun s₁ IC => ?_) rfl rfl rfl
  obtain ⟨h₁, tk₁, rfl⟩ := IC.toInCall.same
  have k : ∀ b o, s.heap.get? b = some o → h₁.get? b = some o := IC.toInCall.keep
  have hn := IC.toInCall.ns
  have hxL : s.heap.objs.size ≠ x := Nat.ne_of_gt (Heap.lt_size hx)
  have X₁ : K.In h₁ := X.keeps k
  have hx₁ := k _ _ hx
  -- self.by = by
  show wpAny _ _ (execs _ _) _ _ _
  refine wpAny_execs_cons (plainObj_wpAny_Assign_Attribute ?_)
  refine ldC (v := v) hn (by first | rfl | with_unfolding_all rfl | kernel_rfl) (ldC (v := .ref x) hn (by first | rfl | with_unfolding_all rfl | kernel_rfl) ?_)
  refine set_plain X₁ (ox := excO C t0) (od := none) ⟨hx₁, rfl, rfl, trivial⟩ T.sa ?_
  refine exc_osa X₁ hx₁ hcl (show refsVE (.ref C :: bm) = true from hbm) rfl T.noN (fun h₃ tk₃ dx k₃ dn dne hx₃ hn₃ => ?_)
  show wpAny _ _ (execs _ _) _ _ _
  have z : s.heap.objs.size < h₁.objs.size := hn.lt
  exact wpAny_execs_nil (hq h₃ tk₃ dx ⟨fun b o hb e => k₃ b o hb (k b o e), hx₃, Nat.le_of_lt (Nat.lt_of_lt_of_le z dn), dne, hn₃⟩)
theorem low_made (T : LowTxt K mg C fI) {v : Value} (X : K.In s.heap) (hlim : s.heap.NoLimit) (hroom : A.depth + 1 < recursionLimit)
    (hq : ∀ h' tk e d, OwnMade s.heap h' e C d v → R (.ok (.ret (.ref e))) { s with heap := h', toks := tk }) :
    codeAny (model prog w) A (.call (.ref C) ⟨[v], []⟩) R s := by
  obtain ⟨nm, q, N, bs, bm, sn, sub, ab, col, dd, k0, k1, k2, k3, k5, hC, hbm⟩ := T.cls
  obtain ⟨hp, g, dr, tk, os⟩ := s
  have k : ∀ b o, hp.get? b = some o → ((hp.push (kdv_tup [v])).push (excO C hp.objs.size)).get? b = some o := fun b o e => Heap.get?_push_of_some _ (Heap.get?_push_of_some _ e)
  have hget : ((hp.push (kdv_tup [v])).push (excO C hp.objs.size)).get? (hp.objs.size + 1) = some (excO C hp.objs.size) := by heap_get
  have hnx : K.lookup (hp.objs.size + 1) = none := by
    cases e : K.lookup (hp.objs.size + 1) with
    | none => rfl
    | some o =>
      have z : hp.get? (hp.objs.size + 1) = some o := X _ _ e
      exact absurd (Nat.lt_of_succ_lt (Heap.lt_size z)) (Nat.lt_irrefl _)
  refine call_own F.excBase_ValueError (fun X => refsVE_contains X bm hbm) (X _ _ hC) (looks_findIn X T.iC) (fun self => bind_fn X self T.tC) (one_size v) ?_
  refine low_init (s := ⟨(hp.push (kdv_tup [v])).push (excO C hp.objs.size), g, dr, tk, os⟩) T (X.keeps k) (hlim.keeps k) hget hnx ?_ fun h' tk' dx ⟨k', hx, dn, dne, hns⟩ => ?_
  · show A.depth + 1 < recursionLimit
    exact hroom
  · have old : ∀ b o, hp.get? b = some o → h'.get? b = some o := fun b o e => k' b o (Nat.ne_of_lt (Nat.lt_succ_of_lt (Heap.lt_size e))) (k b o e)
    have z : hp.objs.size + 1 + 1 ≤ dx := by
      first
        | (simpa only [Heap.size_push] using dn)
        | exact dn
        | (have q := dn; rw [Heap.size_push, Heap.size_push] at q; exact q)
    exact ⟨rfl, hq h' tk' (hp.objs.size + 1) dx ⟨old, Nat.le_succ _, ⟨_, _, hx, rfl, rfl, rfl, rfl⟩, Nat.le_trans (Nat.le_trans (Nat.le_succ _) (Nat.le_succ _)) z, dne, hns⟩⟩
end
end LowDNF
end PySem
namespace L2
open PySem PySem.Spec PyProof.Rows
theorem relO_low_dnf {v : V} {v' : Value} (r : RelV v v') (f : Str) : RelO (List.lookup f [(("given" : Str), v)]) (if f = "given" then some v' else none) := by
  by_cases hw : f = "given"
  · subst hw
    rw [if_pos rfl]
    have q : List.lookup ("given" : Str) [(("given" : Str), v)] = some v := by simp [List.lookup]
    rw [q]
    exact r
  · rw [if_neg hw]
    have qw : (f == ("given" : Str)) = false := by simpa using hw
    have q2 : List.lookup f [(("given" : Str), v)] = none := by simp [List.lookup, qw]
    rw [q2]
    trivial
section
variable {X : Cx} {C fI : Addr}
/-- Low(e) -/
def tMkLow_dnf (C : Addr) (ta : TA) : St → Hp → XK → Prop := fun σ H Q => ta σ H fun vs H1 => ∃ v, vs = [v] ∧ ∀ d, H1 d = none → Q (.ref C) (some d) (upd H1 d (.xd [(("given" : Str), v)]))
theorem pmk_low_dnf {a : Expr} {ta : TA} {p pos : Pos} {k : Nat} (T : PySem.LowDNF.LowTxt X.K X.mg C fI) (hr : Room k X.A) (ha : PA X [a] ta) (hg : Gl X "DoesNotFit" := by rfl)
    (he : starEach (a :: []) X.env = (false, eval a X.env) :: starEach [] X.env := by rfl) (hpl : (backTo pos (starEach [] X.env)).any (·.1) = false := by rfl) :
    PMk X (.Call (.Name "DoesNotFit" p) [a] [] pos) (tMkLow_dnf C ta) := by
  intro pins s σ H Q I h
  refine wpAny_Call_Name_kw (ld_glob I hg T.gC ?_)
  refine PySem.W.callWith_K (h₀ := X.base) I.ok.mod.kin T.kC (thn (ha.run pos pins s σ H _ I h) fun us s1 hh => ?_) he hpl
  obtain ⟨vs, H1, I1, r1, v, ev, q1⟩ := hh
  subst ev
  refine ⟨I1.kIn, ?_⟩
  cases r1 with
  | cons rv rn =>
    rename_i v' us'
    cases rn
    show wpAny _ _ (call (.ref C) [v']) _ _ _
    have hlim := I1.nolimit
    obtain ⟨hp, g, dr, tk, os⟩ := s1
    refine wpAny_call (PySem.LowDNF.low_made T I1.kIn hlim (by have := hr.dp; omega) fun h' tk' e d M => ?_)
    show MkP X pins σ Q (.ref e) ⟨h', g, dr, tk', os⟩
    obtain ⟨oe, fv, hoe, hc, hd, hdat, h1⟩ := M.obj
    have hns := M.ns
    obtain ⟨G', g1, g2⟩ := restrict h' fun b => decide (b ≠ e)
    have gk : ∀ b, b ≠ e → G'.get? b = h'.get? b := fun b hb => g1 b (decide_eq_true hb)
    have ge : G'.get? e = none := g2 e (by simp)
    have old : ∀ b o, hp.get? b = some o → G'.get? b = some o := fun b o q => (gk b (Nat.ne_of_lt (Nat.lt_of_lt_of_le (Heap.lt_size q) M.new))).trans (M.keep b o q)
    have ob : ObjOk X.prog X.w (upd H1 d (.xd [(("given" : Str), v)])) G' d (.xd [(("given" : Str), v)]) :=
      ⟨_, hns.at (fun o q => (gk d M.dne).trans q), fun f => relO_low_dnf rv f⟩
    have J : Inv X pins σ (upd H1 d (.xd [(("given" : Str), v)])) ⟨G', g, dr, tk', os⟩ := I1.laid (t' := tk') old M.dbig ob
    refine ⟨e, oe, fv, ⟨G', g, dr, tk', os⟩, _, .ref C, some d, rfl, J, fun b o q => ?_, ge, hoe, ⟨hc, hd⟩, hdat, h1, ?_, rfl, I1.bare, raises_own T.exC T.tyC, q1 d (I1.hok.fresh M.dbig)⟩
    · by_cases hb : b = e
      · have q' : G'.get? b = some o := q
        rw [hb, ge] at q'; cases q'
      · exact (gk b hb).symm.trans q
    · rw [upd_ne (Ne.symm M.dne)]
      exact I1.hok.fresh M.new
/-- raise Low(e) -/
def tRaiseLow_dnf (C : Addr) (W : WX) (ta : TA) : TS := fun _ σ H => tMkLow_dnf C ta σ H fun cls d H' => W cls d σ H'
theorem ps_raiseLow_dnf {a : Expr} {ta : TA} {W : WX} {p pos pos2 : Pos} {k : Nat} (hc : X.calm = true) (T : PySem.LowDNF.LowTxt X.K X.mg C fI) (hr : Room k X.A) (tk : Takes X W) (ha : PA X [a] ta) (hg : Gl X "DoesNotFit" := by rfl)
    (he : starEach (a :: []) X.env = (false, eval a X.env) :: starEach [] X.env := by rfl) (hpl : (backTo pos (starEach [] X.env)).any (·.1) = false := by rfl) :
    PS X (.Raise (some (.Call (.Name "DoesNotFit" p) [a] [] pos)) none pos2) (tRaiseLow_dnf C W ta) := ps_raise hc tk (pmk_low_dnf T hr ha hg he hpl)
/-- low.by, low the exception that the suite holds (at a; its class cls, its dict d) -/
def tByLow_dnf (C : Addr) (a : Addr) (cls : Value) (d : Option Addr) (te : TE) : TE := fun σ H Q => te σ H fun x H1 => x = .ref a ∧ cls = .ref C ∧ ∃ (dd : Addr) (v : V), d = some dd ∧ H1 dd = some (.xd [(("given" : Str), v)]) ∧ Q v H1
theorem pe_byLow_dnf {a : Addr} {oe : Obj} {cls : Value} {d : Option Addr} {pn : List (Addr × Obj)} {e : Expr} {te : TE} {pos : Pos} (T : PySem.LowDNF.LowTxt X.K X.mg C fI) (hz : Zc cls d oe) (hf : ∃ vs, oe.data = .fields vs) (he : PE (X.suite a ((a, oe) :: pn)) e te)
    (hb : attributeBase e "given" X.env (eval e X.env) = eval e X.env := by rfl) :
    PE (X.suite a ((a, oe) :: pn)) (.Attribute e "given" pos) (tByLow_dnf C a cls d te) := by
  refine ⟨fun pins s σ H Q I h => ?_⟩
  refine attr_of hb (thn (he.run pins s σ H _ I h) fun u s1 hh => ?_)
  obtain ⟨x, H1, I1, rx, ex, ec, dd, v, ed, ea, q⟩ := hh
  subst ex
  obtain rfl : u = Value.ref a := rx
  subst ec
  subst ed
  obtain ⟨ha, _⟩ := I1.pin (a, oe) (List.mem_append_left _ List.mem_cons_self)
  obtain ⟨vs, hd⟩ := hf
  have hx : ObjOk X.prog X.w H1 s1.heap dd (.xd [(("given" : Str), v)]) := I1.hok dd _ ea
  obtain ⟨mA, hns, hr⟩ := hx
  obtain ⟨od, ho, hl⟩ := lookIn_ns hns
  have l : List.lookup ("given" : Str) [(("given" : Str), v)] = some v := by simp [List.lookup]
  obtain ⟨u, hu, ru⟩ := RelO.some_of (v := v) (o := mA "given") (by rw [← l]; exact hr "given")
  have J : PySem.W.InstAt s1.heap a oe C (some od) := ⟨ha, hz.1, by unfold PySem.W.notCls; rw [hd] <;> rfl, by rw [hz.2]; exact ho⟩
  exact HandSPX.exc_get I1.kIn J T.ga T.gg T.exC (PySem.W.findObj_own T.hdC T.noN rfl (by rw [hl, hu])) (handed_of ru) ⟨v, H1, I1.tok _, ru, q⟩
end
end L2
end P_DLxf
section P_DLx
set_option Elab.async false
set_option linter.all false
set_option maxRecDepth 100000
set_option maxHeartbeats 2000000
/-! Defs that may raise DoesNotFit: a second reading; what a try catches; isinstance of what is caught. -/
namespace DL
open PySem PySem.Spec PyProof.Rows L2
section
variable {bs : Nat} {K : Fr} {f g : Sl → Mem → Res Flow} {fT : Sl → Mem → Res Bool} {D : Ends} {σ : L2.St} {H : Hp}
theorem LS.seq (h : LS bs K (evSeq f g) D σ H) : tSeq (LS bs K f) (LS bs K g) D σ H := by
  obtain ⟨δ, M, F, μ, x, M', hb, S, R, e0, k⟩ := h
  obtain ⟨y, M1, e1, e0⟩ := bind_ok e0
  refine ⟨δ, M, F, μ, y, M1, hb, S, R, e1, ?_⟩
  cases y with
  | nx s1 => exact fun F1 μ1 H1 σ1 hb1 st S1 R1 => LS.after st hb1 S1 R1 e0 k
  | ret v => cases e0; exact k
  | brk s1 => cases e0; exact k
  | cont s1 => cases e0; exact k
theorem LS.ite (h : LS bs K (evIte fT f g) D σ H) : tIfS (LT K fT) (LS bs K f) (LS bs K g) D σ H := by
  obtain ⟨δ, M, F, μ, x, M', hb, S, R, e0, k⟩ := h
  obtain ⟨t, M1, e1, e0⟩ := bind_ok e0
  refine ⟨δ, M, F, μ, t, M1, S, R, e1, fun F1 μ1 H1 st S1 => ?_⟩
  cases t with
  | true => rw [if_pos rfl] at e0 ⊢; exact LS.after (Step.mono st hb) (Nat.le_trans hb st.leE) S1 (R.mono st.fr st.whole) e0 k
  | false => rw [if_neg Bool.false_ne_true] at e0 ⊢; exact LS.after (Step.mono st hb) (Nat.le_trans hb st.leE) S1 (R.mono st.fr st.whole) e0 k
theorem LS.ends {D2 : Ends} (h : LS bs K f D σ H) (h1 : ∀ σ H, D.nx σ H → D2.nx σ H) (h2 : ∀ v H, D.rt v H → D2.rt v H) (h3 : ∀ σ H, D.bk σ H → D2.bk σ H) (h4 : ∀ σ H, D.ct σ H → D2.ct σ H) : LS bs K f D2 σ H := by
  obtain ⟨δ, M, F, μ, x, M', hb, S, R, e0, k⟩ := h
  refine ⟨δ, M, F, μ, x, M', hb, S, R, e0, ?_⟩
  cases x with
  | nx s => exact fun F' μ' H' σ' q1 q2 q3 q4 => h1 _ _ (k F' μ' H' σ' q1 q2 q3 q4)
  | ret v => exact fun F' μ' H' v q1 q2 q3 q4 => h2 _ _ (k F' μ' H' v q1 q2 q3 q4)
  | brk s => exact fun F' μ' H' σ' q1 q2 q3 q4 => h3 _ _ (k F' μ' H' σ' q1 q2 q3 q4)
  | cont s => exact fun F' μ' H' σ' q1 q2 q3 q4 => h4 _ _ (k F' μ' H' σ' q1 q2 q3 q4)
theorem LS.pass (h : LS bs K sPass D σ H) : D.nx σ H := by
  obtain ⟨δ, M, F, μ, x, M', hb, S, R, e0, k⟩ := h
  cases e0
  exact k F μ H σ hb (Step.refl _ _ _ _) S R
theorem LS.never (h : LS bs K (evSeq sNever g) D σ H) : False := by
  obtain ⟨δ, M, F, μ, x, M', hb, S, R, e0, k⟩ := h
  cases e0
end
theorem if_tt {A B : Prop} (h : A) : (if true = true then A else B) := by rw [if_pos rfl]; exact h
/-- a def of one slot: first f1, then, where the test fT is true, the error with the value of slot 0 -/
def xRaise1 (f1 : Sl → Mem → Res Flow) (fT : Sl → Mem → Res Bool) : List Val → Mem → Res D := fun xs M => match xs with
  | [.d x] => (f1 [some (.d x)] M).bind fun fl M1 => match fl with
    | .nx s => (match s with
      | [some (.d y)] => (fT s M1).bind fun b M2 => if b then .ok y M2 else .bad
      | _ => .bad)
    | _ => .bad
  | _ => .bad
/-- what such a def promises: g where it returns; else the error C with x in its field -/
def spX (K : Fr) (C : Addr) (n : Nat) (g : List Val → Mem → Res Val) (x : List Val → Mem → Res D) : Sp := fun vs H Q E => spF false K n g vs H Q E ∨
  (vs.length = n ∧ ∃ xs M F μ d0 M', Sim K F μ M H ∧ RepVs K F μ xs vs ∧ x xs M = .ok d0 M' ∧
    ∀ F' μ' H' d v, StepE F μ H F' μ' H' → Sim K F' μ' M' H' → H' d = some (.xd [(("given" : Str), v)]) → Rep K F' d0 v → E (.ref C) (some d) H')
/-- the reading of its body -/
def tRaise1 (b : Nat) (K : Fr) (C : Addr) (E : XK) (f1 : Sl → Mem → Res Flow) (fT : Sl → Mem → Res Bool) (fr : Sl → Mem → Res Flow) : TS :=
  tSeq (LS b K f1) (tSeq (tIfS (LT K fT) (tRaiseLow_dnf C (fun cls d _ H => E cls d H) (tCons (tVar 0) tNil)) tNext) (LS b K fr))
theorem raise1 {K : Fr} {C : Addr} {x0 : Str} {vs : List V} {H : Hp} {Q : VK} {E : XK} {f1 fr : Sl → Mem → Res Flow} {fT : Sl → Mem → Res Bool}
    (h : spX K C 1 (defG false 1 0 fun _ => evSeq f1 (evSeq (evIte fT (evSeq sNever sPass) sPass) (evSeq fr sPass))) (xRaise1 f1 fT) vs H Q E) :
    ∃ b, tRaise1 b K C E f1 fT (evSeq fr sPass) { nx := fun _ H' => Q .non H', rt := Q } (L2.start [x0] vs) H := by
  rcases h with h | ⟨hl, xs, M, F, μ, d0, M', S, r, e0, k⟩
  · obtain ⟨b, z⟩ := def_body (N := [x0]) (m := 0) (E := E) rfl h
    refine ⟨b, ?_⟩
    have z1 := LS.seq z
    refine z1.ends (fun σ H z2 => ?_) (fun _ _ h => h) (fun _ _ h => h) (fun _ _ h => h)
    · have z3 := LS.ite (LS.seq z2)
      obtain ⟨δ, M, F, μ, x, M', S, R, e0, k⟩ := z3
      refine ⟨δ, M, F, μ, x, M', S, R, e0, fun F' μ' H' st S' => ?_⟩
      have q := k F' μ' H' st S'
      cases x with
      | true => rw [if_pos rfl] at q; exact (LS.never q).elim
      | false => rw [if_neg Bool.false_ne_true] at q; exact LS.pass q
  · match xs, r, e0 with
    | [.d x], r, e0 =>
      obtain ⟨fl, M1, e1, e0⟩ := bind_ok e0
      match fl, e1, e0 with
      | .nx [some (.d y)], e1, e0 =>
        obtain ⟨b, M2, e2, e0⟩ := bind_ok e0
        cases b with
        | false => cases e0
        | true =>
          rw [if_pos rfl] at e0
          cases e0
          refine ⟨M.length, [some (.d x)], M, F, μ, .nx [some (.d d0)], M1, by rw [S.len]; exact Nat.le_refl _, S, RepS.start (m := 0) r rfl, e1, ?_⟩
          intro F1 μ1 H1 σ1 hb1 st1 S1 R1
          rw [← S.len] at st1
          refine ⟨[some (.d d0)], M1, F1, μ1, true, M', S1, R1, e2, fun F2 μ2 H2 st2 S2 => ?_⟩
          refine if_tt ?_
          obtain ⟨v, hv, rv⟩ := R1.at_ 0 (.d d0) rfl
          refine ⟨v, hv, v, rfl, fun d hd => ?_⟩
          have n := NewF.alloc S2.sub hd (.xd [(("given" : Str), v)])
          exact k _ μ2 _ d v ((st1.transE st2).transE n.step) (n.sim S2) upd_same (Rep.mono n.fr (Rep.mono st2.fr rv))
/-! ### isinstance of what is caught -/
/-- what the class D must say -/
structure ExcD (K : Fr) (D : Addr) : Prop where
  hc : (PySem.W.clsIn K D).isSome = true
  hg : PySem.W.findIn K (.ref D) "__getattribute__" = some (some (.builtin "BaseException.__getattribute__"))
  hk : PySem.W.findIn K (.ref D) "__getattr__" = some none
  hs : PySem.W.subIn K (.ref D) (.type "BaseException") = some true
  ha : PySem.W.findIn K (.ref D) "__class__" = some (some (.builtin "object.__class__"))
  hn : PySem.W.specialIn K (.builtin "object.__class__") "__get__" = some (some (.builtin "getset_descriptor.__get__"))
  ht : PySem.W.takesIn K (.builtin "object.__class__") = some true
  hm : PySem.W.mroIn K D (.type "object") = some true
def rIsX (K : Fr) (D a : Addr) (cls : Value) (d : Option Addr) : List V → Hp → VK → Prop := fun xs H Q => cls = .ref D ∧ ∃ (c : V) (cv : Value) (b : Bool) (dd : Addr) (v : V), xs = [.ref a, c] ∧ (∀ u, RelV c u → u = cv) ∧ PySem.W.kitOne K (.ref D) cv = some b ∧
  d = some dd ∧ H dd = some (.xd [(("given" : Str), v)]) ∧ Q (.bl b) H
theorem call_isX {X : Cx} {a D : Addr} {cls : Value} {d : Option Addr} {oe : Obj} {pn : List (Addr × Obj)} (C : ExcD X.K D) (hz : Zc cls d oe) (hf : ∃ vs, oe.data = .fields vs) : CallR (X.suite a ((a, oe) :: pn)) (.builtin "isinstance") (rIsX X.K D a cls d) := by
  intro pins s σ H xs us Q I r h
  obtain ⟨rfl, c, cv, b, dd, v, rfl, hcv, e, ed, ea, q⟩ := h
  cases r with
  | cons rx rr =>
    cases rr with
    | cons rt rr =>
      cases rr
      cases rx
      have ec := hcv _ rt
      subst ec
      subst ed
      obtain ⟨hget, _⟩ := I.pin (a, oe) (List.mem_append.mpr (.inl List.mem_cons_self))
      obtain ⟨vs, hv⟩ := hf
      have hx : ObjOk X.prog X.w H s.heap dd (.xd [(("given" : Str), v)]) := I.hok dd _ ea
      obtain ⟨mA, hns, hr⟩ := hx
      obtain ⟨od, ho, hl⟩ := lookIn_ns hns
      have J : PySem.W.InstAt s.heap a oe D (some od) := ⟨hget, hz.1, by unfold PySem.W.notCls; rw [hv] <;> rfl, by rw [hz.2]; exact ho⟩
      exact PySem.W.kia_one (PySem.W.kitx_exc (od := some od) C.hc C.hg C.hk C.hs C.ha C.hn C.ht C.hm) I.kIn J e (fun z => nomatch z) fun tk => ⟨.bl b, H, I.kept (t' := tk) fun _ _ z => z, rfl, q⟩
/-- what the top has written of the errors: DoesNotFit at C, its __init__ at fI, the base at S, InvalidRow, InvalidColour, TooMany at CR, CC, CT -/
structure DnF (K : Fr) (mg : Str → Option Value) (C fI S CR CC CT : Addr) : Prop where
  low : PySem.LowDNF.LowTxt K mg C fI
  gS : mg "SockError" = some (.ref S)
  gR : mg "InvalidRow" = some (.ref CR)
  gCC : mg "InvalidColour" = some (.ref CC)
  gT : mg "TooMany" = some (.ref CT)
  te : PySem.W.exmOne K (.ref C) (.ref S) = some true
  ex : ExcD K C
  iR : PySem.W.kitOne K (.ref C) (.ref CR) = some false
  iC : PySem.W.kitOne K (.ref C) (.ref CC) = some false
  iT : PySem.W.kitOne K (.ref C) (.ref CT) = some false
  iV : PySem.W.kitOne K (.ref C) (.type "ValueError") = some true
theorem kit_self (K : Fr) (C : Addr) : PySem.W.kitOne K (.ref C) (.ref C) = some true := by
  unfold PySem.W.kitOne
  rw [if_pos (by simp)]
/-! ### f(k = v), f may raise: what it lets out is told at the slots of the call -/
theorem pe_callN0S {X : Cx} {pos : Pos} {CX : CXT} {k : Nat} {f : Addr} {fn : FuncData} {x : Str} {p : Pos} {ps ks : List Str} {sp : Sp} {E : L2.St → XK} {kws : List Keyword} {tk : TA} {g : List Value → List Value → List Value} {gV : List V → List V → List V}
    (F : FnOk X.prog X.w X.K X.mg X.base CX k f fn ps sp) (hr : Room k X.A) (hg : Gl X x) (hm : X.mg x = some (.ref f)) (hk : PySem.W.keepIn X.K (.ref f) = true) (hb : KBn X.K fn ps 0 ks g gV) (hx : ∀ σ, PassesAt CX X σ (E σ)) (hkw : PK X kws tk)
    (hall : (backToKw pos (keywordEach kws X.env)).all (·.1.isSome) = true := by rfl) (hks : (backToKw pos (keywordEach kws X.env)).filterMap (·.1) = ks := by rfl) (hdb : (x == ("__debug__" : Str)) = false := by decide +kernel)
    (hpl : ((backTo pos (starEach [] X.env)).any (·.1) || (backToKw pos (keywordEach kws X.env)).any (·.1.isNone)) = false := by rfl) :
    PE X (.Call (.Name x p) [] kws pos) (fun σ H Q => tk σ H fun zs H1 => zs.length = ks.length ∧ sp (gV [] zs) H1 Q (E σ)) := by
  refine ⟨fun pins s σ H Q I h => ?_⟩
  refine wpAny_Call_Name_kw (ld_glob I hg hm ?_ hdb)
  refine PySem.W.callWith_KW0 (h₀ := X.base) I.ok.mod.kin hk hall ?_ hpl
  refine thn (hkw.run pos pins s σ H _ I h) fun ws s2 ⟨zs, H2, I2, rz, l2, q2⟩ => ⟨I2.kIn, ?_⟩
  rw [hks]
  have r2 := hb.rel (vs := []) (us := []) .nil rz
  refine wpAny_call (codeAny_mono (F.run X.A X.stack s2 H2 ⟨[], ks.zip ws⟩ (g [] ws) (gV [] zs) Q (E σ) hr I2.env0 (hb.to s2 [] ws I2.kIn rfl (rz.length.symm.trans l2)) r2 q2) fun r s' hq => ?_)
  cases r with
  | error e => exact hx σ pins H2 s2 e s' I2 hq
  | ok fl =>
    cases fl with
    | ret u => exact I2.after hq
    | next => exact False.elim hq
    | brk => exact False.elim hq
    | cont => exact False.elim hq
theorem mk_dnf {K : Fr} {h : Heap} {mg : Str → Option Value} {C fI S CR CC CT N : Addr} {nm q : Str} {bs : List Value} {sn : List Str} {sub : List Value} {ab : Bool} {col : Option Bool} {dd : Option Addr} {m0 m1 m2 m3 m5 : Option Value}
    {od an : Option Addr} {sl : Array (Option Value)} {oc dc pm cd ct : Value} {p1 p2 q1 q2 q3 q4 : Pos} (X : K.In h) (G : h.Ns mainGlobals mg)
    (aC : PySem.W.nsIn K mainGlobals "DoesNotFit" = some (some (.ref C))) (aS : PySem.W.nsIn K mainGlobals "SockError" = some (some (.ref S))) (aR : PySem.W.nsIn K mainGlobals "InvalidRow" = some (some (.ref CR)))
    (aCC : PySem.W.nsIn K mainGlobals "InvalidColour" = some (some (.ref CC))) (aT : PySem.W.nsIn K mainGlobals "TooMany" = some (some (.ref CT)))
    (xL : K.lookup C = some (PySem.excClassObj nm q C N bs [.ref S, .type "ValueError", .type "Exception", .type "BaseException", .type "object"] true sn sub ab col dd m0 m1 m2 m3 m5 "ValueError.__new__"))
    (sa : PySem.W.findIn K (.ref C) "__setattr__" = some (some (.builtin "object.__setattr__"))) (ga : PySem.W.findIn K (.ref C) "__getattribute__" = some (some (.builtin "BaseException.__getattribute__"))) (gg : PySem.W.findIn K (.ref C) "__getattr__" = some none)
    (nb : PySem.W.findIn K (.ref C) "given" = some none) (a1 : PySem.W.findIn K (.ref C) "__init__" = some (some (.ref fI))) (t1 : PySem.W.typeIn K (.ref fI) = some (.type "function"))
    (l1 : K.lookup fI = some ⟨oc, od, .func (PySem.W.fnOf "__init__" "DoesNotFit.__init__" (PySem.LowDNF.iA p1 p2) (PySem.LowDNF.iB q1 q2 q3 q4) PySem.LowDNF.iS .none .none dc pm an cd ct), sl⟩) (c1 : PySem.W.codeIn K cd "DoesNotFit.__init__" = true)
    (kC : PySem.W.keepIn K (.ref C) = true) (eC : PySem.W.subIn K (.ref C) (.type "BaseException") = some true) (tC : PySem.W.typeIn K (.ref C) = some (.type "type")) (hC : PySem.W.hasDictIn K C = true)
    (eS : PySem.W.subIn K (.ref S) (.type "BaseException") = some true) (hS : PySem.W.hasDictIn K S = true) (tS : PySem.W.typeIn K (.ref S) = some (.type "type")) (sS : PySem.W.subIn K (.ref C) (.ref S) = some true)
    (cC : (PySem.W.clsIn K C).isSome = true) (ha : PySem.W.findIn K (.ref C) "__class__" = some (some (.builtin "object.__class__"))) (hn : PySem.W.specialIn K (.builtin "object.__class__") "__get__" = some (some (.builtin "getset_descriptor.__get__")))
    (ht : PySem.W.takesIn K (.builtin "object.__class__") = some true) (hm : PySem.W.mroIn K C (.type "object") = some true)
    (iR : PySem.W.kitOne K (.ref C) (.ref CR) = some false) (iC : PySem.W.kitOne K (.ref C) (.ref CC) = some false) (iT : PySem.W.kitOne K (.ref C) (.ref CT) = some false) (iV : PySem.W.kitOne K (.ref C) (.type "ValueError") = some true) :
    ∃ C fI S CR CC CT, DnF K mg C fI S CR CC CT :=
  ⟨C, fI, S, CR, CC, CT, { low := { gC := PySem.W.mg_of X G aC, cls := ⟨nm, q, N, bs, _, sn, sub, ab, col, dd, m0, m1, m2, m3, m5, xL, by rfl⟩, sa := sa, ga := ga, gg := gg, noN := nb, iC := a1, tC := t1, kC := kC, exC := eC, tyC := tC, hdC := hC, fn := ⟨_, _, _, _, _, _, _, _, _, _, _, _, _, _, l1, c1⟩ }, gS := PySem.W.mg_of X G aS, gR := PySem.W.mg_of X G aR, gCC := PySem.W.mg_of X G aCC, gT := PySem.W.mg_of X G aT, te := PySem.W.exm_ref eS hS tS sS, ex := ⟨cC, ga, gg, eC, ha, hn, ht, hm⟩, iR := iR, iC := iC, iT := iT, iV := iV }⟩
end DL
end P_DLx
section P_DLxr
set_option Elab.async false
set_option linter.all false
set_option maxRecDepth 100000
set_option maxHeartbeats 2000000
/-! An error of the class InvalidRow: made, raised, its field read (turned from the worked proof of an own error with a field). -/
namespace PySem
namespace LowIR
open PySem.W PySem.Calls PyProof.Rows PySem.HandSPX
/-! ### the text of __init__ -/
def iA (p1 p2 : Pos) : Arguments := { posonlyargs := [], args := [{ arg := "self", annotation := none, pos := p1 }, { arg := "given", annotation := none, pos := p2 }], vararg := none, kwonlyargs := [], kw_defaults := [], kwarg := none, defaults := [] }
def iB (q1 q2 q3 q4 : Pos) : List Stmt := [.Assign [.Attribute (.Name "self" q1) "given" q2] (.Name "given" q3) q4]
def iS : Scope := { kind := .function, names := [(PySem.Str.ofString "self", .local), (PySem.Str.ofString "given", .local)], isGenerator := false, isCoroutine := false, more := [] }
/-- what the written part says of Low, at C, and of its __init__, at fI -/
structure LowTxt (K : Frag) (mg : Str → Option Value) (C fI : Addr) : Prop where
  gC : mg "InvalidRow" = some (.ref C)
  cls : ∃ nm q N bs bm sn sub ab col dd k0 k1 k2 k3 k5, K.lookup C = some (excClassObj nm q C N bs bm true sn sub ab col dd k0 k1 k2 k3 k5 "ValueError.__new__") ∧ refsVE bm = true
  sa : findIn K (.ref C) "__setattr__" = some (some (.builtin "object.__setattr__"))
  ga : findIn K (.ref C) "__getattribute__" = some (some (.builtin "BaseException.__getattribute__"))
  gg : findIn K (.ref C) "__getattr__" = some none
  noN : findIn K (.ref C) "given" = some none
  iC : findIn K (.ref C) "__init__" = some (some (.ref fI))
  tC : typeIn K (.ref fI) = some (.type "function")
  kC : keepIn K (.ref C) = true
  exC : subIn K (.ref C) (.type "BaseException") = some true
  tyC : typeIn K (.ref C) = some (.type "type")
  hdC : hasDictIn K C = true
  fn : ∃ (oc : Value) (od : Option Addr) (doc pm : Value) (an : Option Addr) (cdv ct : Value) (osl : Array (Option Value)) (p1 p2 q1 q2 q3 q4 : Pos),
    K.lookup fI = some ⟨oc, od, .func (fnOf "__init__" "InvalidRow.__init__" (iA p1 p2) (iB q1 q2 q3 q4) iS .none .none doc pm an cdv ct), osl⟩ ∧ codeIn K cdv "InvalidRow.__init__" = true
theorem one_size (v : Value) : [v].length ≤ sizeLine := by
  rw [sizeLine_eq]
  exact (by decide : 1 ≤ 16777216)
theorem kept_but {K : Frag} {h h' : Heap} {x : Addr} (X : K.In h) (hx : K.lookup x = none) (k : ∀ b o, b ≠ x → h.get? b = some o → h'.get? b = some o) : K.In h' := fun a o e =>
  k a o (fun z => by rw [z, hx] at e; cases e) (X a o e)
theorem ldC {M : Model} {s : Shared} {name : Str} {scope : Scope} {L a : Addr} {cd : Value} {m : Str → Option Value} {x : Str} {pos : Pos} {v : Value} {Q : Value → Shared → Prop} {A : Around} {E : Value → Shared → Prop} (hn : s.heap.Ns L m) (hv : m x = some v) (h : Q v s)
    (hk : scope.kind = .function := by rfl) (hl : (envOfC name scope L a cd).kindOf x = some .local := by rfl) (hd : (x == ("__debug__" : Str)) = false := by decide) :
    wpAny M A (eval (.Name x pos) (envOfC name scope L a cd)) Q E s := wpAny_Name (wpAny_loadName_local hk hl hn hv h) hd
/-- what __init__ leaves of a fresh exception at x -/
structure InitEnd (h h' : Heap) (x C dx t1 : Addr) (v : Value) : Prop where
  keep : ∀ b o, b ≠ x → h.get? b = some o → h'.get? b = some o
  obj : h'.get? x = some { cls := .ref C, dict := some dx, data := .fields #[.ref t1, .none, .none, .none, .bool false, .none] }
  dbig : h.objs.size ≤ dx
  dne : dx ≠ x
  ns : h'.Ns1 dx (fun y => if y = "given" then some v else none)
/-- a made Low -/
structure OwnMade (h h' : Heap) (e C d : Addr) (v : Value) : Prop where
  keep : ∀ b o, h.get? b = some o → h'.get? b = some o
  new : h.objs.size ≤ e
  obj : ∃ oe vs, h'.get? e = some oe ∧ oe.cls = .ref C ∧ oe.dict = some d ∧ oe.data = .fields vs ∧ vs[1]? = some .none
  dbig : h.objs.size ≤ d
  dne : d ≠ e
  ns : h'.Ns1 d (fun y => if y = "given" then some v else none)
section
variable {prog : Program} {w : World} {A : Around} {E : Value → Shared → Prop} {R : Result → Shared → Prop} {s : Shared} {K : Frag} {mg : Str → Option Value} {C fI : Addr}
theorem low_init (T : LowTxt K mg C fI) {x t0 : Addr} {v : Value} (X : K.In s.heap) (hlim : s.heap.NoLimit) (hx : s.heap.get? x = some (excO C t0)) (hnx : K.lookup x = none) (hroom : A.depth < recursionLimit)
    (hq : ∀ h' tk dx, InitEnd s.heap h' x C dx t0 v → R (.ok (.ret .none)) { s with heap := h', toks := tk }) :
    codeAny (model prog w) A (.call (.ref fI) ⟨[.ref x, v], []⟩) R s := by
  obtain ⟨oc, od, doc, pm, an, cdv, ct, osl, p1, p2, q1, q2, q3, q4, ho, hcd⟩ := T.fn
  obtain ⟨nm, q, N, bs, bm, sn, sub, ab, col, dd, k0, k1, k2, k3, k5, hC, hbm⟩ := T.cls
  have hcl : clsIn K C = some { name := nm, bases := bs, mro := .ref C :: bm, ns := N, qualname := q, hasDict := true, slotNames := sn, subclasses := sub, abstract := ab, collection := col, hasDel := false } := by unfold clsIn; rw [hC] <;> rfl
  refine Att.call_fn (binds := [("self", .ref x), ("given", v)]) X hlim ho hcd hroom (BindsTo.of_eq (by first | rfl | with_unfolding_all rfl)) (by first | rfl | decide | with_unfolding_all rfl) (fun s₁ IC => ?_) rfl rfl rfl
  obtain ⟨h₁, tk₁, rfl⟩ := IC.toInCall.same
  have k : ∀ b o, s.heap.get? b = some o → h₁.get? b = some o := IC.toInCall.keep
  have hn := IC.toInCall.ns
  have hxL : s.heap.objs.size ≠ x := Nat.ne_of_gt (Heap.lt_size hx)
  have X₁ : K.In h₁ := X.keeps k
  have hx₁ := k _ _ hx
  -- self.by = by
  show wpAny _ _ (execs _ _) _ _ _
  refine wpAny_execs_cons (plainObj_wpAny_Assign_Attribute ?_)
  refine ldC (v := v) hn (by first | rfl | with_unfolding_all rfl | kernel_rfl) (ldC (v := .ref x) hn (by first | rfl | with_unfolding_all rfl | kernel_rfl) ?_)
  refine set_plain X₁ (ox := excO C t0) (od := none) ⟨hx₁, rfl, rfl, trivial⟩ T.sa ?_
  refine exc_osa X₁ hx₁ hcl (show refsVE (.ref C :: bm) = true from hbm) rfl T.noN (fun h₃ tk₃ dx k₃ dn dne hx₃ hn₃ => ?_)
  show wpAny _ _ (execs _ _) _ _ _
  have z : s.heap.objs.size < h₁.objs.size := hn.lt
  exact wpAny_execs_nil (hq h₃ tk₃ dx ⟨fun b o hb e => k₃ b o hb (k b o e), hx₃, Nat.le_of_lt (Nat.lt_of_lt_of_le z dn), dne, hn₃⟩)
theorem low_made (T : LowTxt K mg C fI) {v : Value} (X : K.In s.heap) (hlim : s.heap.NoLimit) (hroom : A.depth + 1 < recursionLimit)
    (hq : ∀ h' tk e d, OwnMade s.heap h' e C d v → R (.ok (.ret (.ref e))) { s with heap := h', toks := tk }) :
    codeAny (model prog w) A (.call (.ref C) ⟨[v], []⟩) R s := by
  obtain ⟨nm, q, N, bs, bm, sn, sub, ab, col, dd, k0, k1, k2, k3, k5, hC, hbm⟩ := T.cls
  obtain ⟨hp, g, dr, tk, os⟩ := s
  have k : ∀ b o, hp.get? b = some o → ((hp.push (kdv_tup [v])).push (excO C hp.objs.size)).get? b = some o := fun b o e => Heap.get?_push_of_some _ (Heap.get?_push_of_some _ e)
  have hget : ((hp.push (kdv_tup [v])).push (excO C hp.objs.size)).get? (hp.objs.size + 1) = some (excO C hp.objs.size) := by heap_get
  have hnx : K.lookup (hp.objs.size + 1) = none := by
    cases e : K.lookup (hp.objs.size + 1) with
    | none => rfl
    | some o =>
      have z : hp.get? (hp.objs.size + 1) = some o := X _ _ e
      exact absurd (Nat.lt_of_succ_lt (Heap.lt_size z)) (Nat.lt_irrefl _)
  refine call_own F.excBase_ValueError (fun X => refsVE_contains X bm hbm) (X _ _ hC) (looks_findIn X T.iC) (fun self => bind_fn X self T.tC) (one_size v) ?_
  refine low_init (s := ⟨(hp.push (kdv_tup [v])).push (excO C hp.objs.size), g, dr, tk, os⟩) T (X.keeps k) (hlim.keeps k) hget hnx ?_ fun h' tk' dx ⟨k', hx, dn, dne, hns⟩ => ?_
  · show A.depth + 1 < recursionLimit
    exact hroom
  · have old : ∀ b o, hp.get? b = some o → h'.get? b = some o := fun b o e => k' b o (Nat.ne_of_lt (Nat.lt_succ_of_lt (Heap.lt_size e))) (k b o e)
    have z : hp.objs.size + 1 + 1 ≤ dx := by
      first
        | (simpa only [Heap.size_push] using dn)
        | exact dn
        | (have q := dn; rw [Heap.size_push, Heap.size_push] at q; exact q)
    exact ⟨rfl, hq h' tk' (hp.objs.size + 1) dx ⟨old, Nat.le_succ _, ⟨_, _, hx, rfl, rfl, rfl, rfl⟩, Nat.le_trans (Nat.le_trans (Nat.le_succ _) (Nat.le_succ _)) z, dne, hns⟩⟩
end
end LowIR
end PySem
namespace L2
open PySem PySem.Spec PyProof.Rows
theorem relO_low_ir {v : V} {v' : Value} (r : RelV v v') (f : Str) : RelO (List.lookup f [(("given" : Str), v)]) (if f = "given" then some v' else none) := by
  by_cases hw : f = "given"
  · subst hw
    rw [if_pos rfl]
    have q : List.lookup ("given" : Str) [(("given" : Str), v)] = some v := by simp [List.lookup]
    rw [q]
    exact r
  · rw [if_neg hw]
    have qw : (f == ("given" : Str)) = false := by simpa using hw
    have q2 : List.lookup f [(("given" : Str), v)] = none := by simp [List.lookup, qw]
    rw [q2]
    trivial
section
variable {X : Cx} {C fI : Addr}
/-- Low(e) -/
def tMkLow_ir (C : Addr) (ta : TA) : St → Hp → XK → Prop := fun σ H Q => ta σ H fun vs H1 => ∃ v, vs = [v] ∧ ∀ d, H1 d = none → Q (.ref C) (some d) (upd H1 d (.xd [(("given" : Str), v)]))
theorem pmk_low_ir {a : Expr} {ta : TA} {p pos : Pos} {k : Nat} (T : PySem.LowIR.LowTxt X.K X.mg C fI) (hr : Room k X.A) (ha : PA X [a] ta) (hg : Gl X "InvalidRow" := by rfl)
    (he : starEach (a :: []) X.env = (false, eval a X.env) :: starEach [] X.env := by rfl) (hpl : (backTo pos (starEach [] X.env)).any (·.1) = false := by rfl) :
    PMk X (.Call (.Name "InvalidRow" p) [a] [] pos) (tMkLow_ir C ta) := by
  intro pins s σ H Q I h
  refine wpAny_Call_Name_kw (ld_glob I hg T.gC ?_)
  refine PySem.W.callWith_K (h₀ := X.base) I.ok.mod.kin T.kC (thn (ha.run pos pins s σ H _ I h) fun us s1 hh => ?_) he hpl
  obtain ⟨vs, H1, I1, r1, v, ev, q1⟩ := hh
  subst ev
  refine ⟨I1.kIn, ?_⟩
  cases r1 with
  | cons rv rn =>
    rename_i v' us'
    cases rn
    show wpAny _ _ (call (.ref C) [v']) _ _ _
    have hlim := I1.nolimit
    obtain ⟨hp, g, dr, tk, os⟩ := s1
    refine wpAny_call (PySem.LowIR.low_made T I1.kIn hlim (by have := hr.dp; omega) fun h' tk' e d M => ?_)
    show MkP X pins σ Q (.ref e) ⟨h', g, dr, tk', os⟩
    obtain ⟨oe, fv, hoe, hc, hd, hdat, h1⟩ := M.obj
    have hns := M.ns
    obtain ⟨G', g1, g2⟩ := restrict h' fun b => decide (b ≠ e)
    have gk : ∀ b, b ≠ e → G'.get? b = h'.get? b := fun b hb => g1 b (decide_eq_true hb)
    have ge : G'.get? e = none := g2 e (by simp)
    have old : ∀ b o, hp.get? b = some o → G'.get? b = some o := fun b o q => (gk b (Nat.ne_of_lt (Nat.lt_of_lt_of_le (Heap.lt_size q) M.new))).trans (M.keep b o q)
    have ob : ObjOk X.prog X.w (upd H1 d (.xd [(("given" : Str), v)])) G' d (.xd [(("given" : Str), v)]) :=
      ⟨_, hns.at (fun o q => (gk d M.dne).trans q), fun f => relO_low_ir rv f⟩
    have J : Inv X pins σ (upd H1 d (.xd [(("given" : Str), v)])) ⟨G', g, dr, tk', os⟩ := I1.laid (t' := tk') old M.dbig ob
    refine ⟨e, oe, fv, ⟨G', g, dr, tk', os⟩, _, .ref C, some d, rfl, J, fun b o q => ?_, ge, hoe, ⟨hc, hd⟩, hdat, h1, ?_, rfl, I1.bare, raises_own T.exC T.tyC, q1 d (I1.hok.fresh M.dbig)⟩
    · by_cases hb : b = e
      · have q' : G'.get? b = some o := q
        rw [hb, ge] at q'; cases q'
      · exact (gk b hb).symm.trans q
    · rw [upd_ne (Ne.symm M.dne)]
      exact I1.hok.fresh M.new
/-- raise Low(e) -/
def tRaiseLow_ir (C : Addr) (W : WX) (ta : TA) : TS := fun _ σ H => tMkLow_ir C ta σ H fun cls d H' => W cls d σ H'
theorem ps_raiseLow_ir {a : Expr} {ta : TA} {W : WX} {p pos pos2 : Pos} {k : Nat} (hc : X.calm = true) (T : PySem.LowIR.LowTxt X.K X.mg C fI) (hr : Room k X.A) (tk : Takes X W) (ha : PA X [a] ta) (hg : Gl X "InvalidRow" := by rfl)
    (he : starEach (a :: []) X.env = (false, eval a X.env) :: starEach [] X.env := by rfl) (hpl : (backTo pos (starEach [] X.env)).any (·.1) = false := by rfl) :
    PS X (.Raise (some (.Call (.Name "InvalidRow" p) [a] [] pos)) none pos2) (tRaiseLow_ir C W ta) := ps_raise hc tk (pmk_low_ir T hr ha hg he hpl)
/-- low.by, low the exception that the suite holds (at a; its class cls, its dict d) -/
def tByLow_ir (C : Addr) (a : Addr) (cls : Value) (d : Option Addr) (te : TE) : TE := fun σ H Q => te σ H fun x H1 => x = .ref a ∧ cls = .ref C ∧ ∃ (dd : Addr) (v : V), d = some dd ∧ H1 dd = some (.xd [(("given" : Str), v)]) ∧ Q v H1
theorem pe_byLow_ir {a : Addr} {oe : Obj} {cls : Value} {d : Option Addr} {pn : List (Addr × Obj)} {e : Expr} {te : TE} {pos : Pos} (T : PySem.LowIR.LowTxt X.K X.mg C fI) (hz : Zc cls d oe) (hf : ∃ vs, oe.data = .fields vs) (he : PE (X.suite a ((a, oe) :: pn)) e te)
    (hb : attributeBase e "given" X.env (eval e X.env) = eval e X.env := by rfl) :
    PE (X.suite a ((a, oe) :: pn)) (.Attribute e "given" pos) (tByLow_ir C a cls d te) := by
  refine ⟨fun pins s σ H Q I h => ?_⟩
  refine attr_of hb (thn (he.run pins s σ H _ I h) fun u s1 hh => ?_)
  obtain ⟨x, H1, I1, rx, ex, ec, dd, v, ed, ea, q⟩ := hh
  subst ex
  obtain rfl : u = Value.ref a := rx
  subst ec
  subst ed
  obtain ⟨ha, _⟩ := I1.pin (a, oe) (List.mem_append_left _ List.mem_cons_self)
  obtain ⟨vs, hd⟩ := hf
  have hx : ObjOk X.prog X.w H1 s1.heap dd (.xd [(("given" : Str), v)]) := I1.hok dd _ ea
  obtain ⟨mA, hns, hr⟩ := hx
  obtain ⟨od, ho, hl⟩ := lookIn_ns hns
  have l : List.lookup ("given" : Str) [(("given" : Str), v)] = some v := by simp [List.lookup]
  obtain ⟨u, hu, ru⟩ := RelO.some_of (v := v) (o := mA "given") (by rw [← l]; exact hr "given")
  have J : PySem.W.InstAt s1.heap a oe C (some od) := ⟨ha, hz.1, by unfold PySem.W.notCls; rw [hd] <;> rfl, by rw [hz.2]; exact ho⟩
  exact HandSPX.exc_get I1.kIn J T.ga T.gg T.exC (PySem.W.findObj_own T.hdC T.noN rfl (by rw [hl, hu])) (handed_of ru) ⟨v, H1, I1.tok _, ru, q⟩
end
end L2
end P_DLxr
section P_DLxq
set_option Elab.async false
set_option linter.all false
set_option maxRecDepth 100000
set_option maxHeartbeats 2000000
/-! Defs read only where they raise InvalidRow; a try that always catches it. -/
namespace DL
open PySem PySem.Spec PyProof.Rows L2
/-- such a def raises C with x of its arguments in the field -/
def spR (K : Fr) (C : Addr) (n : Nat) (x : List Val → Mem → Res D) : Sp := fun vs H _ E => vs.length = n ∧ ∃ xs M F μ d0 M', Sim K F μ M H ∧ RepVs K F μ xs vs ∧ x xs M = .ok d0 M' ∧
    ∀ F' μ' H' d v, StepE F μ H F' μ' H' → Sim K F' μ' M' H' → H' d = some (.xd [(("given" : Str), v)]) → Rep K F' d0 v → E (.ref C) (some d) H'
theorem pss_dead {X : Cx} {b : List Stmt} : PSs X b (fun _ _ _ => False) := ⟨fun _ _ _ _ _ _ h => h.elim⟩
/-- a def of one parameter that raises where fT is true of it -/
def xIf (fT : Sl → Mem → Res Bool) : List Val → Mem → Res D := fun xs M => match xs with
  | [.d v] => (fT [some (.d v)] M).bind fun b M1 => if b then .ok v M1 else .bad
  | _ => .bad
theorem raiseIf {K : Fr} {C : Addr} {x0 : Str} {vs : List V} {H : Hp} {Q : VK} {E : XK} {fT : Sl → Mem → Res Bool} {D : Ends} (h : spR K C 1 (xIf fT) vs H Q E) :
    tIfS (LT K fT) (tRaiseLow_ir C (fun cls d _ H => E cls d H) (tCons (tVar 0) tNil)) tNext D (L2.start [x0] vs) H := by
  obtain ⟨hl, xs, M, F, μ, d0, M', S, r, e0, k⟩ := h
  match xs, r, e0 with
  | [.d v], r, e0 =>
    obtain ⟨b, M2, e2, e0⟩ := bind_ok e0
    cases b with
    | false => cases e0
    | true =>
      rw [if_pos rfl] at e0
      cases e0
      have R0 : RepS K F μ [some (.d d0)] (L2.start [x0] vs) := RepS.start (m := 0) r rfl
      refine ⟨[some (.d d0)], M, F, μ, true, M', S, R0, e2, fun F2 μ2 H2 st2 S2 => ?_⟩
      refine if_tt ?_
      obtain ⟨w, hw, rw'⟩ := R0.at_ 0 (.d d0) rfl
      refine ⟨w, hw, w, rfl, fun d hd => ?_⟩
      have n := NewF.alloc S2.sub hd (.xd [(("given" : Str), w)])
      exact k _ μ2 _ d w (st2.transE n.step) (n.sim S2) upd_same (Rep.mono n.fr (Rep.mono st2.fr rw'))
/-- a def that first hands its one argument to such a def -/
theorem raiseCall {K : Fr} {C : Addr} {x0 : Str} {vs : List V} {H : Hp} {Q : VK} {E : XK} {x : List Val → Mem → Res D} {u : TS} {D : Ends} (h : spR K C 1 x vs H Q E) :
    tSeq (tDrop (tCallS (spR K C 1 x) (WE fun cls d _ H => E cls d H) (tCons (tVar 0) tNil))) u D (L2.start [x0] vs) H := by
  have hl := h.1
  match vs, hl, h with
  | [v], _, h => exact ⟨v, rfl, h⟩
/-- the class InvalidRow at C, its __init__ at fI, the base at S -/
structure IvR (K : Fr) (mg : Str → Option Value) (C fI S : Addr) : Prop where
  low : PySem.LowIR.LowTxt K mg C fI
  gS : mg "SockError" = some (.ref S)
  te : PySem.W.exmOne K (.ref C) (.ref S) = some true
  ex : ExcD K C
theorem mk_ivr {K : Fr} {h : Heap} {mg : Str → Option Value} {C fI S N : Addr} {nm q : Str} {bs : List Value} {sn : List Str} {sub : List Value} {ab : Bool} {col : Option Bool} {dd : Option Addr} {m0 m1 m2 m3 m5 : Option Value}
    {od an : Option Addr} {sl : Array (Option Value)} {oc dc pm cd ct : Value} {p1 p2 q1 q2 q3 q4 : Pos} (X : K.In h) (G : h.Ns mainGlobals mg)
    (aC : PySem.W.nsIn K mainGlobals "InvalidRow" = some (some (.ref C))) (aS : PySem.W.nsIn K mainGlobals "SockError" = some (some (.ref S)))
    (xL : K.lookup C = some (PySem.excClassObj nm q C N bs [.ref S, .type "ValueError", .type "Exception", .type "BaseException", .type "object"] true sn sub ab col dd m0 m1 m2 m3 m5 "ValueError.__new__"))
    (sa : PySem.W.findIn K (.ref C) "__setattr__" = some (some (.builtin "object.__setattr__"))) (ga : PySem.W.findIn K (.ref C) "__getattribute__" = some (some (.builtin "BaseException.__getattribute__"))) (gg : PySem.W.findIn K (.ref C) "__getattr__" = some none)
    (nb : PySem.W.findIn K (.ref C) "given" = some none) (a1 : PySem.W.findIn K (.ref C) "__init__" = some (some (.ref fI))) (t1 : PySem.W.typeIn K (.ref fI) = some (.type "function"))
    (l1 : K.lookup fI = some ⟨oc, od, .func (PySem.W.fnOf "__init__" "InvalidRow.__init__" (PySem.LowIR.iA p1 p2) (PySem.LowIR.iB q1 q2 q3 q4) PySem.LowIR.iS .none .none dc pm an cd ct), sl⟩) (c1 : PySem.W.codeIn K cd "InvalidRow.__init__" = true)
    (kC : PySem.W.keepIn K (.ref C) = true) (eC : PySem.W.subIn K (.ref C) (.type "BaseException") = some true) (tC : PySem.W.typeIn K (.ref C) = some (.type "type")) (hC : PySem.W.hasDictIn K C = true)
    (eS : PySem.W.subIn K (.ref S) (.type "BaseException") = some true) (hS : PySem.W.hasDictIn K S = true) (tS : PySem.W.typeIn K (.ref S) = some (.type "type")) (sS : PySem.W.subIn K (.ref C) (.ref S) = some true)
    (cC : (PySem.W.clsIn K C).isSome = true) (ha : PySem.W.findIn K (.ref C) "__class__" = some (some (.builtin "object.__class__"))) (hn : PySem.W.specialIn K (.builtin "object.__class__") "__get__" = some (some (.builtin "getset_descriptor.__get__")))
    (ht : PySem.W.takesIn K (.builtin "object.__class__") = some true) (hm : PySem.W.mroIn K C (.type "object") = some true) :
    ∃ C fI S, IvR K mg C fI S :=
  ⟨C, fI, S, { low := { gC := PySem.W.mg_of X G aC, cls := ⟨nm, q, N, bs, _, sn, sub, ab, col, dd, m0, m1, m2, m3, m5, xL, by rfl⟩, sa := sa, ga := ga, gg := gg, noN := nb, iC := a1, tC := t1, kC := kC, exC := eC, tyC := tC, hdC := hC, fn := ⟨_, _, _, _, _, _, _, _, _, _, _, _, _, _, l1, c1⟩ }, gS := PySem.W.mg_of X G aS, te := PySem.W.exm_ref eS hS tS sS, ex := ⟨cC, ga, gg, eC, ha, hn, ht, hm⟩ }⟩
theorem RepS.unset {K : Fr} {F : Hp} {μ : List Addr} {δ : Sl} {σ : L2.St} (R : RepS K F μ δ σ) {i : Nat} (h : ∀ x, δ[i]? ≠ some (some x)) : RepS K F μ δ (σ.set i none) := by
  refine ⟨by rw [List.length_set]; exact R.len, fun j x e => ?_⟩
  by_cases hj : i = j
  · rw [hj] at h; exact absurd e (h x)
  · rw [List.getElem?_set_ne hj]; exact R.at_ j x e
theorem RepS.any {K : Fr} {F : Hp} {μ : List Addr} {δ : Sl} {σ : L2.St} (R : RepS K F μ δ σ) {i : Nat} {v : V} (h : ∀ x, δ[i]? ≠ some (some x)) : RepS K F μ δ (σ.set i (some v)) := by
  refine ⟨by rw [List.length_set]; exact R.len, fun j x e => ?_⟩
  by_cases hj : i = j
  · rw [hj] at h; exact absurd e (h x)
  · rw [List.getElem?_set_ne hj]; exact R.at_ j x e
end DL
end P_DLxq
section P_DLxc
set_option Elab.async false
set_option linter.all false
set_option maxRecDepth 100000
set_option maxHeartbeats 2000000
/-! An error of the class InvalidColour: made, raised, its field read (turned from the worked proof of an own error with a field). -/
namespace PySem
namespace LowIC
open PySem.W PySem.Calls PyProof.Rows PySem.HandSPX
/-! ### the text of __init__ -/
def iA (p1 p2 : Pos) : Arguments := { posonlyargs := [], args := [{ arg := "self", annotation := none, pos := p1 }, { arg := "given", annotation := none, pos := p2 }], vararg := none, kwonlyargs := [], kw_defaults := [], kwarg := none, defaults := [] }
def iB (q1 q2 q3 q4 : Pos) : List Stmt := [.Assign [.Attribute (.Name "self" q1) "given" q2] (.Name "given" q3) q4]
def iS : Scope := { kind := .function, names := [(PySem.Str.ofString "self", .local), (PySem.Str.ofString "given", .local)], isGenerator := false, isCoroutine := false, more := [] }
/-- what the written part says of Low, at C, and of its __init__, at fI -/
structure LowTxt (K : Frag) (mg : Str → Option Value) (C fI : Addr) : Prop where
  gC : mg "InvalidColour" = some (.ref C)
  cls : ∃ nm q N bs bm sn sub ab col dd k0 k1 k2 k3 k5, K.lookup C = some (excClassObj nm q C N bs bm true sn sub ab col dd k0 k1 k2 k3 k5 "ValueError.__new__") ∧ refsVE bm = true
  sa : findIn K (.ref C) "__setattr__" = some (some (.builtin "object.__setattr__"))
  ga : findIn K (.ref C) "__getattribute__" = some (some (.builtin "BaseException.__getattribute__"))
  gg : findIn K (.ref C) "__getattr__" = some none
  noN : findIn K (.ref C) "given" = some none
  iC : findIn K (.ref C) "__init__" = some (some (.ref fI))
  tC : typeIn K (.ref fI) = some (.type "function")
  kC : keepIn K (.ref C) = true
  exC : subIn K (.ref C) (.type "BaseException") = some true
  tyC : typeIn K (.ref C) = some (.type "type")
  hdC : hasDictIn K C = true
  fn : ∃ (oc : Value) (od : Option Addr) (doc pm : Value) (an : Option Addr) (cdv ct : Value) (osl : Array (Option Value)) (p1 p2 q1 q2 q3 q4 : Pos),
    K.lookup fI = some ⟨oc, od, .func (fnOf "__init__" "InvalidColour.__init__" (iA p1 p2) (iB q1 q2 q3 q4) iS .none .none doc pm an cdv ct), osl⟩ ∧ codeIn K cdv "InvalidColour.__init__" = true
theorem one_size (v : Value) : [v].length ≤ sizeLine := by
  rw [sizeLine_eq]
  exact (by decide : 1 ≤ 16777216)
theorem kept_but {K : Frag} {h h' : Heap} {x : Addr} (X : K.In h) (hx : K.lookup x = none) (k : ∀ b o, b ≠ x → h.get? b = some o → h'.get? b = some o) : K.In h' := fun a o e =>
  k a o (fun z => by rw [z, hx] at e; cases e) (X a o e)
theorem ldC {M : Model} {s : Shared} {name : Str} {scope : Scope} {L a : Addr} {cd : Value} {m : Str → Option Value} {x : Str} {pos : Pos} {v : Value} {Q : Value → Shared → Prop} {A : Around} {E : Value → Shared → Prop} (hn : s.heap.Ns L m) (hv : m x = some v) (h : Q v s)
    (hk : scope.kind = .function := by rfl) (hl : (envOfC name scope L a cd).kindOf x = some .local := by rfl) (hd : (x == ("__debug__" : Str)) = false := by decide) :
    wpAny M A (eval (.Name x pos) (envOfC name scope L a cd)) Q E s := wpAny_Name (wpAny_loadName_local hk hl hn hv h) hd
/-- what __init__ leaves of a fresh exception at x -/
structure InitEnd (h h' : Heap) (x C dx t1 : Addr) (v : Value) : Prop where
  keep : ∀ b o, b ≠ x → h.get? b = some o → h'.get? b = some o
  obj : h'.get? x = some { cls := .ref C, dict := some dx, data := .fields #[.ref t1, .none, .none, .none, .bool false, .none] }
  dbig : h.objs.size ≤ dx
  dne : dx ≠ x
  ns : h'.Ns1 dx (fun y => if y = "given" then some v else none)
/-- a made Low -/
structure OwnMade (h h' : Heap) (e C d : Addr) (v : Value) : Prop where
  keep : ∀ b o, h.get? b = some o → h'.get? b = some o
  new : h.objs.size ≤ e
  obj : ∃ oe vs, h'.get? e = some oe ∧ oe.cls = .ref C ∧ oe.dict = some d ∧ oe.data = .fields vs ∧ vs[1]? = some .none
  dbig : h.objs.size ≤ d
  dne : d ≠ e
  ns : h'.Ns1 d (fun y => if y = "given" then some v else none)
section
variable {prog : Program} {w : World} {A : Around} {E : Value → Shared → Prop} {R : Result → Shared → Prop} {s : Shared} {K : Frag} {mg : Str → Option Value} {C fI : Addr}
theorem low_init (T : LowTxt K mg C fI) {x t0 : Addr} {v : Value} (X : K.In s.heap) (hlim : s.heap.NoLimit) (hx : s.heap.get? x = some (excO C t0)) (hnx : K.lookup x = none) (hroom : A.depth < recursionLimit)
    (hq : ∀ h' tk dx, InitEnd s.heap h' x C dx t0 v → R (.ok (.ret .none)) { s with heap := h', toks := tk }) :
    codeAny (model prog w) A (.call (.ref fI) ⟨[.ref x, v], []⟩) R s := by
  obtain ⟨oc, od, doc, pm, an, cdv, ct, osl, p1, p2, q1, q2, q3, q4, ho, hcd⟩ := T.fn
  obtain ⟨nm, q, N, bs, bm, sn, sub, ab, col, dd, k0, k1, k2, k3, k5, hC, hbm⟩ := T.cls
  have hcl : clsIn K C = some { name := nm, bases := bs, mro := .ref C :: bm, ns := N, qualname := q, hasDict := true, slotNames := sn, subclasses := sub, abstract := ab, collection := col, hasDel := false } := by unfold clsIn; rw [hC] <;> rfl
  refine Att.call_fn (binds := [("self", .ref x), ("given", v)]) X hlim ho hcd hroom (BindsTo.of_eq (by first | rfl | with_unfolding_all rfl)) (by first | rfl | decide | with_unfolding_all rfl) (fun s₁ IC => ?_) rfl rfl rfl
  obtain ⟨h₁, tk₁, rfl⟩ := IC.toInCall.same
  have k : ∀ b o, s.heap.get? b = some o → h₁.get? b = some o := IC.toInCall.keep
  have hn := IC.toInCall.ns
  have hxL : s.heap.objs.size ≠ x := Nat.ne_of_gt (Heap.lt_size hx)
  have X₁ : K.In h₁ := X.keeps k
  have hx₁ := k _ _ hx
  -- self.by = by
  show wpAny _ _ (execs _ _) _ _ _
  refine wpAny_execs_cons (plainObj_wpAny_Assign_Attribute ?_)
  refine ldC (v := v) hn (by first | rfl | with_unfolding_all rfl | kernel_rfl) (ldC (v := .ref x) hn (by first | rfl | with_unfolding_all rfl | kernel_rfl) ?_)
  refine set_plain X₁ (ox := excO C t0) (od := none) ⟨hx₁, rfl, rfl, trivial⟩ T.sa ?_
  refine exc_osa X₁ hx₁ hcl (show refsVE (.ref C :: bm) = true from hbm) rfl T.noN (fun h₃ tk₃ dx k₃ dn dne hx₃ hn₃ => ?_)
  show wpAny _ _ (execs _ _) _ _ _
  have z : s.heap.objs.size < h₁.objs.size := hn.lt
  exact wpAny_execs_nil (hq h₃ tk₃ dx ⟨fun b o hb e => k₃ b o hb (k b o e), hx₃, Nat.le_of_lt (Nat.lt_of_lt_of_le z dn), dne, hn₃⟩)
theorem low_made (T : LowTxt K mg C fI) {v : Value} (X : K.In s.heap) (hlim : s.heap.NoLimit) (hroom : A.depth + 1 < recursionLimit)
    (hq : ∀ h' tk e d, OwnMade s.heap h' e C d v → R (.ok (.ret (.ref e))) { s with heap := h', toks := tk }) :
    codeAny (model prog w) A (.call (.ref C) ⟨[v], []⟩) R s := by
  obtain ⟨nm, q, N, bs, bm, sn, sub, ab, col, dd, k0, k1, k2, k3, k5, hC, hbm⟩ := T.cls
  obtain ⟨hp, g, dr, tk, os⟩ := s
  have k : ∀ b o, hp.get? b = some o → ((hp.push (kdv_tup [v])).push (excO C hp.objs.size)).get? b = some o := fun b o e => Heap.get?_push_of_some _ (Heap.get?_push_of_some _ e)
  have hget : ((hp.push (kdv_tup [v])).push (excO C hp.objs.size)).get? (hp.objs.size + 1) = some (excO C hp.objs.size) := by heap_get
  have hnx : K.lookup (hp.objs.size + 1) = none := by
    cases e : K.lookup (hp.objs.size + 1) with
    | none => rfl
    | some o =>
      have z : hp.get? (hp.objs.size + 1) = some o := X _ _ e
      exact absurd (Nat.lt_of_succ_lt (Heap.lt_size z)) (Nat.lt_irrefl _)
  refine call_own F.excBase_ValueError (fun X => refsVE_contains X bm hbm) (X _ _ hC) (looks_findIn X T.iC) (fun self => bind_fn X self T.tC) (one_size v) ?_
  refine low_init (s := ⟨(hp.push (kdv_tup [v])).push (excO C hp.objs.size), g, dr, tk, os⟩) T (X.keeps k) (hlim.keeps k) hget hnx ?_ fun h' tk' dx ⟨k', hx, dn, dne, hns⟩ => ?_
  · show A.depth + 1 < recursionLimit
    exact hroom
  · have old : ∀ b o, hp.get? b = some o → h'.get? b = some o := fun b o e => k' b o (Nat.ne_of_lt (Nat.lt_succ_of_lt (Heap.lt_size e))) (k b o e)
    have z : hp.objs.size + 1 + 1 ≤ dx := by
      first
        | (simpa only [Heap.size_push] using dn)
        | exact dn
        | (have q := dn; rw [Heap.size_push, Heap.size_push] at q; exact q)
    exact ⟨rfl, hq h' tk' (hp.objs.size + 1) dx ⟨old, Nat.le_succ _, ⟨_, _, hx, rfl, rfl, rfl, rfl⟩, Nat.le_trans (Nat.le_trans (Nat.le_succ _) (Nat.le_succ _)) z, dne, hns⟩⟩
end
end LowIC
end PySem
namespace L2
open PySem PySem.Spec PyProof.Rows
theorem relO_low_ic {v : V} {v' : Value} (r : RelV v v') (f : Str) : RelO (List.lookup f [(("given" : Str), v)]) (if f = "given" then some v' else none) := by
  by_cases hw : f = "given"
  · subst hw
    rw [if_pos rfl]
    have q : List.lookup ("given" : Str) [(("given" : Str), v)] = some v := by simp [List.lookup]
    rw [q]
    exact r
  · rw [if_neg hw]
    have qw : (f == ("given" : Str)) = false := by simpa using hw
    have q2 : List.lookup f [(("given" : Str), v)] = none := by simp [List.lookup, qw]
    rw [q2]
    trivial
section
variable {X : Cx} {C fI : Addr}
/-- Low(e) -/
def tMkLow_ic (C : Addr) (ta : TA) : St → Hp → XK → Prop := fun σ H Q => ta σ H fun vs H1 => ∃ v, vs = [v] ∧ ∀ d, H1 d = none → Q (.ref C) (some d) (upd H1 d (.xd [(("given" : Str), v)]))
theorem pmk_low_ic {a : Expr} {ta : TA} {p pos : Pos} {k : Nat} (T : PySem.LowIC.LowTxt X.K X.mg C fI) (hr : Room k X.A) (ha : PA X [a] ta) (hg : Gl X "InvalidColour" := by rfl)
    (he : starEach (a :: []) X.env = (false, eval a X.env) :: starEach [] X.env := by rfl) (hpl : (backTo pos (starEach [] X.env)).any (·.1) = false := by rfl) :
    PMk X (.Call (.Name "InvalidColour" p) [a] [] pos) (tMkLow_ic C ta) := by
  intro pins s σ H Q I h
  refine wpAny_Call_Name_kw (ld_glob I hg T.gC ?_)
  refine PySem.W.callWith_K (h₀ := X.base) I.ok.mod.kin T.kC (thn (ha.run pos pins s σ H _ I h) fun us s1 hh => ?_) he hpl
  obtain ⟨vs, H1, I1, r1, v, ev, q1⟩ := hh
  subst ev
  refine ⟨I1.kIn, ?_⟩
  cases r1 with
  | cons rv rn =>
    rename_i v' us'
    cases rn
    show wpAny _ _ (call (.ref C) [v']) _ _ _
    have hlim := I1.nolimit
    obtain ⟨hp, g, dr, tk, os⟩ := s1
    refine wpAny_call (PySem.LowIC.low_made T I1.kIn hlim (by have := hr.dp; omega) fun h' tk' e d M => ?_)
    show MkP X pins σ Q (.ref e) ⟨h', g, dr, tk', os⟩
    obtain ⟨oe, fv, hoe, hc, hd, hdat, h1⟩ := M.obj
    have hns := M.ns
    obtain ⟨G', g1, g2⟩ := restrict h' fun b => decide (b ≠ e)
    have gk : ∀ b, b ≠ e → G'.get? b = h'.get? b := fun b hb => g1 b (decide_eq_true hb)
    have ge : G'.get? e = none := g2 e (by simp)
    have old : ∀ b o, hp.get? b = some o → G'.get? b = some o := fun b o q => (gk b (Nat.ne_of_lt (Nat.lt_of_lt_of_le (Heap.lt_size q) M.new))).trans (M.keep b o q)
    have ob : ObjOk X.prog X.w (upd H1 d (.xd [(("given" : Str), v)])) G' d (.xd [(("given" : Str), v)]) :=
      ⟨_, hns.at (fun o q => (gk d M.dne).trans q), fun f => relO_low_ic rv f⟩
    have J : Inv X pins σ (upd H1 d (.xd [(("given" : Str), v)])) ⟨G', g, dr, tk', os⟩ := I1.laid (t' := tk') old M.dbig ob
    refine ⟨e, oe, fv, ⟨G', g, dr, tk', os⟩, _, .ref C, some d, rfl, J, fun b o q => ?_, ge, hoe, ⟨hc, hd⟩, hdat, h1, ?_, rfl, I1.bare, raises_own T.exC T.tyC, q1 d (I1.hok.fresh M.dbig)⟩
    · by_cases hb : b = e
      · have q' : G'.get? b = some o := q
        rw [hb, ge] at q'; cases q'
      · exact (gk b hb).symm.trans q
    · rw [upd_ne (Ne.symm M.dne)]
      exact I1.hok.fresh M.new
/-- raise Low(e) -/
def tRaiseLow_ic (C : Addr) (W : WX) (ta : TA) : TS := fun _ σ H => tMkLow_ic C ta σ H fun cls d H' => W cls d σ H'
theorem ps_raiseLow_ic {a : Expr} {ta : TA} {W : WX} {p pos pos2 : Pos} {k : Nat} (hc : X.calm = true) (T : PySem.LowIC.LowTxt X.K X.mg C fI) (hr : Room k X.A) (tk : Takes X W) (ha : PA X [a] ta) (hg : Gl X "InvalidColour" := by rfl)
    (he : starEach (a :: []) X.env = (false, eval a X.env) :: starEach [] X.env := by rfl) (hpl : (backTo pos (starEach [] X.env)).any (·.1) = false := by rfl) :
    PS X (.Raise (some (.Call (.Name "InvalidColour" p) [a] [] pos)) none pos2) (tRaiseLow_ic C W ta) := ps_raise hc tk (pmk_low_ic T hr ha hg he hpl)
/-- low.by, low the exception that the suite holds (at a; its class cls, its dict d) -/
def tByLow_ic (C : Addr) (a : Addr) (cls : Value) (d : Option Addr) (te : TE) : TE := fun σ H Q => te σ H fun x H1 => x = .ref a ∧ cls = .ref C ∧ ∃ (dd : Addr) (v : V), d = some dd ∧ H1 dd = some (.xd [(("given" : Str), v)]) ∧ Q v H1
theorem pe_byLow_ic {a : Addr} {oe : Obj} {cls : Value} {d : Option Addr} {pn : List (Addr × Obj)} {e : Expr} {te : TE} {pos : Pos} (T : PySem.LowIC.LowTxt X.K X.mg C fI) (hz : Zc cls d oe) (hf : ∃ vs, oe.data = .fields vs) (he : PE (X.suite a ((a, oe) :: pn)) e te)
    (hb : attributeBase e "given" X.env (eval e X.env) = eval e X.env := by rfl) :
    PE (X.suite a ((a, oe) :: pn)) (.Attribute e "given" pos) (tByLow_ic C a cls d te) := by
  refine ⟨fun pins s σ H Q I h => ?_⟩
  refine attr_of hb (thn (he.run pins s σ H _ I h) fun u s1 hh => ?_)
  obtain ⟨x, H1, I1, rx, ex, ec, dd, v, ed, ea, q⟩ := hh
  subst ex
  obtain rfl : u = Value.ref a := rx
  subst ec
  subst ed
  obtain ⟨ha, _⟩ := I1.pin (a, oe) (List.mem_append_left _ List.mem_cons_self)
  obtain ⟨vs, hd⟩ := hf
  have hx : ObjOk X.prog X.w H1 s1.heap dd (.xd [(("given" : Str), v)]) := I1.hok dd _ ea
  obtain ⟨mA, hns, hr⟩ := hx
  obtain ⟨od, ho, hl⟩ := lookIn_ns hns
  have l : List.lookup ("given" : Str) [(("given" : Str), v)] = some v := by simp [List.lookup]
  obtain ⟨u, hu, ru⟩ := RelO.some_of (v := v) (o := mA "given") (by rw [← l]; exact hr "given")
  have J : PySem.W.InstAt s1.heap a oe C (some od) := ⟨ha, hz.1, by unfold PySem.W.notCls; rw [hd] <;> rfl, by rw [hz.2]; exact ho⟩
  exact HandSPX.exc_get I1.kIn J T.ga T.gg T.exC (PySem.W.findObj_own T.hdC T.noN rfl (by rw [hl, hu])) (handed_of ru) ⟨v, H1, I1.tok _, ru, q⟩
end
end L2
end P_DLxc
section P_DLxp
set_option Elab.async false
set_option linter.all false
set_option maxRecDepth 100000
set_option maxHeartbeats 2000000
/-! Two checks one behind the other, each with a class of its own; what is caught may be of one class or of another. -/
namespace DL
open PySem PySem.Spec PyProof.Rows L2
/-- a def of one parameter that returns or raises where fT is true of it -/
theorem raiseIfX {K : Fr} {C : Addr} {x0 : Str} {vs : List V} {H : Hp} {Q : VK} {E : XK} {fT : Sl → Mem → Res Bool}
    (h : spX K C 1 (defG false 1 0 fun _ => evSeq (evIte fT (evSeq sNever sPass) sPass) sPass) (xIf fT) vs H Q E) :
    tIfS (LT K fT) (tRaiseLow_ir C (fun cls d _ H => E cls d H) (tCons (tVar 0) tNil)) tNext { nx := fun _ H' => Q .non H', rt := Q } (L2.start [x0] vs) H := by
  rcases h with h | h
  · obtain ⟨b, z⟩ := def_body (N := [x0]) (m := 0) (E := E) rfl h
    obtain ⟨δ, M, F, μ, x, M', S, R, e0, k⟩ := LS.ite (LS.seq z)
    refine ⟨δ, M, F, μ, x, M', S, R, e0, fun F' μ' H' st S' => ?_⟩
    have q := k F' μ' H' st S'
    cases x with
    | true => rw [if_pos rfl] at q; exact (LS.never q).elim
    | false => rw [if_neg Bool.false_ne_true] at q; exact LS.pass (LS.pass q)
  · obtain ⟨hl, xs, M, F, μ, d0, M', S, r, e0, k⟩ := h
    exact raiseIf (Q := Q) ⟨hl, xs, M, F, μ, d0, M', S, r, e0, k⟩
/-- a def of two parameters that raises CR by xR of the one, or, where gR lets that, CC by xC of the other -/
def spRC (K : Fr) (CR CC : Addr) (gR : List Val → Mem → Res Val) (xR xC : List Val → Mem → Res D) : Sp := fun vs H _ E => vs.length = 2 ∧ ∃ a b M F μ, Sim K F μ M H ∧ RepVs K F μ [a, b] vs ∧
  ((∃ d0 M', xR [a] M = .ok d0 M' ∧ ∀ F' μ' H' d v, StepE F μ H F' μ' H' → Sim K F' μ' M' H' → H' d = some (.xd [(("given" : Str), v)]) → Rep K F' d0 v → E (.ref CR) (some d) H') ∨
   (∃ M1 d0 M', gR [a] M = .ok (.d .non) M1 ∧ xC [b] M1 = .ok d0 M' ∧ ∀ F' μ' H' d v, StepE F μ H F' μ' H' → Sim K F' μ' M' H' → H' d = some (.xd [(("given" : Str), v)]) → Rep K F' d0 v → E (.ref CC) (some d) H'))
theorem raiseRC {K : Fr} {CR CC : Addr} {x0 x1 : Str} {vs : List V} {H : Hp} {Q : VK} {E : XK} {gR : List Val → Mem → Res Val} {xR xC : List Val → Mem → Res D} {u : TS} {D : Ends} (h : spRC K CR CC gR xR xC vs H Q E) :
    tSeq (tDrop (tCallS (spX K CR 1 gR xR) (WE fun cls d _ H => E cls d H) (tCons (tVar 0) tNil))) (tSeq (tDrop (tCallS (spR K CC 1 xC) (WE fun cls d _ H => E cls d H) (tCons (tVar 1) tNil))) u) D (L2.start [x0, x1] vs) H := by
  obtain ⟨hl, a, b, M, F, μ, S, r, h⟩ := h
  match vs, hl, r with
  | [va, vb], _, .cons (v := _) ra (.cons (v := _) rb .nil) =>
    refine ⟨va, rfl, ?_⟩
    rcases h with ⟨d0, M', e, k⟩ | ⟨M1, d0, M', e1, e2, k⟩
    · exact .inr ⟨rfl, [a], M, F, μ, d0, M', S, .cons ra .nil, e, k⟩
    · refine .inl ⟨rfl, [a], M, F, μ, .d .non, M1, S, .cons ra .nil, e1, fun F1 μ1 H1 w st S1 p => ?_⟩
      refine ⟨vb, rfl, rfl, [b], M1, F1, μ1, d0, M', S1, .cons (RepV.mono st.fr st.whole rb) .nil, e2, fun F2 μ2 H2 d v st2 S2 hd rv => ?_⟩
      exact k F2 μ2 H2 d v (st.transE st2) S2 hd rv
/-! ### one reading or another -/
theorem pe_or2 {X : Cx} {e : Expr} {t u : TE} (h1 : PE X e t) (h2 : PE X e u) : PE X e (fun σ H Q => t σ H Q ∨ u σ H Q) :=
  ⟨fun pins s σ H Q I h => h.elim (h1.run pins s σ H Q I) (h2.run pins s σ H Q I)⟩
theorem call_or2 {X : Cx} {f : Value} {r1 r2 : List V → Hp → VK → Prop} (h1 : CallR X f r1) (h2 : CallR X f r2) : CallR X f (fun xs H Q => r1 xs H Q ∨ r2 xs H Q) :=
  fun pins s σ H vs us Q I r h => h.elim (h1 pins s σ H vs us Q I r) (h2 pins s σ H vs us Q I r)
/-! ### what the top has written of the errors -/
structure IvC (K : Fr) (mg : Str → Option Value) (C fI S : Addr) : Prop where
  low : PySem.LowIC.LowTxt K mg C fI
  gS : mg "SockError" = some (.ref S)
  te : PySem.W.exmOne K (.ref C) (.ref S) = some true
  ex : ExcD K C
structure DnG (K : Fr) (mg : Str → Option Value) (C fI S : Addr) : Prop where
  low : PySem.LowDNF.LowTxt K mg C fI
  gS : mg "SockError" = some (.ref S)
  te : PySem.W.exmOne K (.ref C) (.ref S) = some true
  ex : ExcD K C
theorem mk_ivc {K : Fr} {h : Heap} {mg : Str → Option Value} {C fI S N : Addr} {nm q : Str} {bs : List Value} {sn : List Str} {sub : List Value} {ab : Bool} {col : Option Bool} {dd : Option Addr} {m0 m1 m2 m3 m5 : Option Value}
    {od an : Option Addr} {sl : Array (Option Value)} {oc dc pm cd ct : Value} {p1 p2 q1 q2 q3 q4 : Pos} (X : K.In h) (G : h.Ns mainGlobals mg)
    (aC : PySem.W.nsIn K mainGlobals "InvalidColour" = some (some (.ref C))) (aS : PySem.W.nsIn K mainGlobals "SockError" = some (some (.ref S)))
    (xL : K.lookup C = some (PySem.excClassObj nm q C N bs [.ref S, .type "ValueError", .type "Exception", .type "BaseException", .type "object"] true sn sub ab col dd m0 m1 m2 m3 m5 "ValueError.__new__"))
    (sa : PySem.W.findIn K (.ref C) "__setattr__" = some (some (.builtin "object.__setattr__"))) (ga : PySem.W.findIn K (.ref C) "__getattribute__" = some (some (.builtin "BaseException.__getattribute__"))) (gg : PySem.W.findIn K (.ref C) "__getattr__" = some none)
    (nb : PySem.W.findIn K (.ref C) "given" = some none) (a1 : PySem.W.findIn K (.ref C) "__init__" = some (some (.ref fI))) (t1 : PySem.W.typeIn K (.ref fI) = some (.type "function"))
    (l1 : K.lookup fI = some ⟨oc, od, .func (PySem.W.fnOf "__init__" "InvalidColour.__init__" (PySem.LowIC.iA p1 p2) (PySem.LowIC.iB q1 q2 q3 q4) PySem.LowIC.iS .none .none dc pm an cd ct), sl⟩) (c1 : PySem.W.codeIn K cd "InvalidColour.__init__" = true)
    (kC : PySem.W.keepIn K (.ref C) = true) (eC : PySem.W.subIn K (.ref C) (.type "BaseException") = some true) (tC : PySem.W.typeIn K (.ref C) = some (.type "type")) (hC : PySem.W.hasDictIn K C = true)
    (eS : PySem.W.subIn K (.ref S) (.type "BaseException") = some true) (hS : PySem.W.hasDictIn K S = true) (tS : PySem.W.typeIn K (.ref S) = some (.type "type")) (sS : PySem.W.subIn K (.ref C) (.ref S) = some true)
    (cC : (PySem.W.clsIn K C).isSome = true) (ha : PySem.W.findIn K (.ref C) "__class__" = some (some (.builtin "object.__class__"))) (hn : PySem.W.specialIn K (.builtin "object.__class__") "__get__" = some (some (.builtin "getset_descriptor.__get__")))
    (ht : PySem.W.takesIn K (.builtin "object.__class__") = some true) (hm : PySem.W.mroIn K C (.type "object") = some true) :
    ∃ C fI S, IvC K mg C fI S :=
  ⟨C, fI, S, { low := { gC := PySem.W.mg_of X G aC, cls := ⟨nm, q, N, bs, _, sn, sub, ab, col, dd, m0, m1, m2, m3, m5, xL, by rfl⟩, sa := sa, ga := ga, gg := gg, noN := nb, iC := a1, tC := t1, kC := kC, exC := eC, tyC := tC, hdC := hC, fn := ⟨_, _, _, _, _, _, _, _, _, _, _, _, _, _, l1, c1⟩ }, gS := PySem.W.mg_of X G aS, te := PySem.W.exm_ref eS hS tS sS, ex := ⟨cC, ga, gg, eC, ha, hn, ht, hm⟩ }⟩
theorem mk_dng {K : Fr} {h : Heap} {mg : Str → Option Value} {C fI S N : Addr} {nm q : Str} {bs : List Value} {sn : List Str} {sub : List Value} {ab : Bool} {col : Option Bool} {dd : Option Addr} {m0 m1 m2 m3 m5 : Option Value}
    {od an : Option Addr} {sl : Array (Option Value)} {oc dc pm cd ct : Value} {p1 p2 q1 q2 q3 q4 : Pos} (X : K.In h) (G : h.Ns mainGlobals mg)
    (aC : PySem.W.nsIn K mainGlobals "DoesNotFit" = some (some (.ref C))) (aS : PySem.W.nsIn K mainGlobals "SockError" = some (some (.ref S)))
    (xL : K.lookup C = some (PySem.excClassObj nm q C N bs [.ref S, .type "ValueError", .type "Exception", .type "BaseException", .type "object"] true sn sub ab col dd m0 m1 m2 m3 m5 "ValueError.__new__"))
    (sa : PySem.W.findIn K (.ref C) "__setattr__" = some (some (.builtin "object.__setattr__"))) (ga : PySem.W.findIn K (.ref C) "__getattribute__" = some (some (.builtin "BaseException.__getattribute__"))) (gg : PySem.W.findIn K (.ref C) "__getattr__" = some none)
    (nb : PySem.W.findIn K (.ref C) "given" = some none) (a1 : PySem.W.findIn K (.ref C) "__init__" = some (some (.ref fI))) (t1 : PySem.W.typeIn K (.ref fI) = some (.type "function"))
    (l1 : K.lookup fI = some ⟨oc, od, .func (PySem.W.fnOf "__init__" "DoesNotFit.__init__" (PySem.LowDNF.iA p1 p2) (PySem.LowDNF.iB q1 q2 q3 q4) PySem.LowDNF.iS .none .none dc pm an cd ct), sl⟩) (c1 : PySem.W.codeIn K cd "DoesNotFit.__init__" = true)
    (kC : PySem.W.keepIn K (.ref C) = true) (eC : PySem.W.subIn K (.ref C) (.type "BaseException") = some true) (tC : PySem.W.typeIn K (.ref C) = some (.type "type")) (hC : PySem.W.hasDictIn K C = true)
    (eS : PySem.W.subIn K (.ref S) (.type "BaseException") = some true) (hS : PySem.W.hasDictIn K S = true) (tS : PySem.W.typeIn K (.ref S) = some (.type "type")) (sS : PySem.W.subIn K (.ref C) (.ref S) = some true)
    (cC : (PySem.W.clsIn K C).isSome = true) (ha : PySem.W.findIn K (.ref C) "__class__" = some (some (.builtin "object.__class__"))) (hn : PySem.W.specialIn K (.builtin "object.__class__") "__get__" = some (some (.builtin "getset_descriptor.__get__")))
    (ht : PySem.W.takesIn K (.builtin "object.__class__") = some true) (hm : PySem.W.mroIn K C (.type "object") = some true) :
    ∃ C fI S, DnG K mg C fI S :=
  ⟨C, fI, S, { low := { gC := PySem.W.mg_of X G aC, cls := ⟨nm, q, N, bs, _, sn, sub, ab, col, dd, m0, m1, m2, m3, m5, xL, by rfl⟩, sa := sa, ga := ga, gg := gg, noN := nb, iC := a1, tC := t1, kC := kC, exC := eC, tyC := tC, hdC := hC, fn := ⟨_, _, _, _, _, _, _, _, _, _, _, _, _, _, l1, c1⟩ }, gS := PySem.W.mg_of X G aS, te := PySem.W.exm_ref eS hS tS sS, ex := ⟨cC, ga, gg, eC, ha, hn, ht, hm⟩ }⟩
/-- the class named a is no class named b -/
theorem mk_kit {K : Fr} {h : Heap} {mg : Str → Option Value} {a b : Str} {A B : Addr} (X : K.In h) (G : h.Ns mainGlobals mg) (aA : PySem.W.nsIn K mainGlobals a = some (some (.ref A))) (aB : PySem.W.nsIn K mainGlobals b = some (some (.ref B)))
    (n : PySem.W.kitOne K (.ref A) (.ref B) = some false) : ∃ A B : Addr, mg a = some (.ref A) ∧ mg b = some (.ref B) ∧ PySem.W.kitOne K (.ref A) (.ref B) = some false :=
  ⟨A, B, PySem.W.mg_of X G aA, PySem.W.mg_of X G aB, n⟩
end DL
end P_DLxp
section P_DLxg
set_option Elab.async false
set_option linter.all false
set_option maxRecDepth 100000
set_option maxHeartbeats 2000000
/-! An error of the class InvalidPattern: made, raised, its field read (turned from the worked proof of an own error with a field). -/
namespace PySem
namespace LowIP
open PySem.W PySem.Calls PyProof.Rows PySem.HandSPX
/-! ### the text of __init__ -/
def iA (p1 p2 : Pos) : Arguments := { posonlyargs := [], args := [{ arg := "self", annotation := none, pos := p1 }, { arg := "given", annotation := none, pos := p2 }], vararg := none, kwonlyargs := [], kw_defaults := [], kwarg := none, defaults := [] }
def iB (q1 q2 q3 q4 : Pos) : List Stmt := [.Assign [.Attribute (.Name "self" q1) "given" q2] (.Name "given" q3) q4]
def iS : Scope := { kind := .function, names := [(PySem.Str.ofString "self", .local), (PySem.Str.ofString "given", .local)], isGenerator := false, isCoroutine := false, more := [] }
/-- what the written part says of Low, at C, and of its __init__, at fI -/
structure LowTxt (K : Frag) (mg : Str → Option Value) (C fI : Addr) : Prop where
  gC : mg "InvalidPattern" = some (.ref C)
  cls : ∃ nm q N bs bm sn sub ab col dd k0 k1 k2 k3 k5, K.lookup C = some (excClassObj nm q C N bs bm true sn sub ab col dd k0 k1 k2 k3 k5 "ValueError.__new__") ∧ refsVE bm = true
  sa : findIn K (.ref C) "__setattr__" = some (some (.builtin "object.__setattr__"))
  ga : findIn K (.ref C) "__getattribute__" = some (some (.builtin "BaseException.__getattribute__"))
  gg : findIn K (.ref C) "__getattr__" = some none
  noN : findIn K (.ref C) "given" = some none
  iC : findIn K (.ref C) "__init__" = some (some (.ref fI))
  tC : typeIn K (.ref fI) = some (.type "function")
  kC : keepIn K (.ref C) = true
  exC : subIn K (.ref C) (.type "BaseException") = some true
  tyC : typeIn K (.ref C) = some (.type "type")
  hdC : hasDictIn K C = true
  fn : ∃ (oc : Value) (od : Option Addr) (doc pm : Value) (an : Option Addr) (cdv ct : Value) (osl : Array (Option Value)) (p1 p2 q1 q2 q3 q4 : Pos),
    K.lookup fI = some ⟨oc, od, .func (fnOf "__init__" "InvalidPattern.__init__" (iA p1 p2) (iB q1 q2 q3 q4) iS .none .none doc pm an cdv ct), osl⟩ ∧ codeIn K cdv "InvalidPattern.__init__" = true
theorem one_size (v : Value) : [v].length ≤ sizeLine := by
  rw [sizeLine_eq]
  exact (by decide : 1 ≤ 16777216)
theorem kept_but {K : Frag} {h h' : Heap} {x : Addr} (X : K.In h) (hx : K.lookup x = none) (k : ∀ b o, b ≠ x → h.get? b = some o → h'.get? b = some o) : K.In h' := fun a o e =>
  k a o (fun z => by rw [z, hx] at e; cases e) (X a o e)
theorem ldC {M : Model} {s : Shared} {name : Str} {scope : Scope} {L a : Addr} {cd : Value} {m : Str → Option Value} {x : Str} {pos : Pos} {v : Value} {Q : Value → Shared → Prop} {A : Around} {E : Value → Shared → Prop} (hn : s.heap.Ns L m) (hv : m x = some v) (h : Q v s)
    (hk : scope.kind = .function := by rfl) (hl : (envOfC name scope L a cd).kindOf x = some .local := by rfl) (hd : (x == ("__debug__" : Str)) = false := by decide) :
    wpAny M A (eval (.Name x pos) (envOfC name scope L a cd)) Q E s := wpAny_Name (wpAny_loadName_local hk hl hn hv h) hd
/-- what __init__ leaves of a fresh exception at x -/
structure InitEnd (h h' : Heap) (x C dx t1 : Addr) (v : Value) : Prop where
  keep : ∀ b o, b ≠ x → h.get? b = some o → h'.get? b = some o
  obj : h'.get? x = some { cls := .ref C, dict := some dx, data := .fields #[.ref t1, .none, .none, .none, .bool false, .none] }
  dbig : h.objs.size ≤ dx
  dne : dx ≠ x
  ns : h'.Ns1 dx (fun y => if y = "given" then some v else none)
/-- a made Low -/
structure OwnMade (h h' : Heap) (e C d : Addr) (v : Value) : Prop where
  keep : ∀ b o, h.get? b = some o → h'.get? b = some o
  new : h.objs.size ≤ e
  obj : ∃ oe vs, h'.get? e = some oe ∧ oe.cls = .ref C ∧ oe.dict = some d ∧ oe.data = .fields vs ∧ vs[1]? = some .none
  dbig : h.objs.size ≤ d
  dne : d ≠ e
  ns : h'.Ns1 d (fun y => if y = "given" then some v else none)
section
variable {prog : Program} {w : World} {A : Around} {E : Value → Shared → Prop} {R : Result → Shared → Prop} {s : Shared} {K : Frag} {mg : Str → Option Value} {C fI : Addr}
theorem low_init (T : LowTxt K mg C fI) {x t0 : Addr} {v : Value} (X : K.In s.heap) (hlim : s.heap.NoLimit) (hx : s.heap.get? x = some (excO C t0)) (hnx : K.lookup x = none) (hroom : A.depth < recursionLimit)
    (hq : ∀ h' tk dx, InitEnd s.heap h' x C dx t0 v → R (.ok (.ret .none)) { s with heap := h', toks := tk }) :
    codeAny (model prog w) A (.call (.ref fI) ⟨[.ref x, v], []⟩) R s := by
  obtain ⟨oc, od, doc, pm, an, cdv, ct, osl, p1, p2, q1, q2, q3, q4, ho, hcd⟩ := T.fn
  obtain ⟨nm, q, N, bs, bm, sn, sub, ab, col, dd, k0, k1, k2, k3, k5, hC, hbm⟩ := T.cls
  have hcl : clsIn K C = some { name := nm, bases := bs, mro := .ref C :: bm, ns := N, qualname := q, hasDict := true, slotNames := sn, subclasses := sub, abstract := ab, collection := col, hasDel := false } := by unfold clsIn; rw [hC] <;> rfl
  refine Att.call_fn (binds := [("self", .ref x), ("given", v)]) X hlim ho hcd hroom (BindsTo.of_eq (by first | rfl | with_unfolding_all rfl)) (by first | rfl | decide | with_unfolding_all rfl) (fun s₁ IC => ?_) rfl rfl rfl
  obtain ⟨h₁, tk₁, rfl⟩ := IC.toInCall.same
  have k : ∀ b o, s.heap.get? b = some o → h₁.get? b = some o := IC.toInCall.keep
  have hn := IC.toInCall.ns
  have hxL : s.heap.objs.size ≠ x := Nat.ne_of_gt (Heap.lt_size hx)
  have X₁ : K.In h₁ := X.keeps k
  have hx₁ := k _ _ hx
  -- self.by = by
  show wpAny _ _ (execs _ _) _ _ _
  refine wpAny_execs_cons (plainObj_wpAny_Assign_Attribute ?_)
  refine ldC (v := v) hn (by first | rfl | with_unfolding_all rfl | kernel_rfl) (ldC (v := .ref x) hn (by first | rfl | with_unfolding_all rfl | kernel_rfl) ?_)
  refine set_plain X₁ (ox := excO C t0) (od := none) ⟨hx₁, rfl, rfl, trivial⟩ T.sa ?_
  refine exc_osa X₁ hx₁ hcl (show refsVE (.ref C :: bm) = true from hbm) rfl T.noN (fun h₃ tk₃ dx k₃ dn dne hx₃ hn₃ => ?_)
  show wpAny _ _ (execs _ _) _ _ _
  have z : s.heap.objs.size < h₁.objs.size := hn.lt
  exact wpAny_execs_nil (hq h₃ tk₃ dx ⟨fun b o hb e => k₃ b o hb (k b o e), hx₃, Nat.le_of_lt (Nat.lt_of_lt_of_le z dn), dne, hn₃⟩)
theorem low_made (T : LowTxt K mg C fI) {v : Value} (X : K.In s.heap) (hlim : s.heap.NoLimit) (hroom : A.depth + 1 < recursionLimit)
    (hq : ∀ h' tk e d, OwnMade s.heap h' e C d v → R (.ok (.ret (.ref e))) { s with heap := h', toks := tk }) :
    codeAny (model prog w) A (.call (.ref C) ⟨[v], []⟩) R s := by
  obtain ⟨nm, q, N, bs, bm, sn, sub, ab, col, dd, k0, k1, k2, k3, k5, hC, hbm⟩ := T.cls
  obtain ⟨hp, g, dr, tk, os⟩ := s
  have k : ∀ b o, hp.get? b = some o → ((hp.push (kdv_tup [v])).push (excO C hp.objs.size)).get? b = some o := fun b o e => Heap.get?_push_of_some _ (Heap.get?_push_of_some _ e)
  have hget : ((hp.push (kdv_tup [v])).push (excO C hp.objs.size)).get? (hp.objs.size + 1) = some (excO C hp.objs.size) := by heap_get
  have hnx : K.lookup (hp.objs.size + 1) = none := by
    cases e : K.lookup (hp.objs.size + 1) with
    | none => rfl
    | some o =>
      have z : hp.get? (hp.objs.size + 1) = some o := X _ _ e
      exact absurd (Nat.lt_of_succ_lt (Heap.lt_size z)) (Nat.lt_irrefl _)
  refine call_own F.excBase_ValueError (fun X => refsVE_contains X bm hbm) (X _ _ hC) (looks_findIn X T.iC) (fun self => bind_fn X self T.tC) (one_size v) ?_
  refine low_init (s := ⟨(hp.push (kdv_tup [v])).push (excO C hp.objs.size), g, dr, tk, os⟩) T (X.keeps k) (hlim.keeps k) hget hnx ?_ fun h' tk' dx ⟨k', hx, dn, dne, hns⟩ => ?_
  · show A.depth + 1 < recursionLimit
    exact hroom
  · have old : ∀ b o, hp.get? b = some o → h'.get? b = some o := fun b o e => k' b o (Nat.ne_of_lt (Nat.lt_succ_of_lt (Heap.lt_size e))) (k b o e)
    have z : hp.objs.size + 1 + 1 ≤ dx := by
      first
        | (simpa only [Heap.size_push] using dn)
        | exact dn
        | (have q := dn; rw [Heap.size_push, Heap.size_push] at q; exact q)
    exact ⟨rfl, hq h' tk' (hp.objs.size + 1) dx ⟨old, Nat.le_succ _, ⟨_, _, hx, rfl, rfl, rfl, rfl⟩, Nat.le_trans (Nat.le_trans (Nat.le_succ _) (Nat.le_succ _)) z, dne, hns⟩⟩
end
end LowIP
end PySem
namespace L2
open PySem PySem.Spec PyProof.Rows
theorem relO_low_ip {v : V} {v' : Value} (r : RelV v v') (f : Str) : RelO (List.lookup f [(("given" : Str), v)]) (if f = "given" then some v' else none) := by
  by_cases hw : f = "given"
  · subst hw
    rw [if_pos rfl]
    have q : List.lookup ("given" : Str) [(("given" : Str), v)] = some v := by simp [List.lookup]
    rw [q]
    exact r
  · rw [if_neg hw]
    have qw : (f == ("given" : Str)) = false := by simpa using hw
    have q2 : List.lookup f [(("given" : Str), v)] = none := by simp [List.lookup, qw]
    rw [q2]
    trivial
section
variable {X : Cx} {C fI : Addr}
/-- Low(e) -/
def tMkLow_ip (C : Addr) (ta : TA) : St → Hp → XK → Prop := fun σ H Q => ta σ H fun vs H1 => ∃ v, vs = [v] ∧ ∀ d, H1 d = none → Q (.ref C) (some d) (upd H1 d (.xd [(("given" : Str), v)]))
theorem pmk_low_ip {a : Expr} {ta : TA} {p pos : Pos} {k : Nat} (T : PySem.LowIP.LowTxt X.K X.mg C fI) (hr : Room k X.A) (ha : PA X [a] ta) (hg : Gl X "InvalidPattern" := by rfl)
    (he : starEach (a :: []) X.env = (false, eval a X.env) :: starEach [] X.env := by rfl) (hpl : (backTo pos (starEach [] X.env)).any (·.1) = false := by rfl) :
    PMk X (.Call (.Name "InvalidPattern" p) [a] [] pos) (tMkLow_ip C ta) := by
  intro pins s σ H Q I h
  refine wpAny_Call_Name_kw (ld_glob I hg T.gC ?_)
  refine PySem.W.callWith_K (h₀ := X.base) I.ok.mod.kin T.kC (thn (ha.run pos pins s σ H _ I h) fun us s1 hh => ?_) he hpl
  obtain ⟨vs, H1, I1, r1, v, ev, q1⟩ := hh
  subst ev
  refine ⟨I1.kIn, ?_⟩
  cases r1 with
  | cons rv rn =>
    rename_i v' us'
    cases rn
    show wpAny _ _ (call (.ref C) [v']) _ _ _
    have hlim := I1.nolimit
    obtain ⟨hp, g, dr, tk, os⟩ := s1
    refine wpAny_call (PySem.LowIP.low_made T I1.kIn hlim (by have := hr.dp; omega) fun h' tk' e d M => ?_)
    show MkP X pins σ Q (.ref e) ⟨h', g, dr, tk', os⟩
    obtain ⟨oe, fv, hoe, hc, hd, hdat, h1⟩ := M.obj
    have hns := M.ns
    obtain ⟨G', g1, g2⟩ := restrict h' fun b => decide (b ≠ e)
    have gk : ∀ b, b ≠ e → G'.get? b = h'.get? b := fun b hb => g1 b (decide_eq_true hb)
    have ge : G'.get? e = none := g2 e (by simp)
    have old : ∀ b o, hp.get? b = some o → G'.get? b = some o := fun b o q => (gk b (Nat.ne_of_lt (Nat.lt_of_lt_of_le (Heap.lt_size q) M.new))).trans (M.keep b o q)
    have ob : ObjOk X.prog X.w (upd H1 d (.xd [(("given" : Str), v)])) G' d (.xd [(("given" : Str), v)]) :=
      ⟨_, hns.at (fun o q => (gk d M.dne).trans q), fun f => relO_low_ip rv f⟩
    have J : Inv X pins σ (upd H1 d (.xd [(("given" : Str), v)])) ⟨G', g, dr, tk', os⟩ := I1.laid (t' := tk') old M.dbig ob
    refine ⟨e, oe, fv, ⟨G', g, dr, tk', os⟩, _, .ref C, some d, rfl, J, fun b o q => ?_, ge, hoe, ⟨hc, hd⟩, hdat, h1, ?_, rfl, I1.bare, raises_own T.exC T.tyC, q1 d (I1.hok.fresh M.dbig)⟩
    · by_cases hb : b = e
      · have q' : G'.get? b = some o := q
        rw [hb, ge] at q'; cases q'
      · exact (gk b hb).symm.trans q
    · rw [upd_ne (Ne.symm M.dne)]
      exact I1.hok.fresh M.new
/-- raise Low(e) -/
def tRaiseLow_ip (C : Addr) (W : WX) (ta : TA) : TS := fun _ σ H => tMkLow_ip C ta σ H fun cls d H' => W cls d σ H'
theorem ps_raiseLow_ip {a : Expr} {ta : TA} {W : WX} {p pos pos2 : Pos} {k : Nat} (hc : X.calm = true) (T : PySem.LowIP.LowTxt X.K X.mg C fI) (hr : Room k X.A) (tk : Takes X W) (ha : PA X [a] ta) (hg : Gl X "InvalidPattern" := by rfl)
    (he : starEach (a :: []) X.env = (false, eval a X.env) :: starEach [] X.env := by rfl) (hpl : (backTo pos (starEach [] X.env)).any (·.1) = false := by rfl) :
    PS X (.Raise (some (.Call (.Name "InvalidPattern" p) [a] [] pos)) none pos2) (tRaiseLow_ip C W ta) := ps_raise hc tk (pmk_low_ip T hr ha hg he hpl)
/-- low.by, low the exception that the suite holds (at a; its class cls, its dict d) -/
def tByLow_ip (C : Addr) (a : Addr) (cls : Value) (d : Option Addr) (te : TE) : TE := fun σ H Q => te σ H fun x H1 => x = .ref a ∧ cls = .ref C ∧ ∃ (dd : Addr) (v : V), d = some dd ∧ H1 dd = some (.xd [(("given" : Str), v)]) ∧ Q v H1
theorem pe_byLow_ip {a : Addr} {oe : Obj} {cls : Value} {d : Option Addr} {pn : List (Addr × Obj)} {e : Expr} {te : TE} {pos : Pos} (T : PySem.LowIP.LowTxt X.K X.mg C fI) (hz : Zc cls d oe) (hf : ∃ vs, oe.data = .fields vs) (he : PE (X.suite a ((a, oe) :: pn)) e te)
    (hb : attributeBase e "given" X.env (eval e X.env) = eval e X.env := by rfl) :
    PE (X.suite a ((a, oe) :: pn)) (.Attribute e "given" pos) (tByLow_ip C a cls d te) := by
  refine ⟨fun pins s σ H Q I h => ?_⟩
  refine attr_of hb (thn (he.run pins s σ H _ I h) fun u s1 hh => ?_)
  obtain ⟨x, H1, I1, rx, ex, ec, dd, v, ed, ea, q⟩ := hh
  subst ex
  obtain rfl : u = Value.ref a := rx
  subst ec
  subst ed
  obtain ⟨ha, _⟩ := I1.pin (a, oe) (List.mem_append_left _ List.mem_cons_self)
  obtain ⟨vs, hd⟩ := hf
  have hx : ObjOk X.prog X.w H1 s1.heap dd (.xd [(("given" : Str), v)]) := I1.hok dd _ ea
  obtain ⟨mA, hns, hr⟩ := hx
  obtain ⟨od, ho, hl⟩ := lookIn_ns hns
  have l : List.lookup ("given" : Str) [(("given" : Str), v)] = some v := by simp [List.lookup]
  obtain ⟨u, hu, ru⟩ := RelO.some_of (v := v) (o := mA "given") (by rw [← l]; exact hr "given")
  have J : PySem.W.InstAt s1.heap a oe C (some od) := ⟨ha, hz.1, by unfold PySem.W.notCls; rw [hd] <;> rfl, by rw [hz.2]; exact ho⟩
  exact HandSPX.exc_get I1.kIn J T.ga T.gg T.exC (PySem.W.findObj_own T.hdC T.noN rfl (by rw [hl, hu])) (handed_of ru) ⟨v, H1, I1.tok _, ru, q⟩
end
end L2
end P_DLxg
section P_DLxh
set_option Elab.async false
set_option linter.all false
set_option maxRecDepth 100000
set_option maxHeartbeats 2000000
/-! InvalidPattern; a def of two parameters that hands both to a def that raises. -/
namespace DL
open PySem PySem.Spec PyProof.Rows L2
structure IvP (K : Fr) (mg : Str → Option Value) (C fI S : Addr) : Prop where
  low : PySem.LowIP.LowTxt K mg C fI
  gS : mg "SockError" = some (.ref S)
  te : PySem.W.exmOne K (.ref C) (.ref S) = some true
  ex : ExcD K C
theorem mk_ivp {K : Fr} {h : Heap} {mg : Str → Option Value} {C fI S N : Addr} {nm q : Str} {bs : List Value} {sn : List Str} {sub : List Value} {ab : Bool} {col : Option Bool} {dd : Option Addr} {m0 m1 m2 m3 m5 : Option Value}
    {od an : Option Addr} {sl : Array (Option Value)} {oc dc pm cd ct : Value} {p1 p2 q1 q2 q3 q4 : Pos} (X : K.In h) (G : h.Ns mainGlobals mg)
    (aC : PySem.W.nsIn K mainGlobals "InvalidPattern" = some (some (.ref C))) (aS : PySem.W.nsIn K mainGlobals "SockError" = some (some (.ref S)))
    (xL : K.lookup C = some (PySem.excClassObj nm q C N bs [.ref S, .type "ValueError", .type "Exception", .type "BaseException", .type "object"] true sn sub ab col dd m0 m1 m2 m3 m5 "ValueError.__new__"))
    (sa : PySem.W.findIn K (.ref C) "__setattr__" = some (some (.builtin "object.__setattr__"))) (ga : PySem.W.findIn K (.ref C) "__getattribute__" = some (some (.builtin "BaseException.__getattribute__"))) (gg : PySem.W.findIn K (.ref C) "__getattr__" = some none)
    (nb : PySem.W.findIn K (.ref C) "given" = some none) (a1 : PySem.W.findIn K (.ref C) "__init__" = some (some (.ref fI))) (t1 : PySem.W.typeIn K (.ref fI) = some (.type "function"))
    (l1 : K.lookup fI = some ⟨oc, od, .func (PySem.W.fnOf "__init__" "InvalidPattern.__init__" (PySem.LowIP.iA p1 p2) (PySem.LowIP.iB q1 q2 q3 q4) PySem.LowIP.iS .none .none dc pm an cd ct), sl⟩) (c1 : PySem.W.codeIn K cd "InvalidPattern.__init__" = true)
    (kC : PySem.W.keepIn K (.ref C) = true) (eC : PySem.W.subIn K (.ref C) (.type "BaseException") = some true) (tC : PySem.W.typeIn K (.ref C) = some (.type "type")) (hC : PySem.W.hasDictIn K C = true)
    (eS : PySem.W.subIn K (.ref S) (.type "BaseException") = some true) (hS : PySem.W.hasDictIn K S = true) (tS : PySem.W.typeIn K (.ref S) = some (.type "type")) (sS : PySem.W.subIn K (.ref C) (.ref S) = some true)
    (cC : (PySem.W.clsIn K C).isSome = true) (ha : PySem.W.findIn K (.ref C) "__class__" = some (some (.builtin "object.__class__"))) (hn : PySem.W.specialIn K (.builtin "object.__class__") "__get__" = some (some (.builtin "getset_descriptor.__get__")))
    (ht : PySem.W.takesIn K (.builtin "object.__class__") = some true) (hm : PySem.W.mroIn K C (.type "object") = some true) :
    ∃ C fI S, IvP K mg C fI S :=
  ⟨C, fI, S, { low := { gC := PySem.W.mg_of X G aC, cls := ⟨nm, q, N, bs, _, sn, sub, ab, col, dd, m0, m1, m2, m3, m5, xL, by rfl⟩, sa := sa, ga := ga, gg := gg, noN := nb, iC := a1, tC := t1, kC := kC, exC := eC, tyC := tC, hdC := hC, fn := ⟨_, _, _, _, _, _, _, _, _, _, _, _, _, _, l1, c1⟩ }, gS := PySem.W.mg_of X G aS, te := PySem.W.exm_ref eS hS tS sS, ex := ⟨cC, ga, gg, eC, ha, hn, ht, hm⟩ }⟩
theorem raiseCall2 {K : Fr} {CR CC : Addr} {x0 x1 : Str} {vs : List V} {H : Hp} {Q : VK} {E : XK} {gR : List Val → Mem → Res Val} {xR xC : List Val → Mem → Res D} {u : TS} {D : Ends} (h : spRC K CR CC gR xR xC vs H Q E) :
    tSeq (tDrop (tCallS (spRC K CR CC gR xR xC) (WE fun cls d _ H => E cls d H) (tCons (tVar 0) (tCons (tVar 1) tNil)))) u D (L2.start [x0, x1] vs) H := by
  have hl := h.1
  match vs, hl, h with
  | [v, w], _, h => exact ⟨v, rfl, w, rfl, h⟩
end DL
end P_DLxh
section P_DLxy
set_option Elab.async false
set_option linter.all false
set_option maxRecDepth 100000
set_option maxHeartbeats 2000000
/-! Calls by names within a try; a def that returns or raises. -/
namespace DL
open PySem PySem.Spec PyProof.Rows L2
/-- what raises nothing may stand where something may be raised -/
theorem fnok_cx {P : Program} {w : World} {K : PySem.W.Frag} {mg : Str → Option Value} {base : Heap} {CX : CXT} {k : Nat} {f : Addr} {fd : FuncData} {ps : List Str} {sp : Sp} (F : FnOk P w K mg base CX0 k f fd ps sp) : FnOk P w K mg base CX k f fd ps sp :=
  ⟨F.len, fun A outer s H args us vs Q E hr e0 hb r h => codeAny_mono (F.run A outer s H args us vs Q E hr e0 hb r h) fun r s' q => by
    cases r with
    | error e => exact False.elim q
    | ok fl => cases fl <;> exact q⟩
theorem fnok_or {P : Program} {w : World} {K : PySem.W.Frag} {mg : Str → Option Value} {base : Heap} {CX : CXT} {k : Nat} {f : Addr} {fd : FuncData} {ps : List Str} {sp sp2 : Sp} (F : FnOk P w K mg base CX k f fd ps sp) (G : FnOk P w K mg base CX k f fd ps sp2) :
    FnOk P w K mg base CX k f fd ps (fun vs H Q E => sp vs H Q E ∨ sp2 vs H Q E) :=
  ⟨fun vs H Q E h => h.elim (F.len vs H Q E) (G.len vs H Q E), fun A outer s H args us vs Q E hr e0 hb r h => h.elim (F.run A outer s H args us vs Q E hr e0 hb r) (G.run A outer s H args us vs Q E hr e0 hb r)⟩
/-! ### f(e, .., k = v, ..) where the state is told -/
def tCallNS (n m : Nat) (sp : Sp) (gV : List V → List V → List V) (E : L2.St → XK) (t tk : TA) : TE := fun σ H Q => t σ H fun vs H1 => tk σ H1 fun zs H2 => vs.length = n ∧ zs.length = m ∧ sp (gV vs zs) H2 Q (E σ)
section
variable {X : Cx} {CX : CXT} {k n : Nat} {f : Addr} {fd : FuncData} {ps ks : List Str} {sp : Sp} {E : L2.St → XK} {x : Str} {p pos : Pos} {e : Expr} {es : List Expr} {kws : List Keyword} {t tk : TA} {g : List Value → List Value → List Value} {gV : List V → List V → List V}
theorem run_fnNS {pins : List (Addr × Obj)} {σ : L2.St} {H : Hp} {s : Shared} {Q : VK} {us ws : List Value} {vs zs : List V} (F : FnOk X.prog X.w X.K X.mg X.base CX k f fd ps sp) (hr : Room k X.A) (hb : KBn X.K fd ps n ks g gV) (hx : PassesAt CX X σ (E σ))
    (I : L2.Inv X pins σ H s) (r : Vals vs us) (rz : Vals zs ws) (l1 : vs.length = n) (l2 : zs.length = ks.length) (h : sp (gV vs zs) H Q (E σ)) : wpAny (model X.prog X.w) X.A (call (.ref f) us (ks.zip ws)) (EP X pins σ Q) X.xe s := by
  have r2 := hb.rel r rz
  refine wpAny_call (codeAny_mono (F.run X.A X.stack s H ⟨us, ks.zip ws⟩ (g us ws) (gV vs zs) Q (E σ) hr I.env0 (hb.to s us ws I.kIn (r.length.symm.trans l1) (rz.length.symm.trans l2)) r2 h) fun r s' hq => ?_)
  cases r with
  | error e => exact hx pins H s e s' I hq
  | ok fl =>
    cases fl with
    | ret u => exact I.after hq
    | next => exact False.elim hq
    | brk => exact False.elim hq
    | cont => exact False.elim hq
theorem pe_callNS (F : FnOk X.prog X.w X.K X.mg X.base CX k f fd ps sp) (hr : Room k X.A) (hg : Gl X x) (hm : X.mg x = some (.ref f)) (hk : PySem.W.keepIn X.K (.ref f) = true) (hb : KBn X.K fd ps n ks g gV) (hx : ∀ σ, PassesAt CX X σ (E σ))
    (ha : PA X (e :: es) t) (hkw : PK X kws tk) (hall : (backToKw pos (keywordEach kws X.env)).all (·.1.isSome) = true := by rfl) (hks : (backToKw pos (keywordEach kws X.env)).filterMap (·.1) = ks := by rfl)
    (hdb : (x == ("__debug__" : Str)) = false := by decide) (he : starEach (e :: es) X.env = (false, eval e X.env) :: starEach es X.env := by rfl)
    (hpl : ((backTo pos (starEach (e :: es) X.env)).any (·.1) || (backToKw pos (keywordEach kws X.env)).any (·.1.isNone)) = false := by rfl) :
    PE X (.Call (.Name x p) (e :: es) kws pos) (tCallNS n ks.length sp gV E t tk) := by
  refine ⟨fun pins s σ H Q I h => ?_⟩
  refine wpAny_Call_Name_kw (ld_glob I hg hm ?_ hdb)
  refine PySem.W.callWith_KW (h₀ := X.base) I.ok.mod.kin hk hall (thn (ha.run pos pins s σ H _ I h) fun us s1 ⟨vs, H1, I1, r, q⟩ => ?_) hpl he
  refine thn (hkw.run pos pins s1 σ H1 _ I1 q) fun ws s2 ⟨zs, H2, I2, rz, l1, l2, q2⟩ => ⟨I2.kIn, ?_⟩
  rw [hks]
  exact run_fnNS F hr hb (hx σ) I2 r rz l1 l2 q2
end
end DL
end P_DLxy
section P_DLxn
set_option Elab.async false
set_option linter.all false
set_option maxRecDepth 100000
set_option maxHeartbeats 2000000
/-! An error of an own class whose one field is «given»: made, raised, its field read (turned from the worked proof of an own error with a field). -/
namespace PySem
namespace LowGv
open PySem.W PySem.Calls PyProof.Rows PySem.HandSPX
/-! ### the text of __init__ -/
def iA (p1 p2 : Pos) : Arguments := { posonlyargs := [], args := [{ arg := "self", annotation := none, pos := p1 }, { arg := "given", annotation := none, pos := p2 }], vararg := none, kwonlyargs := [], kw_defaults := [], kwarg := none, defaults := [] }
def iB (q1 q2 q3 q4 : Pos) : List Stmt := [.Assign [.Attribute (.Name "self" q1) "given" q2] (.Name "given" q3) q4]
def iS : Scope := { kind := .function, names := [(PySem.Str.ofString "self", .local), (PySem.Str.ofString "given", .local)], isGenerator := false, isCoroutine := false, more := [] }
/-- what the written part says of Low, at C, and of its __init__, at fI -/
structure LowTxt (K : Frag) (mg : Str → Option Value) (nm : Str) (C fI : Addr) : Prop where
  gC : mg nm = some (.ref C)
  cls : ∃ nm q N bs bm sn sub ab col dd k0 k1 k2 k3 k5, K.lookup C = some (excClassObj nm q C N bs bm true sn sub ab col dd k0 k1 k2 k3 k5 "ValueError.__new__") ∧ refsVE bm = true
  sa : findIn K (.ref C) "__setattr__" = some (some (.builtin "object.__setattr__"))
  ga : findIn K (.ref C) "__getattribute__" = some (some (.builtin "BaseException.__getattribute__"))
  gg : findIn K (.ref C) "__getattr__" = some none
  noN : findIn K (.ref C) "given" = some none
  iC : findIn K (.ref C) "__init__" = some (some (.ref fI))
  tC : typeIn K (.ref fI) = some (.type "function")
  kC : keepIn K (.ref C) = true
  exC : subIn K (.ref C) (.type "BaseException") = some true
  tyC : typeIn K (.ref C) = some (.type "type")
  hdC : hasDictIn K C = true
  fn : ∃ (qn : Str) (oc : Value) (od : Option Addr) (doc pm : Value) (an : Option Addr) (cdv ct : Value) (osl : Array (Option Value)) (p1 p2 q1 q2 q3 q4 : Pos),
    K.lookup fI = some ⟨oc, od, .func (fnOf "__init__" qn (iA p1 p2) (iB q1 q2 q3 q4) iS .none .none doc pm an cdv ct), osl⟩ ∧ codeIn K cdv qn = true
theorem one_size (v : Value) : [v].length ≤ sizeLine := by
  rw [sizeLine_eq]
  exact (by decide : 1 ≤ 16777216)
theorem kept_but {K : Frag} {h h' : Heap} {x : Addr} (X : K.In h) (hx : K.lookup x = none) (k : ∀ b o, b ≠ x → h.get? b = some o → h'.get? b = some o) : K.In h' := fun a o e =>
  k a o (fun z => by rw [z, hx] at e; cases e) (X a o e)
theorem ldC {M : Model} {s : Shared} {name : Str} {scope : Scope} {L a : Addr} {cd : Value} {m : Str → Option Value} {x : Str} {pos : Pos} {v : Value} {Q : Value → Shared → Prop} {A : Around} {E : Value → Shared → Prop} (hn : s.heap.Ns L m) (hv : m x = some v) (h : Q v s)
    (hk : scope.kind = .function := by rfl) (hl : (envOfC name scope L a cd).kindOf x = some .local := by rfl) (hd : (x == ("__debug__" : Str)) = false := by decide) :
    wpAny M A (eval (.Name x pos) (envOfC name scope L a cd)) Q E s := wpAny_Name (wpAny_loadName_local hk hl hn hv h) hd
/-- what __init__ leaves of a fresh exception at x -/
structure InitEnd (h h' : Heap) (x C dx t1 : Addr) (v : Value) : Prop where
  keep : ∀ b o, b ≠ x → h.get? b = some o → h'.get? b = some o
  obj : h'.get? x = some { cls := .ref C, dict := some dx, data := .fields #[.ref t1, .none, .none, .none, .bool false, .none] }
  dbig : h.objs.size ≤ dx
  dne : dx ≠ x
  ns : h'.Ns1 dx (fun y => if y = "given" then some v else none)
/-- a made Low -/
structure OwnMade (h h' : Heap) (e C d : Addr) (v : Value) : Prop where
  keep : ∀ b o, h.get? b = some o → h'.get? b = some o
  new : h.objs.size ≤ e
  obj : ∃ oe vs, h'.get? e = some oe ∧ oe.cls = .ref C ∧ oe.dict = some d ∧ oe.data = .fields vs ∧ vs[1]? = some .none
  dbig : h.objs.size ≤ d
  dne : d ≠ e
  ns : h'.Ns1 d (fun y => if y = "given" then some v else none)
section
variable {prog : Program} {w : World} {A : Around} {E : Value → Shared → Prop} {R : Result → Shared → Prop} {s : Shared} {K : Frag} {mg : Str → Option Value} {nm : Str} {C fI : Addr}
theorem low_init (T : LowTxt K mg nm C fI) {x t0 : Addr} {v : Value} (X : K.In s.heap) (hlim : s.heap.NoLimit) (hx : s.heap.get? x = some (excO C t0)) (hnx : K.lookup x = none) (hroom : A.depth < recursionLimit)
    (hq : ∀ h' tk dx, InitEnd s.heap h' x C dx t0 v → R (.ok (.ret .none)) { s with heap := h', toks := tk }) :
    codeAny (model prog w) A (.call (.ref fI) ⟨[.ref x, v], []⟩) R s := by
  obtain ⟨qn, oc, od, doc, pm, an, cdv, ct, osl, p1, p2, q1, q2, q3, q4, ho, hcd⟩ := T.fn
  obtain ⟨nm, q, N, bs, bm, sn, sub, ab, col, dd, k0, k1, k2, k3, k5, hC, hbm⟩ := T.cls
  have hcl : clsIn K C = some { name := nm, bases := bs, mro := .ref C :: bm, ns := N, qualname := q, hasDict := true, slotNames := sn, subclasses := sub, abstract := ab, collection := col, hasDel := false } := by unfold clsIn; rw [hC] <;> rfl
  refine Att.call_fn (binds := [("self", .ref x), ("given", v)]) X hlim ho hcd hroom (BindsTo.of_eq (by first | rfl | with_unfolding_all rfl)) (by first | rfl | decide | with_unfolding_all rfl) (fun s₁ IC => ?_) rfl rfl rfl
  obtain ⟨h₁, tk₁, rfl⟩ := IC.toInCall.same
  have k : ∀ b o, s.heap.get? b = some o → h₁.get? b = some o := IC.toInCall.keep
  have hn := IC.toInCall.ns
  have hxL : s.heap.objs.size ≠ x := Nat.ne_of_gt (Heap.lt_size hx)
  have X₁ : K.In h₁ := X.keeps k
  have hx₁ := k _ _ hx
  -- self.by = by
  show wpAny _ _ (execs _ _) _ _ _
  refine wpAny_execs_cons (plainObj_wpAny_Assign_Attribute ?_)
  refine ldC (v := v) hn (by first | rfl | with_unfolding_all rfl | kernel_rfl) (ldC (v := .ref x) hn (by first | rfl | with_unfolding_all rfl | kernel_rfl) ?_)
  refine set_plain X₁ (ox := excO C t0) (od := none) ⟨hx₁, rfl, rfl, trivial⟩ T.sa ?_
  refine exc_osa X₁ hx₁ hcl (show refsVE (.ref C :: bm) = true from hbm) rfl T.noN (fun h₃ tk₃ dx k₃ dn dne hx₃ hn₃ => ?_)
  show wpAny _ _ (execs _ _) _ _ _
  have z : s.heap.objs.size < h₁.objs.size := hn.lt
  exact wpAny_execs_nil (hq h₃ tk₃ dx ⟨fun b o hb e => k₃ b o hb (k b o e), hx₃, Nat.le_of_lt (Nat.lt_of_lt_of_le z dn), dne, hn₃⟩)
theorem low_made (T : LowTxt K mg nm C fI) {v : Value} (X : K.In s.heap) (hlim : s.heap.NoLimit) (hroom : A.depth + 1 < recursionLimit)
    (hq : ∀ h' tk e d, OwnMade s.heap h' e C d v → R (.ok (.ret (.ref e))) { s with heap := h', toks := tk }) :
    codeAny (model prog w) A (.call (.ref C) ⟨[v], []⟩) R s := by
  obtain ⟨nm, q, N, bs, bm, sn, sub, ab, col, dd, k0, k1, k2, k3, k5, hC, hbm⟩ := T.cls
  obtain ⟨hp, g, dr, tk, os⟩ := s
  have k : ∀ b o, hp.get? b = some o → ((hp.push (kdv_tup [v])).push (excO C hp.objs.size)).get? b = some o := fun b o e => Heap.get?_push_of_some _ (Heap.get?_push_of_some _ e)
  have hget : ((hp.push (kdv_tup [v])).push (excO C hp.objs.size)).get? (hp.objs.size + 1) = some (excO C hp.objs.size) := by heap_get
  have hnx : K.lookup (hp.objs.size + 1) = none := by
    cases e : K.lookup (hp.objs.size + 1) with
    | none => rfl
    | some o =>
      have z : hp.get? (hp.objs.size + 1) = some o := X _ _ e
      exact absurd (Nat.lt_of_succ_lt (Heap.lt_size z)) (Nat.lt_irrefl _)
  refine call_own F.excBase_ValueError (fun X => refsVE_contains X bm hbm) (X _ _ hC) (looks_findIn X T.iC) (fun self => bind_fn X self T.tC) (one_size v) ?_
  refine low_init (s := ⟨(hp.push (kdv_tup [v])).push (excO C hp.objs.size), g, dr, tk, os⟩) T (X.keeps k) (hlim.keeps k) hget hnx ?_ fun h' tk' dx ⟨k', hx, dn, dne, hns⟩ => ?_
  · show A.depth + 1 < recursionLimit
    exact hroom
  · have old : ∀ b o, hp.get? b = some o → h'.get? b = some o := fun b o e => k' b o (Nat.ne_of_lt (Nat.lt_succ_of_lt (Heap.lt_size e))) (k b o e)
    have z : hp.objs.size + 1 + 1 ≤ dx := by
      first
        | (simpa only [Heap.size_push] using dn)
        | exact dn
        | (have q := dn; rw [Heap.size_push, Heap.size_push] at q; exact q)
    exact ⟨rfl, hq h' tk' (hp.objs.size + 1) dx ⟨old, Nat.le_succ _, ⟨_, _, hx, rfl, rfl, rfl, rfl⟩, Nat.le_trans (Nat.le_trans (Nat.le_succ _) (Nat.le_succ _)) z, dne, hns⟩⟩
end
end LowGv
end PySem
namespace L2
open PySem PySem.Spec PyProof.Rows
theorem relO_low_gv {v : V} {v' : Value} (r : RelV v v') (f : Str) : RelO (List.lookup f [(("given" : Str), v)]) (if f = "given" then some v' else none) := by
  by_cases hw : f = "given"
  · subst hw
    rw [if_pos rfl]
    have q : List.lookup ("given" : Str) [(("given" : Str), v)] = some v := by simp [List.lookup]
    rw [q]
    exact r
  · rw [if_neg hw]
    have qw : (f == ("given" : Str)) = false := by simpa using hw
    have q2 : List.lookup f [(("given" : Str), v)] = none := by simp [List.lookup, qw]
    rw [q2]
    trivial
section
variable {X : Cx} {nm : Str} {C fI : Addr}
/-- Low(e) -/
def tMkLow_gv (C : Addr) (ta : TA) : St → Hp → XK → Prop := fun σ H Q => ta σ H fun vs H1 => ∃ v, vs = [v] ∧ ∀ d, H1 d = none → Q (.ref C) (some d) (upd H1 d (.xd [(("given" : Str), v)]))
theorem pmk_low_gv {a : Expr} {ta : TA} {p pos : Pos} {k : Nat} (T : PySem.LowGv.LowTxt X.K X.mg nm C fI) (hr : Room k X.A) (ha : PA X [a] ta) (hg : Gl X nm := by rfl) (hdb : (nm == ("__debug__" : Str)) = false := by decide +kernel)
    (he : starEach (a :: []) X.env = (false, eval a X.env) :: starEach [] X.env := by rfl) (hpl : (backTo pos (starEach [] X.env)).any (·.1) = false := by rfl) :
    PMk X (.Call (.Name nm p) [a] [] pos) (tMkLow_gv C ta) := by
  intro pins s σ H Q I h
  refine wpAny_Call_Name_kw (ld_glob I hg T.gC ?_ hdb)
  refine PySem.W.callWith_K (h₀ := X.base) I.ok.mod.kin T.kC (thn (ha.run pos pins s σ H _ I h) fun us s1 hh => ?_) he hpl
  obtain ⟨vs, H1, I1, r1, v, ev, q1⟩ := hh
  subst ev
  refine ⟨I1.kIn, ?_⟩
  cases r1 with
  | cons rv rn =>
    rename_i v' us'
    cases rn
    show wpAny _ _ (call (.ref C) [v']) _ _ _
    have hlim := I1.nolimit
    obtain ⟨hp, g, dr, tk, os⟩ := s1
    refine wpAny_call (PySem.LowGv.low_made T I1.kIn hlim (by have := hr.dp; omega) fun h' tk' e d M => ?_)
    show MkP X pins σ Q (.ref e) ⟨h', g, dr, tk', os⟩
    obtain ⟨oe, fv, hoe, hc, hd, hdat, h1⟩ := M.obj
    have hns := M.ns
    obtain ⟨G', g1, g2⟩ := restrict h' fun b => decide (b ≠ e)
    have gk : ∀ b, b ≠ e → G'.get? b = h'.get? b := fun b hb => g1 b (decide_eq_true hb)
    have ge : G'.get? e = none := g2 e (by simp)
    have old : ∀ b o, hp.get? b = some o → G'.get? b = some o := fun b o q => (gk b (Nat.ne_of_lt (Nat.lt_of_lt_of_le (Heap.lt_size q) M.new))).trans (M.keep b o q)
    have ob : ObjOk X.prog X.w (upd H1 d (.xd [(("given" : Str), v)])) G' d (.xd [(("given" : Str), v)]) :=
      ⟨_, hns.at (fun o q => (gk d M.dne).trans q), fun f => relO_low_gv rv f⟩
    have J : Inv X pins σ (upd H1 d (.xd [(("given" : Str), v)])) ⟨G', g, dr, tk', os⟩ := I1.laid (t' := tk') old M.dbig ob
    refine ⟨e, oe, fv, ⟨G', g, dr, tk', os⟩, _, .ref C, some d, rfl, J, fun b o q => ?_, ge, hoe, ⟨hc, hd⟩, hdat, h1, ?_, rfl, I1.bare, raises_own T.exC T.tyC, q1 d (I1.hok.fresh M.dbig)⟩
    · by_cases hb : b = e
      · have q' : G'.get? b = some o := q
        rw [hb, ge] at q'; cases q'
      · exact (gk b hb).symm.trans q
    · rw [upd_ne (Ne.symm M.dne)]
      exact I1.hok.fresh M.new
/-- raise Low(e) -/
def tRaiseLow_gv (C : Addr) (W : WX) (ta : TA) : TS := fun _ σ H => tMkLow_gv C ta σ H fun cls d H' => W cls d σ H'
theorem ps_raiseLow_gv {a : Expr} {ta : TA} {W : WX} {p pos pos2 : Pos} {k : Nat} (hc : X.calm = true) (T : PySem.LowGv.LowTxt X.K X.mg nm C fI) (hr : Room k X.A) (tk : Takes X W) (ha : PA X [a] ta) (hg : Gl X nm := by rfl) (hdb : (nm == ("__debug__" : Str)) = false := by decide +kernel)
    (he : starEach (a :: []) X.env = (false, eval a X.env) :: starEach [] X.env := by rfl) (hpl : (backTo pos (starEach [] X.env)).any (·.1) = false := by rfl) :
    PS X (.Raise (some (.Call (.Name nm p) [a] [] pos)) none pos2) (tRaiseLow_gv C W ta) := ps_raise hc tk (pmk_low_gv T hr ha hg hdb he hpl)
/-- low.by, low the exception that the suite holds (at a; its class cls, its dict d) gv -/
def tByLow_gv (K : PySem.W.Frag) (mg : Str → Option Value) (a : Addr) (cls : Value) (d : Option Addr) (te : TE) : TE := fun σ H Q => te σ H fun x H1 => x = .ref a ∧ ∃ (nm : Str) (C fI : Addr), PySem.LowGv.LowTxt K mg nm C fI ∧ cls = .ref C ∧ ∃ (dd : Addr) (v : V), d = some dd ∧ H1 dd = some (.xd [(("given" : Str), v)]) ∧ Q v H1
theorem pe_byLow_gv {a : Addr} {oe : Obj} {cls : Value} {d : Option Addr} {pn : List (Addr × Obj)} {e : Expr} {te : TE} {pos : Pos} (hz : Zc cls d oe) (hf : ∃ vs, oe.data = .fields vs) (he : PE (X.suite a ((a, oe) :: pn)) e te)
    (hb : attributeBase e "given" X.env (eval e X.env) = eval e X.env := by rfl) :
    PE (X.suite a ((a, oe) :: pn)) (.Attribute e "given" pos) (tByLow_gv X.K X.mg a cls d te) := by
  refine ⟨fun pins s σ H Q I h => ?_⟩
  refine attr_of hb (thn (he.run pins s σ H _ I h) fun u s1 hh => ?_)
  obtain ⟨x, H1, I1, rx, ex, nm, C, fI, T, ec, dd, v, ed, ea, q⟩ := hh
  subst ex
  obtain rfl : u = Value.ref a := rx
  subst ec
  subst ed
  obtain ⟨ha, _⟩ := I1.pin (a, oe) (List.mem_append_left _ List.mem_cons_self)
  obtain ⟨vs, hd⟩ := hf
  have hx : ObjOk X.prog X.w H1 s1.heap dd (.xd [(("given" : Str), v)]) := I1.hok dd _ ea
  obtain ⟨mA, hns, hr⟩ := hx
  obtain ⟨od, ho, hl⟩ := lookIn_ns hns
  have l : List.lookup ("given" : Str) [(("given" : Str), v)] = some v := by simp [List.lookup]
  obtain ⟨u, hu, ru⟩ := RelO.some_of (v := v) (o := mA "given") (by rw [← l]; exact hr "given")
  have J : PySem.W.InstAt s1.heap a oe C (some od) := ⟨ha, hz.1, by unfold PySem.W.notCls; rw [hd] <;> rfl, by rw [hz.2]; exact ho⟩
  exact HandSPX.exc_get I1.kIn J T.ga T.gg T.exC (PySem.W.findObj_own T.hdC T.noN rfl (by rw [hl, hu])) (handed_of ru) ⟨v, H1, I1.tok _, ru, q⟩
end
end L2
end P_DLxn
section P_DLxi
set_option Elab.async false
set_option linter.all false
set_option maxRecDepth 100000
set_option maxHeartbeats 2000000
/-! An error of an own class whose one field is «index»: made, raised, its field read (turned from the worked proof of an own error with a field). -/
namespace PySem
namespace LowIx
open PySem.W PySem.Calls PyProof.Rows PySem.HandSPX
/-! ### the text of __init__ -/
def iA (p1 p2 : Pos) : Arguments := { posonlyargs := [], args := [{ arg := "self", annotation := none, pos := p1 }, { arg := "index", annotation := none, pos := p2 }], vararg := none, kwonlyargs := [], kw_defaults := [], kwarg := none, defaults := [] }
def iB (q1 q2 q3 q4 : Pos) : List Stmt := [.Assign [.Attribute (.Name "self" q1) "index" q2] (.Name "index" q3) q4]
def iS : Scope := { kind := .function, names := [(PySem.Str.ofString "self", .local), (PySem.Str.ofString "index", .local)], isGenerator := false, isCoroutine := false, more := [] }
/-- what the written part says of Low, at C, and of its __init__, at fI -/
structure LowTxt (K : Frag) (mg : Str → Option Value) (nm : Str) (C fI : Addr) : Prop where
  gC : mg nm = some (.ref C)
  cls : ∃ nm q N bs bm sn sub ab col dd k0 k1 k2 k3 k5, K.lookup C = some (excClassObj nm q C N bs bm true sn sub ab col dd k0 k1 k2 k3 k5 "ValueError.__new__") ∧ refsVE bm = true
  sa : findIn K (.ref C) "__setattr__" = some (some (.builtin "object.__setattr__"))
  ga : findIn K (.ref C) "__getattribute__" = some (some (.builtin "BaseException.__getattribute__"))
  gg : findIn K (.ref C) "__getattr__" = some none
  noN : findIn K (.ref C) "index" = some none
  iC : findIn K (.ref C) "__init__" = some (some (.ref fI))
  tC : typeIn K (.ref fI) = some (.type "function")
  kC : keepIn K (.ref C) = true
  exC : subIn K (.ref C) (.type "BaseException") = some true
  tyC : typeIn K (.ref C) = some (.type "type")
  hdC : hasDictIn K C = true
  fn : ∃ (qn : Str) (oc : Value) (od : Option Addr) (doc pm : Value) (an : Option Addr) (cdv ct : Value) (osl : Array (Option Value)) (p1 p2 q1 q2 q3 q4 : Pos),
    K.lookup fI = some ⟨oc, od, .func (fnOf "__init__" qn (iA p1 p2) (iB q1 q2 q3 q4) iS .none .none doc pm an cdv ct), osl⟩ ∧ codeIn K cdv qn = true
theorem one_size (v : Value) : [v].length ≤ sizeLine := by
  rw [sizeLine_eq]
  exact (by decide : 1 ≤ 16777216)
theorem kept_but {K : Frag} {h h' : Heap} {x : Addr} (X : K.In h) (hx : K.lookup x = none) (k : ∀ b o, b ≠ x → h.get? b = some o → h'.get? b = some o) : K.In h' := fun a o e =>
  k a o (fun z => by rw [z, hx] at e; cases e) (X a o e)
theorem ldC {M : Model} {s : Shared} {name : Str} {scope : Scope} {L a : Addr} {cd : Value} {m : Str → Option Value} {x : Str} {pos : Pos} {v : Value} {Q : Value → Shared → Prop} {A : Around} {E : Value → Shared → Prop} (hn : s.heap.Ns L m) (hv : m x = some v) (h : Q v s)
    (hk : scope.kind = .function := by rfl) (hl : (envOfC name scope L a cd).kindOf x = some .local := by rfl) (hd : (x == ("__debug__" : Str)) = false := by decide) :
    wpAny M A (eval (.Name x pos) (envOfC name scope L a cd)) Q E s := wpAny_Name (wpAny_loadName_local hk hl hn hv h) hd
/-- what __init__ leaves of a fresh exception at x -/
structure InitEnd (h h' : Heap) (x C dx t1 : Addr) (v : Value) : Prop where
  keep : ∀ b o, b ≠ x → h.get? b = some o → h'.get? b = some o
  obj : h'.get? x = some { cls := .ref C, dict := some dx, data := .fields #[.ref t1, .none, .none, .none, .bool false, .none] }
  dbig : h.objs.size ≤ dx
  dne : dx ≠ x
  ns : h'.Ns1 dx (fun y => if y = "index" then some v else none)
/-- a made Low -/
structure OwnMade (h h' : Heap) (e C d : Addr) (v : Value) : Prop where
  keep : ∀ b o, h.get? b = some o → h'.get? b = some o
  new : h.objs.size ≤ e
  obj : ∃ oe vs, h'.get? e = some oe ∧ oe.cls = .ref C ∧ oe.dict = some d ∧ oe.data = .fields vs ∧ vs[1]? = some .none
  dbig : h.objs.size ≤ d
  dne : d ≠ e
  ns : h'.Ns1 d (fun y => if y = "index" then some v else none)
section
variable {prog : Program} {w : World} {A : Around} {E : Value → Shared → Prop} {R : Result → Shared → Prop} {s : Shared} {K : Frag} {mg : Str → Option Value} {nm : Str} {C fI : Addr}
theorem low_init (T : LowTxt K mg nm C fI) {x t0 : Addr} {v : Value} (X : K.In s.heap) (hlim : s.heap.NoLimit) (hx : s.heap.get? x = some (excO C t0)) (hnx : K.lookup x = none) (hroom : A.depth < recursionLimit)
    (hq : ∀ h' tk dx, InitEnd s.heap h' x C dx t0 v → R (.ok (.ret .none)) { s with heap := h', toks := tk }) :
    codeAny (model prog w) A (.call (.ref fI) ⟨[.ref x, v], []⟩) R s := by
  obtain ⟨qn, oc, od, doc, pm, an, cdv, ct, osl, p1, p2, q1, q2, q3, q4, ho, hcd⟩ := T.fn
  obtain ⟨nm, q, N, bs, bm, sn, sub, ab, col, dd, k0, k1, k2, k3, k5, hC, hbm⟩ := T.cls
  have hcl : clsIn K C = some { name := nm, bases := bs, mro := .ref C :: bm, ns := N, qualname := q, hasDict := true, slotNames := sn, subclasses := sub, abstract := ab, collection := col, hasDel := false } := by unfold clsIn; rw [hC] <;> rfl
  refine Att.call_fn (binds := [("self", .ref x), ("index", v)]) X hlim ho hcd hroom (BindsTo.of_eq (by first | rfl | with_unfolding_all rfl)) (by first | rfl | decide | with_unfolding_all rfl) (fun s₁ IC => ?_) rfl rfl rfl
  obtain ⟨h₁, tk₁, rfl⟩ := IC.toInCall.same
  have k : ∀ b o, s.heap.get? b = some o → h₁.get? b = some o := IC.toInCall.keep
  have hn := IC.toInCall.ns
  have hxL : s.heap.objs.size ≠ x := Nat.ne_of_gt (Heap.lt_size hx)
  have X₁ : K.In h₁ := X.keeps k
  have hx₁ := k _ _ hx
  -- self.by = by
  show wpAny _ _ (execs _ _) _ _ _
  refine wpAny_execs_cons (plainObj_wpAny_Assign_Attribute ?_)
  refine ldC (v := v) hn (by first | rfl | with_unfolding_all rfl | kernel_rfl) (ldC (v := .ref x) hn (by first | rfl | with_unfolding_all rfl | kernel_rfl) ?_)
  refine set_plain X₁ (ox := excO C t0) (od := none) ⟨hx₁, rfl, rfl, trivial⟩ T.sa ?_
  refine exc_osa X₁ hx₁ hcl (show refsVE (.ref C :: bm) = true from hbm) rfl T.noN (fun h₃ tk₃ dx k₃ dn dne hx₃ hn₃ => ?_)
  show wpAny _ _ (execs _ _) _ _ _
  have z : s.heap.objs.size < h₁.objs.size := hn.lt
  exact wpAny_execs_nil (hq h₃ tk₃ dx ⟨fun b o hb e => k₃ b o hb (k b o e), hx₃, Nat.le_of_lt (Nat.lt_of_lt_of_le z dn), dne, hn₃⟩)
theorem low_made (T : LowTxt K mg nm C fI) {v : Value} (X : K.In s.heap) (hlim : s.heap.NoLimit) (hroom : A.depth + 1 < recursionLimit)
    (hq : ∀ h' tk e d, OwnMade s.heap h' e C d v → R (.ok (.ret (.ref e))) { s with heap := h', toks := tk }) :
    codeAny (model prog w) A (.call (.ref C) ⟨[v], []⟩) R s := by
  obtain ⟨nm, q, N, bs, bm, sn, sub, ab, col, dd, k0, k1, k2, k3, k5, hC, hbm⟩ := T.cls
  obtain ⟨hp, g, dr, tk, os⟩ := s
  have k : ∀ b o, hp.get? b = some o → ((hp.push (kdv_tup [v])).push (excO C hp.objs.size)).get? b = some o := fun b o e => Heap.get?_push_of_some _ (Heap.get?_push_of_some _ e)
  have hget : ((hp.push (kdv_tup [v])).push (excO C hp.objs.size)).get? (hp.objs.size + 1) = some (excO C hp.objs.size) := by heap_get
  have hnx : K.lookup (hp.objs.size + 1) = none := by
    cases e : K.lookup (hp.objs.size + 1) with
    | none => rfl
    | some o =>
      have z : hp.get? (hp.objs.size + 1) = some o := X _ _ e
      exact absurd (Nat.lt_of_succ_lt (Heap.lt_size z)) (Nat.lt_irrefl _)
  refine call_own F.excBase_ValueError (fun X => refsVE_contains X bm hbm) (X _ _ hC) (looks_findIn X T.iC) (fun self => bind_fn X self T.tC) (one_size v) ?_
  refine low_init (s := ⟨(hp.push (kdv_tup [v])).push (excO C hp.objs.size), g, dr, tk, os⟩) T (X.keeps k) (hlim.keeps k) hget hnx ?_ fun h' tk' dx ⟨k', hx, dn, dne, hns⟩ => ?_
  · show A.depth + 1 < recursionLimit
    exact hroom
  · have old : ∀ b o, hp.get? b = some o → h'.get? b = some o := fun b o e => k' b o (Nat.ne_of_lt (Nat.lt_succ_of_lt (Heap.lt_size e))) (k b o e)
    have z : hp.objs.size + 1 + 1 ≤ dx := by
      first
        | (simpa only [Heap.size_push] using dn)
        | exact dn
        | (have q := dn; rw [Heap.size_push, Heap.size_push] at q; exact q)
    exact ⟨rfl, hq h' tk' (hp.objs.size + 1) dx ⟨old, Nat.le_succ _, ⟨_, _, hx, rfl, rfl, rfl, rfl⟩, Nat.le_trans (Nat.le_trans (Nat.le_succ _) (Nat.le_succ _)) z, dne, hns⟩⟩
end
end LowIx
end PySem
namespace L2
open PySem PySem.Spec PyProof.Rows
theorem relO_low_ix {v : V} {v' : Value} (r : RelV v v') (f : Str) : RelO (List.lookup f [(("index" : Str), v)]) (if f = "index" then some v' else none) := by
  by_cases hw : f = "index"
  · subst hw
    rw [if_pos rfl]
    have q : List.lookup ("index" : Str) [(("index" : Str), v)] = some v := by simp [List.lookup]
    rw [q]
    exact r
  · rw [if_neg hw]
    have qw : (f == ("index" : Str)) = false := by simpa using hw
    have q2 : List.lookup f [(("index" : Str), v)] = none := by simp [List.lookup, qw]
    rw [q2]
    trivial
section
variable {X : Cx} {nm : Str} {C fI : Addr}
/-- Low(e) -/
def tMkLow_ix (C : Addr) (ta : TA) : St → Hp → XK → Prop := fun σ H Q => ta σ H fun vs H1 => ∃ v, vs = [v] ∧ ∀ d, H1 d = none → Q (.ref C) (some d) (upd H1 d (.xd [(("index" : Str), v)]))
theorem pmk_low_ix {a : Expr} {ta : TA} {p pos : Pos} {k : Nat} (T : PySem.LowIx.LowTxt X.K X.mg nm C fI) (hr : Room k X.A) (ha : PA X [a] ta) (hg : Gl X nm := by rfl) (hdb : (nm == ("__debug__" : Str)) = false := by decide +kernel)
    (he : starEach (a :: []) X.env = (false, eval a X.env) :: starEach [] X.env := by rfl) (hpl : (backTo pos (starEach [] X.env)).any (·.1) = false := by rfl) :
    PMk X (.Call (.Name nm p) [a] [] pos) (tMkLow_ix C ta) := by
  intro pins s σ H Q I h
  refine wpAny_Call_Name_kw (ld_glob I hg T.gC ?_ hdb)
  refine PySem.W.callWith_K (h₀ := X.base) I.ok.mod.kin T.kC (thn (ha.run pos pins s σ H _ I h) fun us s1 hh => ?_) he hpl
  obtain ⟨vs, H1, I1, r1, v, ev, q1⟩ := hh
  subst ev
  refine ⟨I1.kIn, ?_⟩
  cases r1 with
  | cons rv rn =>
    rename_i v' us'
    cases rn
    show wpAny _ _ (call (.ref C) [v']) _ _ _
    have hlim := I1.nolimit
    obtain ⟨hp, g, dr, tk, os⟩ := s1
    refine wpAny_call (PySem.LowIx.low_made T I1.kIn hlim (by have := hr.dp; omega) fun h' tk' e d M => ?_)
    show MkP X pins σ Q (.ref e) ⟨h', g, dr, tk', os⟩
    obtain ⟨oe, fv, hoe, hc, hd, hdat, h1⟩ := M.obj
    have hns := M.ns
    obtain ⟨G', g1, g2⟩ := restrict h' fun b => decide (b ≠ e)
    have gk : ∀ b, b ≠ e → G'.get? b = h'.get? b := fun b hb => g1 b (decide_eq_true hb)
    have ge : G'.get? e = none := g2 e (by simp)
    have old : ∀ b o, hp.get? b = some o → G'.get? b = some o := fun b o q => (gk b (Nat.ne_of_lt (Nat.lt_of_lt_of_le (Heap.lt_size q) M.new))).trans (M.keep b o q)
    have ob : ObjOk X.prog X.w (upd H1 d (.xd [(("index" : Str), v)])) G' d (.xd [(("index" : Str), v)]) :=
      ⟨_, hns.at (fun o q => (gk d M.dne).trans q), fun f => relO_low_ix rv f⟩
    have J : Inv X pins σ (upd H1 d (.xd [(("index" : Str), v)])) ⟨G', g, dr, tk', os⟩ := I1.laid (t' := tk') old M.dbig ob
    refine ⟨e, oe, fv, ⟨G', g, dr, tk', os⟩, _, .ref C, some d, rfl, J, fun b o q => ?_, ge, hoe, ⟨hc, hd⟩, hdat, h1, ?_, rfl, I1.bare, raises_own T.exC T.tyC, q1 d (I1.hok.fresh M.dbig)⟩
    · by_cases hb : b = e
      · have q' : G'.get? b = some o := q
        rw [hb, ge] at q'; cases q'
      · exact (gk b hb).symm.trans q
    · rw [upd_ne (Ne.symm M.dne)]
      exact I1.hok.fresh M.new
/-- raise Low(e) -/
def tRaiseLow_ix (C : Addr) (W : WX) (ta : TA) : TS := fun _ σ H => tMkLow_ix C ta σ H fun cls d H' => W cls d σ H'
theorem ps_raiseLow_ix {a : Expr} {ta : TA} {W : WX} {p pos pos2 : Pos} {k : Nat} (hc : X.calm = true) (T : PySem.LowIx.LowTxt X.K X.mg nm C fI) (hr : Room k X.A) (tk : Takes X W) (ha : PA X [a] ta) (hg : Gl X nm := by rfl) (hdb : (nm == ("__debug__" : Str)) = false := by decide +kernel)
    (he : starEach (a :: []) X.env = (false, eval a X.env) :: starEach [] X.env := by rfl) (hpl : (backTo pos (starEach [] X.env)).any (·.1) = false := by rfl) :
    PS X (.Raise (some (.Call (.Name nm p) [a] [] pos)) none pos2) (tRaiseLow_ix C W ta) := ps_raise hc tk (pmk_low_ix T hr ha hg hdb he hpl)
/-- low.by, low the exception that the suite holds (at a; its class cls, its dict d) ix -/
def tByLow_ix (K : PySem.W.Frag) (mg : Str → Option Value) (a : Addr) (cls : Value) (d : Option Addr) (te : TE) : TE := fun σ H Q => te σ H fun x H1 => x = .ref a ∧ ∃ (nm : Str) (C fI : Addr), PySem.LowIx.LowTxt K mg nm C fI ∧ cls = .ref C ∧ ∃ (dd : Addr) (v : V), d = some dd ∧ H1 dd = some (.xd [(("index" : Str), v)]) ∧ Q v H1
theorem pe_byLow_ix {a : Addr} {oe : Obj} {cls : Value} {d : Option Addr} {pn : List (Addr × Obj)} {e : Expr} {te : TE} {pos : Pos} (hz : Zc cls d oe) (hf : ∃ vs, oe.data = .fields vs) (he : PE (X.suite a ((a, oe) :: pn)) e te)
    (hb : attributeBase e "index" X.env (eval e X.env) = eval e X.env := by rfl) :
    PE (X.suite a ((a, oe) :: pn)) (.Attribute e "index" pos) (tByLow_ix X.K X.mg a cls d te) := by
  refine ⟨fun pins s σ H Q I h => ?_⟩
  refine attr_of hb (thn (he.run pins s σ H _ I h) fun u s1 hh => ?_)
  obtain ⟨x, H1, I1, rx, ex, nm, C, fI, T, ec, dd, v, ed, ea, q⟩ := hh
  subst ex
  obtain rfl : u = Value.ref a := rx
  subst ec
  subst ed
  obtain ⟨ha, _⟩ := I1.pin (a, oe) (List.mem_append_left _ List.mem_cons_self)
  obtain ⟨vs, hd⟩ := hf
  have hx : ObjOk X.prog X.w H1 s1.heap dd (.xd [(("index" : Str), v)]) := I1.hok dd _ ea
  obtain ⟨mA, hns, hr⟩ := hx
  obtain ⟨od, ho, hl⟩ := lookIn_ns hns
  have l : List.lookup ("index" : Str) [(("index" : Str), v)] = some v := by simp [List.lookup]
  obtain ⟨u, hu, ru⟩ := RelO.some_of (v := v) (o := mA "index") (by rw [← l]; exact hr "index")
  have J : PySem.W.InstAt s1.heap a oe C (some od) := ⟨ha, hz.1, by unfold PySem.W.notCls; rw [hd] <;> rfl, by rw [hz.2]; exact ho⟩
  exact HandSPX.exc_get I1.kIn J T.ga T.gg T.exC (PySem.W.findObj_own T.hdC T.noN rfl (by rw [hl, hu])) (handed_of ru) ⟨v, H1, I1.tok _, ru, q⟩
end
end L2
end P_DLxi
section P_DLex
set_option Elab.async false
set_option linter.all false
set_option maxRecDepth 100000
set_option maxHeartbeats 2000000
/-! What may raise, of any own class with one field: results, readings, rules. -/
namespace DL
open PySem PySem.Spec PyProof.Rows L2
/-- a result; exc: the class by its number, the field, the slots -/
inductive Rx (α : Type) where
  | ok (a : α) (M : Mem) | exc (c : Nat) (x : D) (s : Sl) (M : Mem) | bad
def Rx.bind {α β : Type} (r : Rx α) (f : α → Mem → Rx β) : Rx β := match r with
  | .ok a M => f a M
  | .exc c x s M => .exc c x s M
  | .bad => .bad
def Rx.of {α : Type} : Res α → Rx α
  | .ok a M => .ok a M
  | .bad => .bad
/-- the slots are told -/
def Rx.at_ {α : Type} (r : Rx α) (s : Sl) : Rx α := match r with
  | .exc c x _ M => .exc c x s M
  | r => r
section
variable {K : Fr} {Cs : List (Addr × Str)} {E : XK} {F F1 : Hp} {μ μ1 : List Addr} {H H1 : Hp}
/-- k of what is told; else the error is wished for -/
def XW {α : Type} (K : Fr) (Cs : List (Addr × Str)) (E : XK) (F : Hp) (μ : List Addr) (H : Hp) (r : Rx α) (k : α → Mem → Prop) : Prop := match r with
  | .ok x M' => k x M'
  | .exc c x _ M' => ∀ F' μ' H' d v C a, Cs[c]? = some (C, a) → StepE F μ H F' μ' H' → Sim K F' μ' M' H' → F' d = some (.xd [(a, v)]) → Rep K F' x v → E (.ref C) (some d) H'
  | .bad => False
theorem XW.bind {α β : Type} {r : Rx α} {f : α → Mem → Rx β} {k : β → Mem → Prop} (h : XW K Cs E F μ H (r.bind f) k) : XW K Cs E F μ H r (fun x M1 => XW K Cs E F μ H (f x M1) k) := by
  cases r <;> exact h
theorem XW.mono {α : Type} {r : Rx α} {k k' : α → Mem → Prop} (h : XW K Cs E F μ H r k) (i : ∀ x M, k x M → k' x M) : XW K Cs E F μ H r k' := by
  cases r with
  | ok x M => exact i x M h
  | exc c x s M => exact h
  | bad => exact h
theorem XW.step {α : Type} {r : Rx α} {k : α → Mem → Prop} (st : StepE F μ H F1 μ1 H1) (h : XW K Cs E F μ H r k) : XW K Cs E F1 μ1 H1 r k := by
  cases r with
  | ok x M => exact h
  | exc c x s M => exact fun F' μ' H' d v C a e st' S hd rv => h F' μ' H' d v C a e (st.transE st') S hd rv
  | bad => exact h
theorem XW.of {α : Type} {r : Res α} {k : α → Mem → Prop} (h : XW K Cs E F μ H (Rx.of r) k) : ∃ x M, r = .ok x M ∧ k x M := by
  cases r with
  | ok x M => exact ⟨x, M, rfl, h⟩
  | bad => exact h.elim
theorem XW.at_ {α : Type} {r : Rx α} {s : Sl} {k : α → Mem → Prop} (h : XW K Cs E F μ H (r.at_ s) k) : XW K Cs E F μ H r k := by
  cases r <;> exact h
end
theorem ifx_ff {A B : Prop} (h : B) : (if false = true then A else B) := by rw [if_neg Bool.false_ne_true]; exact h
/-! ### expressions -/
def LEx (fr : Bool) (K : Fr) (Cs : List (Addr × Str)) (E : L2.St → XK) (f : Sl → Mem → Rx Val) : TE := fun σ H Q => ∃ δ M F μ, Sim K F μ M H ∧ RepS K F μ δ σ ∧ XW K Cs (E σ) F μ H (f δ M) fun x M' =>
  ∀ F' μ' H' v, StepE F μ H F' μ' H' → Sim K F' μ' M' H' → PostV fr K F' μ' H H' x v → Q v H'
def LDx (K : Fr) (Cs : List (Addr × Str)) (E : L2.St → XK) (f : Sl → Mem → Rx (List D)) : TA := fun σ H Q => ∃ δ M F μ, Sim K F μ M H ∧ RepS K F μ δ σ ∧ XW K Cs (E σ) F μ H (f δ M) fun x M' =>
  ∀ F' μ' H' v, StepE F μ H F' μ' H' → Sim K F' μ' M' H' → Reps K F' x v → Q v H'
/-- what a def promises that may raise -/
def spX2 (fr : Bool) (K : Fr) (Cs : List (Addr × Str)) (n : Nat) (g : List Val → Mem → Rx Val) : Sp := fun vs H Q E => vs.length = n ∧ ∃ xs M F μ, Sim K F μ M H ∧ RepVs K F μ xs vs ∧ XW K Cs E F μ H (g xs M) fun x M' =>
  ∀ F' μ' H' v, StepE F μ H F' μ' H' → Sim K F' μ' M' H' → PostV fr K F' μ' H H' x v → Q v H'
/-- as it is, where nothing is raised -/
def xl {α : Type} (f : Sl → Mem → Res α) : Sl → Mem → Rx α := fun s M => Rx.of (f s M)
def xCall (g : List Val → Mem → Rx Val) (fl : Sl → Mem → Res (List Val)) : Sl → Mem → Rx Val := fun s M => (Rx.of (fl s M)).bind fun vs M1 => g vs M1
def xCallN (n m : Nat) (ord : {α : Type} → List α → List α → List α) (g : List Val → Mem → Rx Val) (fl fk : Sl → Mem → Res (List Val)) : Sl → Mem → Rx Val := fun s M => (Rx.of (fl s M)).bind fun vs M1 => (Rx.of (fk s M1)).bind fun ws M2 => if vs.length = n ∧ ws.length = m then g (ord vs ws) M2 else .bad
def xIfE (fT : Sl → Mem → Res Bool) (fa fb : Sl → Mem → Rx Val) : Sl → Mem → Rx Val := fun s M => (Rx.of (fT s M)).bind fun t M1 => if t then fa s M1 else fb s M1
def xDNil : Sl → Mem → Rx (List D) := fun _ M => .ok [] M
def xDCons (fa : Sl → Mem → Rx Val) (fl : Sl → Mem → Rx (List D)) : Sl → Mem → Rx (List D) := fun s M => (fa s M).bind fun v M1 => match v with
  | .d x => (fl s M1).bind fun xs M2 => .ok (x :: xs) M2
  | _ => .bad
def xTup (fl : Sl → Mem → Rx (List D)) : Sl → Mem → Rx Val := fun s M => (fl s M).bind fun xs M1 => if xs.length ≤ big then .ok (.d (.tup xs)) M1 else .bad
def xLst (fl : Sl → Mem → Rx (List D)) : Sl → Mem → Rx Val := fun s M => (fl s M).bind fun xs M1 => if xs.length ≤ big then .ok (.d (.lst xs)) M1 else .bad
section
variable {X : Cx} {Cs : List (Addr × Str)} {E : L2.St → XK} {f fa fb : Sl → Mem → Rx Val} {fd : Sl → Mem → Rx (List D)} {fl fk : Sl → Mem → Res (List Val)} {a b c e : Expr} {es : List Expr} {kws : List Keyword} {pos : Pos} {fr : Bool}
theorem px_lift {f : Sl → Mem → Res Val} (h : PE X e (LE fr X.K f)) : PE X e (LEx fr X.K Cs E (xl f)) :=
  h.imp fun σ H Q ⟨δ, M, F, μ, S, R, x⟩ => by
    obtain ⟨v, M1, e, k⟩ := XW.of x
    exact ⟨δ, M, F, μ, v, M1, S, R, e, k⟩
theorem px_frz (h : PE X e (LEx true X.K Cs E f)) : PE X e (LEx false X.K Cs E f) :=
  h.imp fun σ H Q ⟨δ, M, F, μ, S, R, x⟩ => ⟨δ, M, F, μ, S, R, x.mono fun v M1 k F' μ' H' u st S' p => by
    obtain ⟨F'', st', S'', r⟩ := PostV.freeze st S' p
    exact k F'' μ' H' u st' S'' r⟩
theorem liftCallX {K : Fr} {n : Nat} {g : List Val → Mem → Rx Val} (hg : ∀ xs M, g xs M ≠ .bad → xs.length = n) {σ : L2.St} {H : Hp} {Q : VK} (h : LEx fr K Cs E (xCall g fl) σ H Q) : tCallS (spX2 fr K Cs n g) E (LA K fl) σ H Q := by
  obtain ⟨δ, M, F, μ, S, R, x⟩ := h
  obtain ⟨vs, M1, e1, x1⟩ := XW.of x.bind
  refine ⟨δ, M, F, μ, vs, M1, S, R, e1, fun F1 μ1 H1 ws st1 S1 r1 => ⟨?_, vs, M1, F1, μ1, S1, r1, ?_⟩⟩
  · rw [← r1.length]
    exact hg vs M1 fun z => by rw [z] at x1; exact x1
  · refine (x1.step st1).mono fun v M2 k F' μ' H' u st S' p => k F' μ' H' u (st1.transE st) S' (PostV.back (fun a h => st1.up a h) p)
theorem px_call {n k : Nat} {f : Addr} {fn : FuncData} {x : Str} {st : Stmt} {p : Pos} {ps : List Str} {g : List Val → Mem → Rx Val} (hl : ∀ xs M, g xs M ≠ .bad → xs.length = n) (F : Fun X.K x x st f fn)
    (G : FnOk X.prog X.w X.K X.mg X.base (L2.CX X.prog X.w) k f fn ps (spX2 fr X.K Cs n g)) (hr : Room k X.A) (hm : X.mg x = some (.ref f)) (hb : Binds X.K fn ps []) (hx : ∀ σ, PassesAt (L2.CX X.prog X.w) X σ (E σ)) (ha : PA X (e :: es) (LA X.K fl)) (hg : Gl X x := by rfl)
    (hpl : (e :: es).all plainArg = true := by rfl) (hdb : (x == ("__debug__" : Str)) = false := by decide +kernel) : PE X (.Call (.Name x p) (e :: es) [] pos) (LEx fr X.K Cs E (xCall g fl)) := by
  rw [List.all_cons, Bool.and_eq_true] at hpl
  exact (pe_callS G hr hg hm F.kp hb hx ha hdb (star_plain hpl.1 es X.env) (star_any hpl.2)).imp fun _ _ _ h => liftCallX hl h
theorem px_if {t : Expr} {fT : Sl → Mem → Res Bool} (hc : PT X t (LT X.K fT)) (ha : PE X a (LEx fr X.K Cs E fa)) (hb : PE X b (LEx fr X.K Cs E fb)) : PE X (.IfExp t a b pos) (LEx fr X.K Cs E (xIfE fT fa fb)) := by
  refine (pe_ifExp hc ha hb).imp fun σ H Q ⟨δ, M, F, μ, S, R, x⟩ => ?_
  obtain ⟨t, M1, e1, x1⟩ := XW.of x.bind
  refine ⟨δ, M, F, μ, t, M1, S, R, e1, fun F1 μ1 H1 st1 S1 => ?_⟩
  have fin : ∀ {f : Sl → Mem → Rx Val}, XW X.K Cs (E σ) F μ H (f δ M1) (fun x M' => ∀ F' μ' H' v, StepE F μ H F' μ' H' → Sim X.K F' μ' M' H' → PostV fr X.K F' μ' H H' x v → Q v H') → LEx fr X.K Cs E f σ H1 Q := fun {f} x1 =>
    ⟨δ, M1, F1, μ1, S1, R.mono st1.fr st1.whole, (x1.step st1).mono fun v M2 k F' μ' H' u st S' p => k F' μ' H' u (st1.transE st) S' (PostV.back (fun a h => st1.up a h) p)⟩
  cases t with
  | true => rw [if_pos rfl] at x1; exact if_tt (fin x1)
  | false => rw [if_neg Bool.false_ne_true] at x1; exact ifx_ff (fin x1)
theorem px_dnil : PA X [] (LDx X.K Cs E xDNil) :=
  pa_nil.imp fun σ H Q ⟨δ, M, F, μ, S, R, k⟩ => k F μ H [] (Step.refl _ _ _ _) S .nil
theorem px_dcons (ha : PE X e (LEx false X.K Cs E fa)) (hr : PA X es (LDx X.K Cs E fd)) (hp : plainArg e = true := by rfl) : PA X (e :: es) (LDx X.K Cs E (xDCons fa fd)) := by
  refine (pa_cons ha hr (star_plain hp es X.env)).imp fun σ H Q ⟨δ, M, F, μ, S, R, x⟩ => ?_
  refine ⟨δ, M, F, μ, S, R, x.bind.mono fun v M1 x1 F1 μ1 H1 v1 st1 S1 r1 => ?_⟩
  cases v with
  | ref n => exact x1.elim
  | d y =>
    refine ⟨δ, M1, F1, μ1, S1, R.mono st1.fr st1.whole, ((XW.bind x1).step st1).mono fun vs M2 x2 F2 μ2 H2 vs2 st2 S2 r2 => ?_⟩
    exact x2 F2 μ2 H2 _ (st1.transE st2) S2 (.cons (Rep.mono st2.fr r1) r2)
theorem px_tup {k : Nat} (h : PA X es (LDx X.K Cs E fd)) : PE X (.Tuple es k pos) (LEx false X.K Cs E (xTup fd)) := by
  refine (pe_tup h).imp fun σ H Q ⟨δ, M, F, μ, S, R, x⟩ => ?_
  refine ⟨δ, M, F, μ, S, R, x.bind.mono fun xs M1 x1 F1 μ1 H1 vs st1 S1 r1 => ?_⟩
  by_cases hl : xs.length ≤ big
  · rw [if_pos hl] at x1
    refine ⟨by rw [← r1.length, sizeLine_eq]; exact hl, fun p hp => ?_⟩
    have n := NewF.alloc S1.sub hp (.tup vs)
    exact x1 _ μ1 _ _ (st1.transE n.step) (n.sim S1) (Rep.tup hl upd_same (Reps.mono n.fr r1))
  · rw [if_neg hl] at x1; exact x1.elim
theorem px_lst (h : PA X es (LDx X.K Cs E fd)) : PE X (.List es pos) (LEx true X.K Cs E (xLst fd)) := by
  refine (pe_lst h).imp fun σ H Q ⟨δ, M, F, μ, S, R, x⟩ => ?_
  refine ⟨δ, M, F, μ, S, R, x.bind.mono fun xs M1 x1 F1 μ1 H1 vs st1 S1 r1 => ?_⟩
  by_cases hl : xs.length ≤ big
  · rw [if_pos hl] at x1
    refine ⟨by rw [← r1.length, sizeLine_eq]; exact hl, fun p hp => ?_⟩
    have n := NewF.alloc S1.sub hp (.lst vs)
    have n2 : NewF F1 H1 F1 (upd H1 p (.lst vs)) := ⟨Sub.refl _, S1.sub.trans n.keep, n.keep, fun a o h => .inl h⟩
    refine x1 F1 μ1 _ _ (st1.transE n2.step) (n2.sim S1) ⟨p, xs, vs, rfl, rfl, upd_same, ?_, fun z => S1.tracked z hp, st1.up p hp, hl, r1⟩
    cases q : F1 p with
    | none => rfl
    | some o => rw [S1.sub p o q] at hp; cases hp
  · rw [if_neg hl] at x1; exact x1.elim
end
end DL
end P_DLex
section P_DLey
set_option Elab.async false
set_option linter.all false
set_option maxRecDepth 100000
set_option maxHeartbeats 2000000
/-! Statements and defs that may raise. -/
namespace DL
open PySem PySem.Spec PyProof.Rows L2
section
variable {b : Nat} {K : Fr} {Cs : List (Addr × Str)} {E : L2.St → XK} {F F1 : Hp} {μ μ1 : List Addr} {H H1 : Hp} {D : Ends} {δ : Sl} {σ : L2.St}
def XS (b : Nat) (K : Fr) (Cs : List (Addr × Str)) (E : L2.St → XK) (F : Hp) (μ : List Addr) (H : Hp) (D : Ends) (r : Rx Flow) : Prop := match r with
  | .ok x M' => LSk b K D F μ H M' x
  | .exc c x s M' => ∀ F' μ' H' σ' d v C a, b ≤ μ'.length → Cs[c]? = some (C, a) → Step b F μ H F' μ' H' → Sim K F' μ' M' H' → RepS K F' μ' s σ' → F' d = some (.xd [(a, v)]) → Rep K F' x v → E σ' (.ref C) (some d) H'
  | .bad => False
def LSx (b : Nat) (K : Fr) (Cs : List (Addr × Str)) (E : L2.St → XK) (f : Sl → Mem → Rx Flow) : TS := fun D σ H => ∃ δ M F μ, b ≤ μ.length ∧ Sim K F μ M H ∧ RepS K F μ δ σ ∧ XS b K Cs E F μ H D (f δ M)
theorem XS.step {r : Rx Flow} (st : Step b F μ H F1 μ1 H1) (h : XS b K Cs E F μ H D r) : XS b K Cs E F1 μ1 H1 D r := by
  cases r with
  | ok x M => exact LSk.back st h
  | exc c x s M => exact fun F' μ' H' σ' d v C a hb e st' S R hd rv => h F' μ' H' σ' d v C a hb e (st.trans st') S R hd rv
  | bad => exact h
theorem XS.ofW {α : Type} {r : Rx α} {g : α → Mem → Rx Flow} (hb : b ≤ μ.length) (R : RepS K F μ δ σ) (h : XS b K Cs E F μ H D ((r.at_ δ).bind g)) : XW K Cs (E σ) F μ H r (fun x M1 => XS b K Cs E F μ H D (g x M1)) := by
  cases r with
  | ok x M => exact h
  | exc c x s M => exact fun F' μ' H' d v C a e st S hd rv => h F' μ' H' σ d v C a (Nat.le_trans hb st.leE) e (Step.mono st hb) S (R.mono st.fr st.whole) hd rv
  | bad => exact h
theorem XS.of {α : Type} {r : Res α} {g : α → Mem → Rx Flow} (h : XS b K Cs E F μ H D ((Rx.of r).bind g)) : ∃ x M, r = .ok x M ∧ XS b K Cs E F μ H D (g x M) := by
  cases r with
  | ok x M => exact ⟨x, M, rfl, h⟩
  | bad => exact h.elim
end
def xlS (f : Sl → Mem → Res Flow) : Sl → Mem → Rx Flow := fun s M => Rx.of (f s M)
def xAsg (fa : Sl → Mem → Rx Val) (i : Nat) : Sl → Mem → Rx Flow := fun s M => ((fa s M).at_ s).bind fun v M1 => if i < s.length then .ok (.nx (s.set i (some v))) M1 else .bad
def xEx (fa : Sl → Mem → Rx Val) : Sl → Mem → Rx Flow := fun s M => ((fa s M).at_ s).bind fun _ M1 => .ok (.nx s) M1
def xRet (fa : Sl → Mem → Rx Val) : Sl → Mem → Rx Flow := fun s M => ((fa s M).at_ s).bind fun v M1 => .ok (.ret v) M1
def xRaise (c : Nat) (fa : Sl → Mem → Res Val) : Sl → Mem → Rx Flow := fun s M => (Rx.of (fa s M)).bind fun v M1 => match v with
  | .d x => .exc c x s M1
  | _ => .bad
def xIte (fT : Sl → Mem → Res Bool) (f g : Sl → Mem → Rx Flow) : Sl → Mem → Rx Flow := fun s M => (Rx.of (fT s M)).bind fun t M1 => if t then f s M1 else g s M1
def xPass : Sl → Mem → Rx Flow := fun s M => .ok (.nx s) M
def xSeq (f g : Sl → Mem → Rx Flow) : Sl → Mem → Rx Flow := fun s M => (f s M).bind fun x M1 => match x with
  | .nx s1 => g s1 M1
  | .ret v => .ok (.ret v) M1
  | .brk s1 => .ok (.brk s1) M1
  | .cont s1 => .ok (.cont s1) M1
def xLoop (f : Sl → Mem → Rx Flow) (t : Tg) : List D → Sl → Mem → Rx Flow
  | [], s, M => .ok (.nx s) M
  | x :: xs, s, M => match bindTg t x s with
    | some s1 => (f s1 M).bind fun fl M2 => match fl with
      | .nx s2 => xLoop f t xs s2 M2
      | .cont s2 => xLoop f t xs s2 M2
      | .brk s2 => .ok (.nx s2) M2
      | .ret v => .ok (.ret v) M2
    | none => .bad
def xFor (t : Tg) (fI : Sl → Mem → Res (List D)) (f : Sl → Mem → Rx Flow) : Sl → Mem → Rx Flow := fun s M => (Rx.of (fI s M)).bind fun xs M1 => xLoop f t xs s M1
section
variable {X : Cx} {bs : Nat} {Cs : List (Addr × Str)} {E : L2.St → XK} {fa : Sl → Mem → Rx Val} {f g : Sl → Mem → Rx Flow} {e c : Expr} {y : Str} {pos : Pos}
theorem px_S {st : Stmt} {f : Sl → Mem → Res Flow} (h : PS X st (LS bs X.K f)) : PS X st (LSx bs X.K Cs E (xlS f)) :=
  h.imp fun D σ H ⟨δ, M, F, μ, hb, S, R, x⟩ => by
    unfold xlS at x
    cases hf : f δ M with
    | ok fl M' => rw [hf] at x; exact ⟨δ, M, F, μ, fl, M', hb, S, R, hf, x⟩
    | bad => rw [hf] at x; exact x.elim
theorem px_Ss {st : List Stmt} {f : Sl → Mem → Res Flow} (h : PSs X st (LS bs X.K f)) : PSs X st (LSx bs X.K Cs E (xlS f)) :=
  h.imp fun D σ H ⟨δ, M, F, μ, hb, S, R, x⟩ => by
    unfold xlS at x
    cases hf : f δ M with
    | ok fl M' => rw [hf] at x; exact ⟨δ, M, F, μ, fl, M', hb, S, R, hf, x⟩
    | bad => rw [hf] at x; exact x.elim
theorem px_asgn (i : Nat) {py : Pos} (hN : X.N.Nodup) (he : PE X e (LEx false X.K Cs E fa)) (hi : X.N[i]? = some y := by rfl) (hx : Loc X.env.scope y := by first | exact Or.inl rfl | exact Or.inr rfl) (hs : swapsWith e (some (.Name y py)) pos.line X.env = pure false := by rfl) (hf : X.fn y = true ∨ X.env.scope.names.lookup y = some .local := by first | exact .inl rfl | exact .inr rfl) :
    PS X (.Assign [.Name y py] e pos) (LSx bs X.K Cs E (xAsg fa i)) := by
  refine (ps_set hN hi hx he hs hf).imp fun D σ H ⟨δ, M, F, μ, hb, S, R, x⟩ => ?_
  refine ⟨δ, M, F, μ, S, R, (XS.ofW hb R x).mono fun v M1 x1 F1 μ1 H1 w st S1 r => ?_⟩
  split at x1
  · exact x1 F1 μ1 H1 _ (Nat.le_trans hb st.leE) (Step.mono st hb) S1 ((R.mono st.fr st.whole).put r)
  · exact x1.elim
theorem px_ex (he : PE X e (LEx false X.K Cs E fa)) (hs : swapsWith e none pos.line X.env = pure false := by rfl) : PS X (.Expr e pos) (LSx bs X.K Cs E (xEx fa)) := by
  refine (ps_expr he hs).imp fun D σ H ⟨δ, M, F, μ, hb, S, R, x⟩ => ?_
  refine ⟨δ, M, F, μ, S, R, (XS.ofW hb R x).mono fun v M1 x1 F1 μ1 H1 w st S1 r => ?_⟩
  exact x1 F1 μ1 H1 σ (Nat.le_trans hb st.leE) (Step.mono st hb) S1 (R.mono st.fr st.whole)
theorem px_ret (he : PE X e (LEx false X.K Cs E fa)) : PS X (.Return (some e) pos) (LSx bs X.K Cs E (xRet fa)) := by
  refine (ps_ret he).imp fun D σ H ⟨δ, M, F, μ, hb, S, R, x⟩ => ?_
  refine ⟨δ, M, F, μ, S, R, (XS.ofW hb R x).mono fun v M1 x1 F1 μ1 H1 w st S1 r => ?_⟩
  exact x1 F1 μ1 H1 w (Nat.le_trans hb st.leE) (Step.mono st hb) S1 r
theorem px_ite {fT : Sl → Mem → Res Bool} {s1 s2 : List Stmt} (hc : PT X c (LT X.K fT)) (h1 : PSs X s1 (LSx bs X.K Cs E f)) (h2 : PSs X s2 (LSx bs X.K Cs E g)) : PS X (.If c s1 s2 pos) (LSx bs X.K Cs E (xIte fT f g)) := by
  refine (ps_if hc h1 h2).imp fun D σ H ⟨δ, M, F, μ, hb, S, R, x⟩ => ?_
  obtain ⟨t, M1, e1, x1⟩ := XS.of x
  refine ⟨δ, M, F, μ, t, M1, S, R, e1, fun F1 μ1 H1 st S1 => ?_⟩
  have hb1 := Nat.le_trans hb st.leE
  have R1 := R.mono st.fr st.whole
  cases t with
  | true => rw [if_pos rfl] at x1; exact if_tt ⟨δ, M1, F1, μ1, hb1, S1, R1, x1.step (Step.mono st hb)⟩
  | false => rw [if_neg Bool.false_ne_true] at x1; exact ifx_ff ⟨δ, M1, F1, μ1, hb1, S1, R1, x1.step (Step.mono st hb)⟩
theorem px_snil : PSs X [] (LSx bs X.K Cs E xPass) :=
  pss_nil.imp fun D σ H ⟨δ, M, F, μ, hb, S, R, x⟩ => x F μ H σ hb (Step.refl _ _ _ _) S R
theorem px_scons {st : Stmt} {r : List Stmt} (h1 : PS X st (LSx bs X.K Cs E f)) (h2 : PSs X r (LSx bs X.K Cs E g)) : PSs X (st :: r) (LSx bs X.K Cs E (xSeq f g)) := by
  refine (pss_cons h1 h2).imp fun D σ H ⟨δ, M, F, μ, hb, S, R, x⟩ => ?_
  refine ⟨δ, M, F, μ, hb, S, R, ?_⟩
  unfold xSeq at x
  cases hf : f δ M with
  | bad => rw [hf] at x; exact x.elim
  | exc c z s M1 => rw [hf] at x; exact x
  | ok y M1 =>
    rw [hf] at x
    cases y with
    | nx s1 => exact fun F1 μ1 H1 σ1 hb1 st S1 R1 => ⟨s1, M1, F1, μ1, hb1, S1, R1, XS.step st x⟩
    | ret v => exact x
    | brk s1 => exact x
    | cont s1 => exact x
theorem px_for {body : List Stmt} {o : List Nat} {t : Tg} {tg iter : Expr} {fI : Sl → Mem → Res (List D)} (hp : PassesOwn (model X.prog X.w) X.A X.env X.xe) (hi : PI X tg iter (LI X.K fI)) (hg : PG X tg (LG X.K t o)) (hb : PSs X body (LSx bs X.K Cs E f)) (hc : X.calm = true := by rfl) (hs : ∀ x, foldedSetIterable iter X.env x = pure x := by intro _; rfl) :
    PS X (.For tg iter body [] pos) (LSx bs X.K Cs E (xFor t fI f)) := by
  refine (ps_for hp hc hi hg hb hs).imp fun D σ H ⟨δ, M, F, μ, hbs, S, R, x⟩ => ?_
  obtain ⟨xs, M1, e1, x1⟩ := XS.of x
  refine ⟨δ, M, F, μ, xs, M1, S, R, e1, fun F1 μ1 H1 J st1 S1 its => ?_⟩
  have k1 := XS.step (Step.mono st1 hbs) x1
  have wk : Walk J xs.length (fun H => Sub F1 H) (fun i H x H' => Sub F1 H ∧ J.yld i H x H') := ⟨fun i H hi g => its.goes i H hi g, its.stops, fun i H x H' hi g y => ⟨g, y⟩⟩
  refine for_it wk (fun i σi Hi => ∃ δi Fi μi Mi, bs ≤ μi.length ∧ Step bs F1 μ1 H1 Fi μi Hi ∧ Sim X.K Fi μi Mi Hi ∧ RepS X.K Fi μi δi σi ∧ XS bs X.K Cs E F1 μ1 H1 D (xLoop f t (xs.drop i) δi Mi)) ?_ ?_ ?_ ?_
  · exact ⟨δ, F1, μ1, M1, Nat.le_trans hbs st1.leE, Step.refl _ _ _ _, S1, R.mono st1.fr st1.whole, k1⟩
  · rintro i σi Hi _ ⟨δi, Fi, μi, Mi, _, st, Si, _⟩
    exact st.fr.trans Si.sub
  · rintro i v σi Hi H2 hi ⟨δi, Fi, μi, Mi, hbi, st, Si, Ri, run⟩ ⟨_, hy⟩
    have hx : xs[i]? = some xs[i] := List.getElem?_eq_getElem hi
    rw [List.drop_eq_getElem_cons hi] at run
    unfold xLoop at run
    obtain ⟨F2, nf, rx⟩ := its.yields i Hi v H2 xs[i] Fi hx st.fr Si.sub hy
    have st2 : StepE Fi μi Hi F2 μi H2 := nf.step
    have S2 := nf.sim Si
    cases hbt : bindTg t xs[i] δi with
    | none => simp only [hbt] at run; exact run.elim
    | some δ2 =>
      simp only [hbt] at run
      refine ⟨δi, F2, μi, xs[i], δ2, Ri.mono st2.fr st2.whole, rx, S2.sub, hbt, fun σ2 R2 _ _ => ?_⟩
      have stt : Step bs F1 μ1 H1 F2 μi H2 := st.trans (Step.mono st2 hbi)
      refine ⟨δ2, Mi, F2, μi, hbi, S2, R2, ?_⟩
      cases hf : f δ2 Mi with
      | bad => rw [hf] at run; exact run.elim
      | exc c z s M3 => rw [hf] at run; exact XS.step stt run
      | ok fl M3 =>
        rw [hf] at run
        cases fl with
        | nx δ' => exact fun F' μ' H' σ' h1 h2 S' R' => ⟨δ', F', μ', M3, h1, stt.trans h2, S', R', run⟩
        | cont δ' => exact fun F' μ' H' σ' h1 h2 S' R' => ⟨δ', F', μ', M3, h1, stt.trans h2, S', R', run⟩
        | brk δ' => exact XS.step stt run
        | ret w => exact XS.step stt run
  · rintro σn Hn ⟨δn, Fn, μn, Mn, hbn, st, Sn, Rn, run⟩
    rw [List.drop_length] at run
    exact run Fn μn Hn σn hbn st Sn Rn
end
/-! ### defs -/
/-- what stands behind a body that ended, from what it hands back -/
theorem hb_ends {fr : Bool} {K : Fr} {F : Hp} {μ : List Addr} {M : Mem} {H : Hp} {Q : VK} {fl : Flow} {M1 M' : Mem} {x : Val} (S : Sim K F μ M H) (e2 : handBack fr M.length fl M1 = .ok x M') (k : ∀ F' μ' H' v, StepE F μ H F' μ' H' → Sim K F' μ' M' H' → PostV fr K F' μ' H H' x v → Q v H') :
    LSk M.length K { nx := fun _ H' => Q .non H', rt := Q } F μ H M1 fl := by
  have hμ := S.len
  have stE : ∀ {F' μ' H'}, Step M.length F μ H F' μ' H' → StepE F μ H F' (μ'.take M.length) H' := fun {F' μ' H'} st => by
    rw [← hμ] at st ⊢
    exact st.cutE
  cases fl with
  | nx s =>
    intro F' μ' H' σ' hb st S' R'
    cases fr with
    | true => cases e2
    | false => cases e2; exact k F' _ H' .non (stE st) (S'.take _) .non
  | brk s => cases e2
  | cont s => cases e2
  | ret v =>
    intro F' μ' H' u hb st S' rv
    cases v with
    | d y =>
      cases fr with
      | true => cases e2
      | false => cases e2; exact k F' _ H' u (stE st) (S'.take _) rv
    | ref l =>
      replace e2 : (if fr ∧ M.length ≤ l then (match M1[l]? with | some (.lst l) => Res.ok (Val.d (.lst l)) (M1.take M.length) | _ => .bad) else .bad) = .ok x M' := e2
      split at e2
      · rename_i hc
        obtain ⟨hfr, hbl⟩ := hc
        cases fr with
        | false => cases hfr
        | true =>
          obtain ⟨a, ha, rfl⟩ := rv
          cases hM : M1[l]? with
          | none => simp only [hM] at e2; cases e2
          | some o =>
            simp only [hM] at e2
            have q := S'.obj l o a hM ha
            cases o with
            | dct t l => cases e2
            | lst ds =>
              cases e2
              cases hH : H' a with
              | none => rw [hH] at q; exact q.elim
              | some w =>
                rw [hH] at q
                cases w with
                | lst ws =>
                  have nt : a ∉ μ'.take M.length := fun z => by
                    have e : μ'.take M.length = (μ'.take l).take M.length := by rw [List.take_take, Nat.min_eq_left hbl]
                    rw [e] at z
                    exact take_ne S'.nd ha (List.mem_of_mem_take z) rfl
                  refine k F' _ H' (.ref a) (stE st) (S'.take _) ⟨a, ds, ws, rfl, rfl, hH, S'.out a (List.mem_of_getElem? ha), nt, ?_, q.1, q.2⟩
                  rcases st.new a (List.mem_of_getElem? ha) with z | z
                  · have e := st.pre
                    rw [show μ.take M.length = μ by rw [← hμ, List.take_length]] at e
                    rw [← e] at z
                    exact absurd z nt
                  · exact z
                | _ => exact q.elim
      · cases e2
def defGX (fr : Bool) (n m : Nat) (f : Nat → Sl → Mem → Rx Flow) : List Val → Mem → Rx Val := fun vs M => if vs.length = n then
    (match f M.length (vs.map some ++ List.replicate m none) M with
    | .ok fl M1 => Rx.of (handBack fr M.length fl M1)
    | .exc c x _ M1 => .exc c x [] (M1.take M.length)
    | .bad => .bad)
  else .bad
theorem defGX_len {fr : Bool} {n m : Nat} {f : Nat → Sl → Mem → Rx Flow} (xs : List Val) (M : Mem) (h : defGX fr n m f xs M ≠ .bad) : xs.length = n := by
  unfold defGX at h
  split at h
  · assumption
  · exact absurd rfl h
theorem def_bodyX {fr : Bool} {n m : Nat} {f : Nat → Sl → Mem → Rx Flow} {N : List Str} {K : Fr} {Cs : List (Addr × Str)} {vs : List V} {H : Hp} {Q : VK} {E : XK} (hN : N.length = n + m) (h : spX2 fr K Cs n (defGX fr n m f) vs H Q E) :
    ∃ b, LSx b K Cs (fun _ => E) (f b) { nx := fun _ H' => Q .non H', rt := Q } (L2.start N vs) H := by
  obtain ⟨hl, xs, M, F, μ, S, r, x⟩ := h
  have hn : xs.length = n := by
    by_cases z : xs.length = n
    · exact z
    · unfold defGX at x; rw [if_neg z] at x; exact x.elim
  have hμ := S.len
  have ln : L2.start N vs = L2.start N vs := rfl
  cases hf : f M.length (xs.map some ++ List.replicate m none) M with
  | bad => unfold defGX at x; rw [if_pos hn, hf] at x; exact x.elim
  | exc c z s M1 =>
    unfold defGX at x; rw [if_pos hn, hf] at x
    refine ⟨M.length, xs.map some ++ List.replicate m none, M, F, μ, by omega, S, RepS.start (N := N) r (by omega), ?_⟩
    rw [hf]
    intro F' μ' H' σ' d v C a hb e st S' R' hd rv
    have stE : StepE F μ H F' (μ'.take M.length) H' := by
      rw [← hμ] at st ⊢
      exact st.cutE
    exact x F' _ H' d v C a e stE (S'.take _) hd rv
  | ok fl M1 =>
    have x' : XW K Cs E F μ H (Rx.of (handBack fr M.length fl M1)) (fun x M' => ∀ F' μ' H' v, StepE F μ H F' μ' H' → Sim K F' μ' M' H' → PostV fr K F' μ' H H' x v → Q v H') := by
      unfold defGX at x; rw [if_pos hn, hf] at x; exact x
    obtain ⟨y, M2, e2, k⟩ := XW.of x'
    refine ⟨M.length, xs.map some ++ List.replicate m none, M, F, μ, by omega, S, RepS.start (N := N) r (by omega), ?_⟩
    rw [hf]
    exact hb_ends S e2 k
end DL
end P_DLey
section P_DLez
set_option Elab.async false
set_option linter.all false
set_option maxRecDepth 100000
set_option maxHeartbeats 2000000
/-! Own classes of errors by their names: raise, isinstance, the field; an except suite; try. -/
namespace DL
open PySem PySem.Spec PyProof.Rows L2
/-- what the top has written of the class nm with the field at, under the base S -/
structure XCls (K : Fr) (mg : Str → Option Value) (nm at_ : Str) (C S : Addr) : Prop where
  low : (at_ = "given" ∧ ∃ fI, PySem.LowGv.LowTxt K mg nm C fI) ∨ (at_ = "index" ∧ ∃ fI, PySem.LowIx.LowTxt K mg nm C fI)
  te : PySem.W.exmOne K (.ref C) (.ref S) = some true
  ex : ExcD K C
  iV : PySem.W.kitOne K (.ref C) (.type "ValueError") = some true
/-- all classes: their places, their fields -/
structure XTab (K : Fr) (mg : Str → Option Value) (ns : List (Str × Str)) (Cs : List (Addr × Str)) (S : Addr) : Prop where
  gS : mg "SockError" = some (.ref S)
  len : Cs.length = ns.length
  cls : ∀ (c : Nat) (nm at_ : Str) (C : Addr) (at2 : Str), ns[c]? = some (nm, at_) → Cs[c]? = some (C, at2) → at2 = at_ ∧ XCls K mg nm at_ C S
  kit : ∀ (c j : Nat) (C J : Addr) (a b : Str), Cs[c]? = some (C, a) → Cs[j]? = some (J, b) → PySem.W.kitOne K (.ref C) (.ref J) = some (c == j)
theorem XTab.at_ {K : Fr} {mg : Str → Option Value} {ns : List (Str × Str)} {Cs : List (Addr × Str)} {S : Addr} (T : XTab K mg ns Cs S) {c : Nat} {C : Addr} {a : Str} (h : Cs[c]? = some (C, a)) : ∃ nm, ns[c]? = some (nm, a) ∧ XCls K mg nm a C S := by
  have hc : c < ns.length := by rw [← T.len]; exact (List.getElem?_eq_some_iff.mp h).1
  have e : ns[c]? = some ns[c] := List.getElem?_eq_getElem hc
  obtain ⟨h1, h2⟩ := T.cls c _ _ C a e h
  exact ⟨ns[c].1, by rw [e, h1]; rfl, by rw [h1]; exact h2⟩
theorem XTab.get {K : Fr} {mg : Str → Option Value} {ns : List (Str × Str)} {Cs : List (Addr × Str)} {S : Addr} (T : XTab K mg ns Cs S) {c : Nat} {nm a : Str} (h : ns[c]? = some (nm, a)) : ∃ C, Cs[c]? = some (C, a) ∧ XCls K mg nm a C S := by
  have hc : c < Cs.length := by rw [T.len]; exact (List.getElem?_eq_some_iff.mp h).1
  have e : Cs[c]? = some Cs[c] := List.getElem?_eq_getElem hc
  obtain ⟨h1, h2⟩ := T.cls c nm a Cs[c].1 Cs[c].2 h e
  exact ⟨Cs[c].1, by rw [e, ← h1], h2⟩
theorem XCls.mg {K : Fr} {mg : Str → Option Value} {nm a : Str} {C S : Addr} (L : XCls K mg nm a C S) : mg nm = some (.ref C) := by
  rcases L.low with ⟨_, _, h⟩ | ⟨_, _, h⟩ <;> exact h.gC
section
variable {X : Cx} {bs : Nat} {Cs : List (Addr × Str)} {W : WX} {fa : Sl → Mem → Res Val} {nm at_ : Str} {C S : Addr}
theorem px_raise {a : Expr} {p pos pos2 : Pos} {k c : Nat} (L : XCls X.K X.mg nm at_ C S) (hcs : Cs[c]? = some (C, at_)) (hr : Room k X.A) (tk : Takes X W) (ha : PE X a (LE false X.K fa)) (hc : X.calm = true := by rfl) (hg : Gl X nm := by rfl) (hdb : (nm == ("__debug__" : Str)) = false := by decide +kernel) (hp : plainArg a = true := by rfl) :
    PS X (.Raise (some (.Call (.Name nm p) [a] [] pos)) none pos2) (LSx bs X.K Cs (WE W) (xRaise c fa)) := by
  have he : starEach [a] X.env = (false, eval a X.env) :: starEach [] X.env := star_plain hp [] X.env
  have hpl : (backTo pos (starEach [] X.env)).any (·.1) = false := rfl
  have key : ∀ {D : Ends} {σ : L2.St} {H : Hp}, LSx bs X.K Cs (WE W) (xRaise c fa) D σ H → (LA X.K (evCons fa evNil)) σ H fun vs H1 => ∃ v, vs = [v] ∧ ∀ d, H1 d = none → W (.ref C) (some d) σ (upd H1 d (.xd [(at_, v)])) := by
    intro D σ H ⟨δ, M, F, μ, hb, S0, R, x⟩
    obtain ⟨v, M1, e1, x1⟩ := XS.of x
    cases v with
    | ref n => exact x1.elim
    | d y =>
      refine ⟨δ, M, F, μ, [.d y], M1, S0, R, by unfold evCons evNil; rw [e1]; rfl, fun F1 μ1 H1 ws st1 S1 r1 => ?_⟩
      cases r1 with
      | cons ra rn =>
        cases rn
        rename_i w
        refine ⟨w, rfl, fun d hd => ?_⟩
        have n := NewF.alloc S1.sub hd (.xd [(at_, w)])
        have st := st1.transE n.step
        exact x1 _ μ1 _ σ d w C at_ (Nat.le_trans hb st.leE) hcs (Step.mono st hb) (n.sim S1) (R.mono st.fr st.whole) upd_same (Rep.mono n.fr ra)
  rcases L.low with ⟨rfl, fI, T⟩ | ⟨rfl, fI, T⟩
  · exact (ps_raiseLow_gv hc T hr tk (p_cons ha p_nil hp) hg hdb he hpl).imp fun D σ H h => key h
  · exact (ps_raiseLow_ix hc T hr tk (p_cons ha p_nil hp) hg hdb he hpl).imp fun D σ H h => key h
end
/-! ### what the suite knows -/
/-- the error c with the field's value x is held at a, in slot i -/
def SU (K : Fr) (mg : Str → Option Value) (ns : List (Str × Str)) (Cs : List (Addr × Str)) (i : Nat) (a : Addr) (cls : Value) (d : Option Addr) (c : Nat) (x : D) (σ : L2.St) (F : Hp) : Prop :=
  ∃ (C S dd : Addr) (at_ : Str) (v : V), XTab K mg ns Cs S ∧ Cs[c]? = some (C, at_) ∧ cls = .ref C ∧ d = some dd ∧ F dd = some (.xd [(at_, v)]) ∧ Rep K F x v ∧ σ[i]? = some (some (.ref a))
theorem SU.mono {K : Fr} {mg : Str → Option Value} {ns : List (Str × Str)} {Cs : List (Addr × Str)} {i : Nat} {a : Addr} {cls : Value} {d : Option Addr} {c : Nat} {x : D} {σ : L2.St} {F F' : Hp} (s : Sub F F') (h : SU K mg ns Cs i a cls d c x σ F) : SU K mg ns Cs i a cls d c x σ F' := by
  obtain ⟨C, S, dd, at_, v, h1, h2, h3, h4, h5, h6, h7⟩ := h
  exact ⟨C, S, dd, at_, v, h1, h2, h3, h4, s _ _ h5, Rep.mono s h6, h7⟩
/-- where a suite stands -/
structure Us where
  mg : Str → Option Value
  ns : List (Str × Str)
  Cs : List (Addr × Str)
  i : Nat
  a : Addr
  cls : Value
  d : Option Addr
abbrev Us.su (U : Us) (K : Fr) (c : Nat) (x : D) (σ : L2.St) (F : Hp) : Prop := SU K U.mg U.ns U.Cs U.i U.a U.cls U.d c x σ F
def LEu (U : Us) (fr : Bool) (K : Fr) (f : Nat → D → Sl → Mem → Res Val) : TE := fun σ H Q => ∃ c x δ M F μ y M', U.su K c x σ F ∧ Sim K F μ M H ∧ RepS K F μ δ σ ∧ f c x δ M = .ok y M' ∧
  ∀ F' μ' H' v, StepE F μ H F' μ' H' → Sim K F' μ' M' H' → PostV fr K F' μ' H H' y v → Q v H'
def LTu (U : Us) (K : Fr) (f : Nat → D → Sl → Mem → Res Bool) : TT := fun σ H Q => ∃ c x δ M F μ y M', U.su K c x σ F ∧ Sim K F μ M H ∧ RepS K F μ δ σ ∧ f c x δ M = .ok y M' ∧
  ∀ F' μ' H', StepE F μ H F' μ' H' → Sim K F' μ' M' H' → Q y H'
def LDu (U : Us) (K : Fr) (f : Nat → D → Sl → Mem → Res (List D)) : TA := fun σ H Q => ∃ c x δ M F μ y M', U.su K c x σ F ∧ Sim K F μ M H ∧ RepS K F μ δ σ ∧ f c x δ M = .ok y M' ∧
  ∀ F' μ' H' v, StepE F μ H F' μ' H' → Sim K F' μ' M' H' → Reps K F' y v → Q v H'
def LAu (U : Us) (K : Fr) (f : Nat → D → Sl → Mem → Res (List Val)) : TA := fun σ H Q => ∃ c x δ M F μ y M', U.su K c x σ F ∧ Sim K F μ M H ∧ RepS K F μ δ σ ∧ f c x δ M = .ok y M' ∧
  ∀ F' μ' H' v, StepE F μ H F' μ' H' → Sim K F' μ' M' H' → RepVs K F' μ' y v → Q v H'
/-- ends that may lean on the error's name -/
def Dg (i : Nat) (a : Addr) (D : Ends) : Ends := ⟨fun σ H => σ[i]? = some (some (.ref a)) → D.nx σ H, D.rt, fun σ H => σ[i]? = some (some (.ref a)) → D.bk σ H, fun σ H => σ[i]? = some (some (.ref a)) → D.ct σ H⟩
def LSu (U : Us) (b : Nat) (K : Fr) (f : Nat → D → Sl → Mem → Res Flow) : TS := fun D σ H => ∃ c x δ M F μ y M', U.su K c x σ F ∧ b ≤ μ.length ∧ Sim K F μ M H ∧ RepS K F μ δ σ ∧ f c x δ M = .ok y M' ∧ LSk b K (Dg U.i U.a D) F μ H M' y
/-! ### isinstance, the field -/
def rIsG (K : Fr) (a : Addr) (cls : Value) (d : Option Addr) : List V → Hp → VK → Prop := fun xs H Q => ∃ (D : Addr), cls = .ref D ∧ ExcD K D ∧ ∃ (c : V) (cv : Value) (b : Bool) (dd : Addr) (fs : List (Str × V)), xs = [.ref a, c] ∧ (∀ u, RelV c u → u = cv) ∧ PySem.W.kitOne K (.ref D) cv = some b ∧
  d = some dd ∧ H dd = some (.xd fs) ∧ Q (.bl b) H
theorem call_isG {X : Cx} {a : Addr} {cls : Value} {d : Option Addr} {oe : Obj} {pn : List (Addr × Obj)} (hz : Zc cls d oe) (hf : ∃ vs, oe.data = .fields vs) : CallR (X.suite a ((a, oe) :: pn)) (.builtin "isinstance") (rIsG X.K a cls d) := by
  intro pins s σ H xs us Q I r h
  obtain ⟨D, rfl, C, c, cv, b, dd, fs, rfl, hcv, e, ed, ea, q⟩ := h
  cases r with
  | cons rx rr =>
    cases rr with
    | cons rt rr =>
      cases rr
      cases rx
      have ec := hcv _ rt
      subst ec
      subst ed
      obtain ⟨hget, _⟩ := I.pin (a, oe) (List.mem_append.mpr (.inl List.mem_cons_self))
      obtain ⟨vs, hv⟩ := hf
      have hx : ObjOk X.prog X.w H s.heap dd (.xd fs) := I.hok dd _ ea
      obtain ⟨mA, hns, hr⟩ := hx
      obtain ⟨od, ho, hl⟩ := lookIn_ns hns
      have J : PySem.W.InstAt s.heap a oe D (some od) := ⟨hget, hz.1, by unfold PySem.W.notCls; rw [hv] <;> rfl, by rw [hz.2]; exact ho⟩
      exact PySem.W.kia_one (PySem.W.kitx_exc (od := some od) C.hc C.hg C.hk C.hs C.ha C.hn C.ht C.hm) I.kIn J e (fun z => nomatch z) fun tk => ⟨.bl b, H, I.kept (t' := tk) fun _ _ z => z, rfl, q⟩
def uIs (j : Nat) : Nat → D → Sl → Mem → Res Val := fun c _ _ M => .ok (.d (.bl (c == j))) M
def uTrue : Nat → D → Sl → Mem → Res Val := fun _ _ _ M => .ok (.d (.bl true)) M
/-- e.given, e.index: of the classes that have it -/
def uBy (at_ : Nat → Bool) : Nat → D → Sl → Mem → Res Val := fun c x _ M => if at_ c then .ok (.d x) M else .bad
section
variable {X : Cx} {U : Us} {oe : Obj} {pn : List (Addr × Obj)}
abbrev XU (X : Cx) (U : Us) (oe : Obj) (pn : List (Addr × Obj)) : Cx := X.suite U.a ((U.a, oe) :: pn)
theorem pu_lift {e : Expr} {f : Sl → Mem → Res Val} {fr : Bool} (h : PE (XU X U oe pn) e (LE fr X.K f)) : PE (XU X U oe pn) e (LEu U fr X.K fun _ _ => f) :=
  h.imp fun σ H Q ⟨c, x, δ, M, F, μ, y, M', _, S, R, e, k⟩ => ⟨δ, M, F, μ, y, M', S, R, e, k⟩
theorem pu_is {nm at_ x : Str} {j : Nat} {px pc p pos : Pos} (hz : Zc U.cls U.d oe) (hf : ∃ vs, oe.data = .fields vs) (hmg : U.mg = X.mg) (hj : U.ns[j]? = some (nm, at_)) (hi : X.mg "isinstance" = none)
    (hN : (XU X U oe pn).N[U.i]? = some x := by rfl) (hv : Vis (XU X U oe pn).env.scope x := by first | exact Or.inl rfl | exact Or.inr (Or.inl rfl) | exact Or.inr (Or.inr rfl)) (hd : (x == ("__debug__" : Str)) = false := by decide +kernel) (hcd : (x == ("__classdict__" : Str)) = false := by decide +kernel)
    (hg : Gl (XU X U oe pn) "isinstance" := by rfl) (hgn : Gl (XU X U oe pn) nm := by rfl) (hdn : (nm == ("__debug__" : Str)) = false := by decide +kernel) :
    PE (XU X U oe pn) (.Call (.Name "isinstance" p) [.Name x px, .Name nm pc] [] pos) (LEu U false X.K (uIs j)) := by
  refine ⟨fun pins s σ H Q I h => ?_⟩
  obtain ⟨c, z, δ, M, F, μ, y, M', ⟨C, S, dd, at2, v, T, hc, hcls, hdd, hF, rz, hσ⟩, S0, R, e0, k⟩ := h
  cases e0
  obtain ⟨J, hJ, LJ⟩ := T.get hj
  obtain ⟨nm2, _, LC⟩ := T.at_ hc
  have gl : PE (XU X U oe pn) (.Name nm pc) (tC (.ref J)) := pe_glob hgn (v := .ref J) (u := .ref J) (by show X.mg nm = _; rw [← hmg]; exact LJ.mg) rfl hdn
  have q := pe_callB (call_isG (X := X) (pn := pn) hz hf) hg (show X.mg "isinstance" = none from hi) PyProof.Rows.boot_isinstance (pa_cons (pe_var (pos := px) hN hv hd hcd) (pa_cons gl pa_nil)) (p := p) (pos := pos)
  refine q.run pins s σ H Q I ⟨.ref U.a, hσ, ⟨C, hcls, LC.ex, .ref J, .ref J, _, dd, _, rfl, fun u hu => hu, T.kit c j C J _ _ hc hJ, hdd, S0.sub _ _ hF, k F μ H _ (Step.refl _ _ _ _) S0 (.bl _)⟩⟩
theorem pu_isV {x : Str} {px pc p pos : Pos} (hz : Zc U.cls U.d oe) (hf : ∃ vs, oe.data = .fields vs) (hi : X.mg "isinstance" = none) (hV : X.mg "ValueError" = none)
    (hN : (XU X U oe pn).N[U.i]? = some x := by rfl) (hv : Vis (XU X U oe pn).env.scope x := by first | exact Or.inl rfl | exact Or.inr (Or.inl rfl) | exact Or.inr (Or.inr rfl)) (hd : (x == ("__debug__" : Str)) = false := by decide +kernel) (hcd : (x == ("__classdict__" : Str)) = false := by decide +kernel)
    (hg : Gl (XU X U oe pn) "isinstance" := by rfl) (hgn : Gl (XU X U oe pn) "ValueError" := by rfl) :
    PE (XU X U oe pn) (.Call (.Name "isinstance" p) [.Name x px, .Name "ValueError" pc] [] pos) (LEu U false X.K uTrue) := by
  refine ⟨fun pins s σ H Q I h => ?_⟩
  obtain ⟨c, z, δ, M, F, μ, y, M', ⟨C, S, dd, at2, v, T, hc, hcls, hdd, hF, rz, hσ⟩, S0, R, e0, k⟩ := h
  cases e0
  obtain ⟨nm2, _, LC⟩ := T.at_ hc
  have gl : PE (XU X U oe pn) (.Name "ValueError" pc) (tC (.ty "ValueError")) := pe_bltn hgn (show X.mg "ValueError" = none from hV) (u := .type "ValueError") (by decide +kernel) rfl (by decide +kernel)
  have q := pe_callB (call_isG (X := X) (pn := pn) hz hf) hg (show X.mg "isinstance" = none from hi) PyProof.Rows.boot_isinstance (pa_cons (pe_var (pos := px) hN hv hd hcd) (pa_cons gl pa_nil)) (p := p) (pos := pos)
  refine q.run pins s σ H Q I ⟨.ref U.a, hσ, ⟨C, hcls, LC.ex, .ty "ValueError", .type "ValueError", _, dd, _, rfl, fun u hu => hu, LC.iV, hdd, S0.sub _ _ hF, k F μ H _ (Step.refl _ _ _ _) S0 (.bl _)⟩⟩
theorem pu_given {x : Str} {px pos : Pos} {at_ : Nat → Bool} (hz : Zc U.cls U.d oe) (hf : ∃ vs, oe.data = .fields vs) (hmg : U.mg = X.mg) (hat : ∀ (c : Nat) (nm a : Str), U.ns[c]? = some (nm, a) → at_ c = true → a = ("given" : Str))
    (hN : (XU X U oe pn).N[U.i]? = some x := by rfl) (hv : Vis (XU X U oe pn).env.scope x := by first | exact Or.inl rfl | exact Or.inr (Or.inl rfl) | exact Or.inr (Or.inr rfl)) (hd : (x == ("__debug__" : Str)) = false := by decide +kernel) (hcd : (x == ("__classdict__" : Str)) = false := by decide +kernel) :
    PE (XU X U oe pn) (.Attribute (.Name x px) "given" pos) (LEu U false X.K (uBy at_)) := by
  refine ⟨fun pins s σ H Q I h => ?_⟩
  obtain ⟨c, z, δ, M, F, μ, y, M', ⟨C, S, dd, at2, v, T, hc, hcls, hdd, hF, rz, hσ⟩, S0, R, e0, k⟩ := h
  unfold uBy at e0
  split at e0
  · rename_i hac
    cases e0
    obtain ⟨nm2, hn2, LC⟩ := T.at_ hc
    have ha := hat c nm2 at2 hn2 hac
    subst ha
    rcases LC.low with ⟨_, fI, L⟩ | ⟨h, _⟩
    · have q := pe_byLow_gv (X := X) (pn := pn) (pos := pos) hz hf (pe_var (pos := px) hN hv hd hcd) rfl
      exact q.run pins s σ H Q I ⟨.ref U.a, hσ, rfl, nm2, C, fI, by rw [← hmg]; exact L, hcls, dd, v, hdd, S0.sub _ _ hF, k F μ H _ (Step.refl _ _ _ _) S0 rz⟩
    · exact absurd h (by decide +kernel)
  · cases e0
theorem pu_index {x : Str} {px pos : Pos} {at_ : Nat → Bool} (hz : Zc U.cls U.d oe) (hf : ∃ vs, oe.data = .fields vs) (hmg : U.mg = X.mg) (hat : ∀ (c : Nat) (nm a : Str), U.ns[c]? = some (nm, a) → at_ c = true → a = ("index" : Str))
    (hN : (XU X U oe pn).N[U.i]? = some x := by rfl) (hv : Vis (XU X U oe pn).env.scope x := by first | exact Or.inl rfl | exact Or.inr (Or.inl rfl) | exact Or.inr (Or.inr rfl)) (hd : (x == ("__debug__" : Str)) = false := by decide +kernel) (hcd : (x == ("__classdict__" : Str)) = false := by decide +kernel) :
    PE (XU X U oe pn) (.Attribute (.Name x px) "index" pos) (LEu U false X.K (uBy at_)) := by
  refine ⟨fun pins s σ H Q I h => ?_⟩
  obtain ⟨c, z, δ, M, F, μ, y, M', ⟨C, S, dd, at2, v, T, hc, hcls, hdd, hF, rz, hσ⟩, S0, R, e0, k⟩ := h
  unfold uBy at e0
  split at e0
  · rename_i hac
    cases e0
    obtain ⟨nm2, hn2, LC⟩ := T.at_ hc
    have ha := hat c nm2 at2 hn2 hac
    subst ha
    rcases LC.low with ⟨h, _⟩ | ⟨_, fI, L⟩
    · exact absurd h (by decide +kernel)
    · have q := pe_byLow_ix (X := X) (pn := pn) (pos := pos) hz hf (pe_var (pos := px) hN hv hd hcd) rfl
      exact q.run pins s σ H Q I ⟨.ref U.a, hσ, rfl, nm2, C, fI, by rw [← hmg]; exact L, hcls, dd, v, hdd, S0.sub _ _ hF, k F μ H _ (Step.refl _ _ _ _) S0 rz⟩
  · cases e0
end
/-! ### composed -/
def uTst (fa : Nat → D → Sl → Mem → Res Val) : Nat → D → Sl → Mem → Res Bool := fun c x s M => toB (fa c x s M)
def uIf (fT : Nat → D → Sl → Mem → Res Bool) (fa fb : Nat → D → Sl → Mem → Res Val) : Nat → D → Sl → Mem → Res Val := fun c x s M => (fT c x s M).bind fun t M1 => if t then fa c x s M1 else fb c x s M1
def uNot (fa : Nat → D → Sl → Mem → Res Val) : Nat → D → Sl → Mem → Res Val := fun c x s M => (toB (fa c x s M)).bind fun b M1 => .ok (.d (.bl (!b))) M1
def uAnd (fa fb : Nat → D → Sl → Mem → Res Val) : Nat → D → Sl → Mem → Res Val := fun c x s M => (toB (fa c x s M)).bind fun b M1 => if b then fb c x s M1 else .ok (.d (.bl false)) M1
def uOr (fa fb : Nat → D → Sl → Mem → Res Val) : Nat → D → Sl → Mem → Res Val := fun c x s M => (toB (fa c x s M)).bind fun b M1 => if b then .ok (.d (.bl true)) M1 else fb c x s M1
def uDNil : Nat → D → Sl → Mem → Res (List D) := fun _ _ _ M => .ok [] M
def uDCons (fa : Nat → D → Sl → Mem → Res Val) (fl : Nat → D → Sl → Mem → Res (List D)) : Nat → D → Sl → Mem → Res (List D) := fun c z s M => (fa c z s M).bind fun v M1 => match v with
  | .d x => (fl c z s M1).bind fun xs M2 => .ok (x :: xs) M2
  | _ => .bad
def uTup (fl : Nat → D → Sl → Mem → Res (List D)) : Nat → D → Sl → Mem → Res Val := fun c z s M => (fl c z s M).bind fun xs M1 => if xs.length ≤ big then .ok (.d (.tup xs)) M1 else .bad
def uLst (fl : Nat → D → Sl → Mem → Res (List D)) : Nat → D → Sl → Mem → Res Val := fun c z s M => (fl c z s M).bind fun xs M1 => if xs.length ≤ big then .ok (.d (.lst xs)) M1 else .bad
section
variable {X : Cx} {U : Us} {fa fb : Nat → D → Sl → Mem → Res Val} {fT : Nat → D → Sl → Mem → Res Bool} {fd : Nat → D → Sl → Mem → Res (List D)} {f g : Nat → D → Sl → Mem → Res Flow} {a b c e : Expr} {es : List Expr} {pos : Pos} {fr : Bool} {bs : Nat} {y : Str}
theorem liftTu {K : Fr} {σ : L2.St} {H : Hp} {Q : Bool → Hp → Prop} (h : LTu U K (uTst fa) σ H Q) : LEu U false K fa σ H (fun x H' => ∃ k, x = .bl k ∧ Q k H') := by
  obtain ⟨c, z, δ, M, F, μ, x, M', su, S, R, e0, k⟩ := h
  obtain ⟨v, M1, e1, e0⟩ := bind_ok (show (fa c z δ M).bind _ = _ from e0)
  refine ⟨c, z, δ, M, F, μ, v, M1, su, S, R, e1, fun F1 μ1 H1 v1 st1 S1 r1 => ?_⟩
  cases v with
  | ref n => cases e0
  | d y =>
    cases y <;> first
      | (cases e0; cases r1; exact ⟨_, rfl, k F1 μ1 H1 st1 S1⟩)
      | cases e0
theorem pu_T (h : PE X e (LEu U false X.K fa)) (he : ∀ whole, isTrue e X.env whole = (do let v ← whole; standAt e.pos; holding [v] (truthy v)) := by intro _; rfl) : PT X e (LTu U X.K (uTst fa)) :=
  (pt_val h he).imp fun _ _ _ h => liftTu h
theorem pu_liftT {f : Sl → Mem → Res Bool} (h : PT X e (LT X.K f)) : PT X e (LTu U X.K fun _ _ => f) :=
  h.imp fun σ H Q ⟨c, x, δ, M, F, μ, y, M', _, S, R, e, k⟩ => ⟨δ, M, F, μ, y, M', S, R, e, k⟩
theorem pu_if {t : Expr} (hc : PT X t (LTu U X.K fT)) (ha : PE X a (LEu U fr X.K fa)) (hb : PE X b (LEu U fr X.K fb)) : PE X (.IfExp t a b pos) (LEu U fr X.K (uIf fT fa fb)) := by
  refine (pe_ifExp hc ha hb).imp fun σ H Q ⟨c, z, δ, M, F, μ, x, M', su, S, R, e0, k⟩ => ?_
  obtain ⟨t, M1, e1, e0⟩ := bind_ok e0
  refine ⟨c, z, δ, M, F, μ, t, M1, su, S, R, e1, fun F1 μ1 H1 st1 S1 => ?_⟩
  cases t with
  | true => rw [if_pos rfl] at e0; exact if_tt ⟨c, z, δ, M1, F1, μ1, x, M', su.mono st1.fr, S1, R.mono st1.fr st1.whole, e0, fun F' μ' H' v st S' p => k F' μ' H' v (st1.transE st) S' (p.back fun a h => st1.up a h)⟩
  | false => rw [if_neg Bool.false_ne_true] at e0; exact ifx_ff ⟨c, z, δ, M1, F1, μ1, x, M', su.mono st1.fr, S1, R.mono st1.fr st1.whole, e0, fun F' μ' H' v st S' p => k F' μ' H' v (st1.transE st) S' (p.back fun a h => st1.up a h)⟩
theorem pu_not (h : PE X a (LEu U false X.K fa)) : PE X (.UnaryOp .Not a pos) (LEu U false X.K (uNot fa)) := by
  refine (pe_not h).imp fun σ H Q ⟨c, z, δ, M, F, μ, x, M', su, S, R, e0, k⟩ => ?_
  obtain ⟨t, M1, e1, e0⟩ := bind_ok e0
  cases e0
  exact liftTu ⟨c, z, δ, M, F, μ, t, _, su, S, R, e1, fun F' μ' H' st S' => k F' μ' H' _ st S' (.bl _)⟩
variable {rest : List Expr} {x1 : Expr}
theorem pu_and (ha : PE X a (LEu U false X.K fa)) (hb : PE X (.BoolOp .And (x1 :: rest) pos) (LEu U false X.K fb)) (he : ∀ whole, isTrue a X.env whole = (do let v ← whole; standAt a.pos; holding [v] (truthy v)) := by intro _; rfl) : PE X (.BoolOp .And (a :: x1 :: rest) pos) (LEu U false X.K (uAnd fa fb)) := by
  refine (pe_and ha hb).imp fun σ H Q ⟨c, z, δ, M, F, μ, x, M', su, S, R, e0, k⟩ => ?_
  obtain ⟨t, M1, e1, e0⟩ := bind_ok e0
  refine liftTu ⟨c, z, δ, M, F, μ, t, _, su, S, R, e1, fun F1 μ1 H1 st1 S1 => ?_⟩
  cases t with
  | false => rw [if_neg Bool.false_ne_true] at e0 ⊢; cases e0; exact k F1 μ1 H1 _ st1 S1 (.bl _)
  | true => rw [if_pos rfl] at e0 ⊢; exact ⟨c, z, δ, M1, F1, μ1, x, M', su.mono st1.fr, S1, R.mono st1.fr st1.whole, e0, fun F' μ' H' v st S' p => k F' μ' H' v (st1.transE st) S' p⟩
theorem pu_or (ha : PE X a (LEu U false X.K fa)) (hb : PE X (.BoolOp .Or (x1 :: rest) pos) (LEu U false X.K fb)) : PE X (.BoolOp .Or (a :: x1 :: rest) pos) (LEu U false X.K (uOr fa fb)) := by
  refine (pe_or ha hb).imp fun σ H Q ⟨c, z, δ, M, F, μ, x, M', su, S, R, e0, k⟩ => ?_
  obtain ⟨t, M1, e1, e0⟩ := bind_ok e0
  refine liftTu ⟨c, z, δ, M, F, μ, t, _, su, S, R, e1, fun F1 μ1 H1 st1 S1 => ?_⟩
  cases t with
  | true => rw [if_pos rfl] at e0 ⊢; cases e0; exact k F1 μ1 H1 _ st1 S1 (.bl _)
  | false => rw [if_neg Bool.false_ne_true] at e0 ⊢; exact ⟨c, z, δ, M1, F1, μ1, x, M', su.mono st1.fr, S1, R.mono st1.fr st1.whole, e0, fun F' μ' H' v st S' p => k F' μ' H' v (st1.transE st) S' p⟩
theorem pu_one {op} (ha : PE X a (LEu U false X.K fa)) : PE X (.BoolOp op [a] pos) (LEu U false X.K fa) := pe_one ha
theorem pu_dnil : PA X [] (LDu U X.K uDNil) :=
  pa_nil.imp fun σ H Q ⟨c, z, δ, M, F, μ, x, M', su, S, R, e0, k⟩ => by
    cases e0
    exact k F μ H [] (Step.refl _ _ _ _) S .nil
theorem pu_dcons (ha : PE X e (LEu U false X.K fa)) (hr : PA X es (LDu U X.K fd)) (hp : plainArg e = true := by rfl) : PA X (e :: es) (LDu U X.K (uDCons fa fd)) := by
  refine (pa_cons ha hr (star_plain hp es X.env)).imp fun σ H Q ⟨c, z, δ, M, F, μ, x, M', su, S, R, e0, k⟩ => ?_
  obtain ⟨v, M1, e1, e0⟩ := bind_ok e0
  cases v with
  | ref n => cases e0
  | d y =>
    obtain ⟨vs, M2, e2, e0⟩ := bind_ok e0
    cases e0
    refine ⟨c, z, δ, M, F, μ, .d y, M1, su, S, R, e1, fun F1 μ1 H1 v1 st1 S1 r1 => ⟨c, z, δ, M1, F1, μ1, vs, _, su.mono st1.fr, S1, R.mono st1.fr st1.whole, e2, fun F2 μ2 H2 vs2 st2 S2 r2 => ?_⟩⟩
    exact k F2 μ2 H2 _ (st1.transE st2) S2 (.cons (Rep.mono st2.fr r1) r2)
theorem pu_tup {n : Nat} (h : PA X es (LDu U X.K fd)) : PE X (.Tuple es n pos) (LEu U false X.K (uTup fd)) := by
  refine (pe_tup h).imp fun σ H Q ⟨c, z, δ, M, F, μ, x, M', su, S, R, e0, kk⟩ => ?_
  obtain ⟨xs, M1, e1, e0⟩ := bind_ok e0
  by_cases hl : xs.length ≤ big
  · rw [if_pos hl] at e0
    cases e0
    refine ⟨c, z, δ, M, F, μ, xs, _, su, S, R, e1, fun F1 μ1 H1 vs st1 S1 r1 => ⟨by rw [← r1.length, sizeLine_eq]; exact hl, fun p hp => ?_⟩⟩
    have n := NewF.alloc S1.sub hp (.tup vs)
    exact kk _ μ1 _ _ (st1.transE n.step) (n.sim S1) (Rep.tup hl upd_same (Reps.mono n.fr r1))
  · rw [if_neg hl] at e0; cases e0
theorem pu_lst (h : PA X es (LDu U X.K fd)) : PE X (.List es pos) (LEu U false X.K (uLst fd)) := by
  refine (pe_lst h).imp fun σ H Q ⟨c, z, δ, M, F, μ, x, M', su, S, R, e0, kk⟩ => ?_
  obtain ⟨xs, M1, e1, e0⟩ := bind_ok e0
  by_cases hl : xs.length ≤ big
  · rw [if_pos hl] at e0
    cases e0
    refine ⟨c, z, δ, M, F, μ, xs, _, su, S, R, e1, fun F1 μ1 H1 vs st1 S1 r1 => ⟨by rw [← r1.length, sizeLine_eq]; exact hl, fun p hp => ?_⟩⟩
    have n := NewF.alloc S1.sub hp (.lst vs)
    exact kk _ μ1 _ _ (st1.transE n.step) (n.sim S1) (Rep.lst hl upd_same (Reps.mono n.fr r1))
  · rw [if_neg hl] at e0; cases e0
end
/-! ### statements of a suite -/
def uAsg (fa : Nat → D → Sl → Mem → Res Val) (i : Nat) : Nat → D → Sl → Mem → Res Flow := fun c x s M => (fa c x s M).bind fun v M1 => if i < s.length then .ok (.nx (s.set i (some v))) M1 else .bad
def uRet (fa : Nat → D → Sl → Mem → Res Val) : Nat → D → Sl → Mem → Res Flow := fun c x s M => (fa c x s M).bind fun v M1 => .ok (.ret v) M1
def uPass : Nat → D → Sl → Mem → Res Flow := fun _ _ s M => .ok (.nx s) M
def uSeq (f g : Nat → D → Sl → Mem → Res Flow) : Nat → D → Sl → Mem → Res Flow := fun c x s M => (f c x s M).bind fun y M1 => match y with
  | .nx s1 => g c x s1 M1
  | .ret v => .ok (.ret v) M1
  | .brk s1 => .ok (.brk s1) M1
  | .cont s1 => .ok (.cont s1) M1
def uIte (fT : Nat → D → Sl → Mem → Res Bool) (f g : Nat → D → Sl → Mem → Res Flow) : Nat → D → Sl → Mem → Res Flow := fun c x s M => (fT c x s M).bind fun t M1 => if t then f c x s M1 else g c x s M1
theorem SU.slot {K : Fr} {mg : Str → Option Value} {ns : List (Str × Str)} {Cs : List (Addr × Str)} {i : Nat} {a : Addr} {cls : Value} {d : Option Addr} {c : Nat} {x : D} {σ σ' : L2.St} {F : Hp} (h : SU K mg ns Cs i a cls d c x σ F) (e : σ'[i]? = some (some (.ref a))) : SU K mg ns Cs i a cls d c x σ' F := by
  obtain ⟨C, S, dd, at_, v, h1, h2, h3, h4, h5, h6, h7⟩ := h
  exact ⟨C, S, dd, at_, v, h1, h2, h3, h4, h5, h6, e⟩
theorem SU.held {K : Fr} {mg : Str → Option Value} {ns : List (Str × Str)} {Cs : List (Addr × Str)} {i : Nat} {a : Addr} {cls : Value} {d : Option Addr} {c : Nat} {x : D} {σ : L2.St} {F : Hp} (h : SU K mg ns Cs i a cls d c x σ F) : σ[i]? = some (some (.ref a)) := by
  obtain ⟨C, S, dd, at_, v, h1, h2, h3, h4, h5, h6, h7⟩ := h
  exact h7
theorem RepS.unsetL {K : Fr} {F : Hp} {μ : List Addr} {δ : Sl} {σ : L2.St} (R : RepS K F μ δ σ) (i : Nat) (x : Option V) : RepS K F μ (δ.set i none) (σ.set i x) := by
  refine ⟨by rw [List.length_set, List.length_set]; exact R.len, fun j z e => ?_⟩
  by_cases hj : i = j
  · subst hj
    by_cases hl : i < δ.length
    · rw [List.getElem?_set_self hl] at e; cases e
    · rw [List.getElem?_eq_none (by rw [List.length_set]; omega)] at e; cases e
  · rw [List.getElem?_set_ne hj] at e ⊢; exact R.at_ j z e
section
variable {X : Cx} {U : Us} {fa fb : Nat → D → Sl → Mem → Res Val} {fT : Nat → D → Sl → Mem → Res Bool} {f g : Nat → D → Sl → Mem → Res Flow} {c e : Expr} {pos : Pos} {bs : Nat} {y : Str}
theorem pu_asgn (i : Nat) {py : Pos} (hne : i ≠ U.i) (hN : X.N.Nodup) (he : PE X e (LEu U false X.K fa)) (hi : X.N[i]? = some y := by rfl) (hx : Loc X.env.scope y := by first | exact Or.inl rfl | exact Or.inr rfl) (hs : swapsWith e (some (.Name y py)) pos.line X.env = pure false := by rfl) (hf : X.fn y = true ∨ X.env.scope.names.lookup y = some .local := by first | exact .inl rfl | exact .inr rfl) :
    PS X (.Assign [.Name y py] e pos) (LSu U bs X.K (uAsg fa i)) := by
  refine (ps_set hN hi hx he hs hf).imp fun D σ H ⟨c, z, δ, M, F, μ, x, M', su, hb, S, R, e0, k⟩ => ?_
  obtain ⟨v, M1, e1, e0⟩ := bind_ok e0
  split at e0
  · cases e0
    refine ⟨c, z, δ, M, F, μ, v, _, su, S, R, e1, fun F1 μ1 H1 w st S1 r => ?_⟩
    exact k F1 μ1 H1 _ (Nat.le_trans hb st.leE) (Step.mono st hb) S1 ((R.mono st.fr st.whole).put r) (by rw [List.getElem?_set_ne hne]; exact su.held)
  · cases e0
theorem pu_ret (he : PE X e (LEu U false X.K fa)) : PS X (.Return (some e) pos) (LSu U bs X.K (uRet fa)) := by
  refine (ps_ret he).imp fun D σ H ⟨c, z, δ, M, F, μ, x, M', su, hb, S, R, e0, k⟩ => ?_
  obtain ⟨v, M1, e1, e0⟩ := bind_ok e0
  cases e0
  exact ⟨c, z, δ, M, F, μ, v, _, su, S, R, e1, fun F1 μ1 H1 w st S1 r => k F1 μ1 H1 w (Nat.le_trans hb st.leE) (Step.mono st hb) S1 r⟩
theorem pu_snil : PSs X [] (LSu U bs X.K uPass) :=
  pss_nil.imp fun D σ H ⟨c, z, δ, M, F, μ, x, M', su, hb, S, R, e0, k⟩ => by
    cases e0
    exact k F μ H σ hb (Step.refl _ _ _ _) S R su.held
theorem LSu.after {K : Fr} {b : Nat} {F F1 : Hp} {μ μ1 : List Addr} {H H1 : Hp} {M1 M' : Mem} {c : Nat} {z : D} {δ1 : Sl} {σ1 : L2.St} {D : Ends} {x : Flow} (su : U.su K c z σ1 F1) (st : Step b F μ H F1 μ1 H1) (hb1 : b ≤ μ1.length) (S1 : Sim K F1 μ1 M1 H1) (R1 : RepS K F1 μ1 δ1 σ1) (e : f c z δ1 M1 = .ok x M') (k : LSk b K (Dg U.i U.a D) F μ H M' x) : LSu U b K f D σ1 H1 :=
  ⟨c, z, δ1, M1, F1, μ1, x, M', su, hb1, S1, R1, e, k.back st⟩
theorem pu_ite {s1 s2 : List Stmt} (hc : PT X c (LTu U X.K fT)) (h1 : PSs X s1 (LSu U bs X.K f)) (h2 : PSs X s2 (LSu U bs X.K g)) : PS X (.If c s1 s2 pos) (LSu U bs X.K (uIte fT f g)) := by
  refine (ps_if hc h1 h2).imp fun D σ H ⟨c, z, δ, M, F, μ, x, M', su, hb, S, R, e0, k⟩ => ?_
  obtain ⟨t, M1, e1, e0⟩ := bind_ok e0
  refine ⟨c, z, δ, M, F, μ, t, M1, su, S, R, e1, fun F1 μ1 H1 st S1 => ?_⟩
  cases t with
  | true => rw [if_pos rfl] at e0; exact if_tt (LSu.after (su.mono st.fr) (Step.mono st hb) (Nat.le_trans hb st.leE) S1 (R.mono st.fr st.whole) e0 k)
  | false => rw [if_neg Bool.false_ne_true] at e0; exact ifx_ff (LSu.after (su.mono st.fr) (Step.mono st hb) (Nat.le_trans hb st.leE) S1 (R.mono st.fr st.whole) e0 k)
theorem pu_scons {st : Stmt} {r : List Stmt} (h1 : PS X st (LSu U bs X.K f)) (h2 : PSs X r (LSu U bs X.K g)) : PSs X (st :: r) (LSu U bs X.K (uSeq f g)) := by
  refine (pss_cons h1 h2).imp fun D σ H ⟨c, z, δ, M, F, μ, x, M', su, hb, S, R, e0, k⟩ => ?_
  obtain ⟨y, M1, e1, e0⟩ := bind_ok e0
  refine ⟨c, z, δ, M, F, μ, y, M1, su, hb, S, R, e1, ?_⟩
  cases y with
  | nx s1 => exact fun F1 μ1 H1 σ1 hb1 st S1 R1 hσ => LSu.after ((su.mono st.fr).slot hσ) st hb1 S1 R1 e0 k
  | ret v => cases e0; exact k
  | brk s1 => cases e0; exact k
  | cont s1 => cases e0; exact k
end
/-! ### try -/
def unsetF (i : Nat) : Flow → Flow
  | .nx s => .nx (s.set i none)
  | .ret v => .ret v
  | .brk s => .brk (s.set i none)
  | .cont s => .cont (s.set i none)
/-- try: fb except SockError as e (in slot i): fs -/
def evTry (i : Nat) (fb : Sl → Mem → Rx Flow) (fs : Nat → D → Sl → Mem → Res Flow) : Sl → Mem → Res Flow := fun s M => match fb s M with
  | .ok fl M1 => .ok fl M1
  | .exc c x s1 M1 => if i < s1.length then (fs c x (s1.set i none) M1).bind fun fl M2 => .ok (unsetF i fl) M2 else .bad
  | .bad => .bad
theorem px_try {X : Cx} {x n : Str} {i : Nat} {body suite : List Stmt} {b₀ : Stmt} {np pos pos' : Pos} {bs : Nat} {ns : List (Str × Str)} {Cs : List (Addr × Str)} {S : Addr} {fb : Sl → Mem → Rx Flow} {fs : Nat → D → Sl → Mem → Res Flow} (T : XTab X.K X.mg ns Cs S)
    (hc : Names X x (.ref S)) (tk : Takes X (fun _ _ _ _ => False)) (hN : X.N.Nodup)
    (hb : ∀ (W : WX) (pn : List (Addr × Obj)) (xe : Value → Shared → Prop), Takes (X.tr pn xe) W → PassesOwn (model X.prog X.w) X.A X.env xe → PSs (X.tr pn xe) body (LSx bs X.K Cs (WE W) fb))
    (hsu : ∀ (a : Addr) (cls : Value) (d : Option Addr) (oe : Obj) (pn : List (Addr × Obj)), Zc cls d oe → (∃ vs, oe.data = .fields vs) → PSs (X.suite a ((a, oe) :: pn)) (b₀ :: suite) (LSu ⟨X.mg, ns, Cs, i, a, cls, d⟩ bs X.K fs))
    (hs : X.stack = X.env :: X.outer := by rfl) (hf : X.env.frame = some X.env.locals := by rfl) (hi : X.N[i]? = some n := by rfl) (hln : X.env.kindOf n = some .local := by rfl) :
    PS X (.Try body [.ExceptHandler (some (.Name x np)) (some n) (b₀ :: suite) pos'] [] [] pos) (LS bs X.K (evTry i fb fs)) := by
  refine (ps_try_as (i := i) (tb := fun W => LSx bs X.K Cs (WE W) fb) (ts := fun a cls d => LSu ⟨X.mg, ns, Cs, i, a, cls, d⟩ bs X.K fs) (Wout := fun _ _ _ _ => False) hs hf hN hi hln hc tk hb
    (fun a oe cls d pn hz hf => hsu a cls d oe pn hz hf)).imp fun D σ H ⟨δ, M, F, μ, x, M', hb, S0, R, e0, k⟩ => ?_
  refine ⟨δ, M, F, μ, hb, S0, R, ?_⟩
  unfold evTry at e0
  cases hf : fb δ M with
  | bad => rw [hf] at e0; cases e0
  | ok fl M1 => rw [hf] at e0; cases e0; exact k
  | exc c z s1 M1 =>
    rw [hf] at e0
    have e0 : (if i < s1.length then (fs c z (s1.set i none) M1).bind fun fl M2 => Res.ok (unsetF i fl) M2 else .bad) = Res.ok x M' := e0
    split at e0
    case isFalse => cases e0
    rename_i hil
    obtain ⟨fl, M2, e1, e2⟩ := bind_ok e0
    cases e2
    intro F1 μ1 H1 σ1 d v C at_ hb1 hc1 st S1 R1 hd rv
    obtain ⟨nm, _, L⟩ := T.at_ hc1
    refine ⟨true, L.te, fun _ a _ => ?_, fun q => Bool.noConfusion q⟩
    have hl : i < σ1.length := by rw [← R1.len]; exact hil
    refine ⟨c, z, s1.set i none, M1, F1, μ1, fl, _, ⟨C, S, d, at_, v, T, hc1, rfl, rfl, hd, rv, List.getElem?_set_self hl⟩, hb1, S1, R1.unsetL i _, e1, ?_⟩
    cases fl with
    | nx s2 => exact fun F2 μ2 H2 σ2 h1 h2 S2 R2 _ => k F2 μ2 H2 _ h1 (st.trans h2) S2 (R2.unsetL i none)
    | ret w => exact fun F2 μ2 H2 w2 h1 h2 S2 r2 => k F2 μ2 H2 w2 h1 (st.trans h2) S2 r2
    | brk s2 => exact fun F2 μ2 H2 σ2 h1 h2 S2 R2 _ => k F2 μ2 H2 _ h1 (st.trans h2) S2 (R2.unsetL i none)
    | cont s2 => exact fun F2 μ2 H2 σ2 h1 h2 S2 R2 _ => k F2 μ2 H2 _ h1 (st.trans h2) S2 (R2.unsetL i none)
end DL
end P_DLez
section P_DLxt
set_option Elab.async false
set_option linter.all false
set_option maxRecDepth 100000
set_option maxHeartbeats 2000000
/-! The head's facts of own classes; calls by names that may raise. -/
namespace DL
open PySem PySem.Spec PyProof.Rows L2
inductive XAll (K : Fr) (mg : Str → Option Value) (S : Addr) : List (Str × Str) → List (Addr × Str) → Prop
  | nil : XAll K mg S [] []
  | cons {nm at_ : Str} {C : Addr} {ns : List (Str × Str)} {Cs : List (Addr × Str)} : XCls K mg nm at_ C S → XAll K mg S ns Cs → XAll K mg S ((nm, at_) :: ns) ((C, at_) :: Cs)
theorem XAll.len {K : Fr} {mg : Str → Option Value} {S : Addr} : ∀ {ns : List (Str × Str)} {Cs : List (Addr × Str)}, XAll K mg S ns Cs → Cs.length = ns.length
  | _, _, .nil => rfl
  | _, _, .cons _ r => congrArg (· + 1) r.len
theorem XAll.get {K : Fr} {mg : Str → Option Value} {S : Addr} : ∀ {ns : List (Str × Str)} {Cs : List (Addr × Str)}, XAll K mg S ns Cs → ∀ (c : Nat) (nm at_ : Str) (C : Addr) (a2 : Str), ns[c]? = some (nm, at_) → Cs[c]? = some (C, a2) → a2 = at_ ∧ XCls K mg nm at_ C S
  | _, _, .nil, c, _, _, _, _, h, _ => by simp at h
  | _, _, .cons x r, 0, _, _, _, _, h, h2 => by cases h; cases h2; exact ⟨rfl, x⟩
  | _, _, .cons x r, c + 1, nm, at_, C, a2, h, h2 => r.get c nm at_ C a2 (by simpa using h) (by simpa using h2)
def KRow (K : Fr) (C : Addr) (c : Nat) : Nat → List (Addr × Str) → Prop
  | _, [] => True
  | j, (J, _) :: r => PySem.W.kitOne K (.ref C) (.ref J) = some (c == j) ∧ KRow K C c (j + 1) r
def KTab (K : Fr) (Cs : List (Addr × Str)) : Nat → List (Addr × Str) → Prop
  | _, [] => True
  | c, (C, _) :: r => KRow K C c 0 Cs ∧ KTab K Cs (c + 1) r
theorem krow_get {K : Fr} {C : Addr} {c : Nat} : ∀ {l : List (Addr × Str)} {i : Nat}, KRow K C c i l → ∀ (j : Nat) (J : Addr) (b : Str), l[j]? = some (J, b) → PySem.W.kitOne K (.ref C) (.ref J) = some (c == i + j)
  | [], _, _, j, J, b, h => by simp at h
  | (J', _) :: r, i, ⟨h1, _⟩, 0, J, b, h => by cases h; exact h1
  | _ :: r, i, ⟨_, h2⟩, j + 1, J, b, h => by
    have := krow_get h2 j J b (by simpa using h)
    rwa [show i + 1 + j = i + (j + 1) by omega] at this
theorem ktab_get {K : Fr} {Cs : List (Addr × Str)} : ∀ {l : List (Addr × Str)} {i : Nat}, KTab K Cs i l → ∀ (c : Nat) (C : Addr) (a : Str), l[c]? = some (C, a) → KRow K C (i + c) 0 Cs
  | [], _, _, c, C, a, h => by simp at h
  | (C', _) :: r, i, ⟨h1, _⟩, 0, C, a, h => by cases h; exact h1
  | _ :: r, i, ⟨_, h2⟩, c + 1, C, a, h => by
    have := ktab_get h2 c C a (by simpa using h)
    rwa [show i + 1 + c = i + (c + 1) by omega] at this
theorem mk_xtab {K : Fr} {h : Heap} {mg : Str → Option Value} {ns : List (Str × Str)} {Cs : List (Addr × Str)} {S : Addr} (X : K.In h) (G : h.Ns mainGlobals mg) (aS : PySem.W.nsIn K mainGlobals "SockError" = some (some (.ref S))) (A : XAll K mg S ns Cs) (T : KTab K Cs 0 Cs) : ∃ Cs S, XTab K mg ns Cs S :=
  ⟨Cs, S, PySem.W.mg_of X G aS, A.len, A.get, fun c j C J a b hc hj => by
    have := krow_get (ktab_get T c C a hc) j J b hj
    rwa [Nat.zero_add, Nat.zero_add] at this⟩
theorem kit_self' (K : Fr) (C : Addr) (c : Nat) : PySem.W.kitOne K (.ref C) (.ref C) = some (c == c) := by
  rw [kit_self]; simp
theorem mk_xgv {K : Fr} {h : Heap} {mg : Str → Option Value} {cn : Str} {C fI S N : Addr} {nm q qn : Str} {bs : List Value} {sn : List Str} {sub : List Value} {ab : Bool} {col : Option Bool} {dd : Option Addr} {m0 m1 m2 m3 m5 : Option Value}
    {od an : Option Addr} {sl : Array (Option Value)} {oc dc pm cd ct : Value} {p1 p2 q1 q2 q3 q4 : Pos} (X : K.In h) (G : h.Ns mainGlobals mg)
    (aC : PySem.W.nsIn K mainGlobals cn = some (some (.ref C)))
    (xL : K.lookup C = some (PySem.excClassObj nm q C N bs [.ref S, .type "ValueError", .type "Exception", .type "BaseException", .type "object"] true sn sub ab col dd m0 m1 m2 m3 m5 "ValueError.__new__"))
    (sa : PySem.W.findIn K (.ref C) "__setattr__" = some (some (.builtin "object.__setattr__"))) (ga : PySem.W.findIn K (.ref C) "__getattribute__" = some (some (.builtin "BaseException.__getattribute__"))) (gg : PySem.W.findIn K (.ref C) "__getattr__" = some none)
    (nb : PySem.W.findIn K (.ref C) "given" = some none) (a1 : PySem.W.findIn K (.ref C) "__init__" = some (some (.ref fI))) (t1 : PySem.W.typeIn K (.ref fI) = some (.type "function"))
    (l1 : K.lookup fI = some ⟨oc, od, .func (PySem.W.fnOf "__init__" qn (PySem.LowGv.iA p1 p2) (PySem.LowGv.iB q1 q2 q3 q4) PySem.LowGv.iS .none .none dc pm an cd ct), sl⟩) (c1 : PySem.W.codeIn K cd qn = true)
    (kC : PySem.W.keepIn K (.ref C) = true) (eC : PySem.W.subIn K (.ref C) (.type "BaseException") = some true) (tC : PySem.W.typeIn K (.ref C) = some (.type "type")) (hC : PySem.W.hasDictIn K C = true)
    (eS : PySem.W.subIn K (.ref S) (.type "BaseException") = some true) (hS : PySem.W.hasDictIn K S = true) (tS : PySem.W.typeIn K (.ref S) = some (.type "type")) (sS : PySem.W.subIn K (.ref C) (.ref S) = some true)
    (cC : (PySem.W.clsIn K C).isSome = true) (ha : PySem.W.findIn K (.ref C) "__class__" = some (some (.builtin "object.__class__"))) (hn : PySem.W.specialIn K (.builtin "object.__class__") "__get__" = some (some (.builtin "getset_descriptor.__get__")))
    (ht : PySem.W.takesIn K (.builtin "object.__class__") = some true) (hm : PySem.W.mroIn K C (.type "object") = some true) (iV : PySem.W.kitOne K (.ref C) (.type "ValueError") = some true) :
    XCls K mg cn "given" C S :=
  { low := .inl ⟨rfl, fI, { gC := PySem.W.mg_of X G aC, cls := ⟨nm, q, N, bs, _, sn, sub, ab, col, dd, m0, m1, m2, m3, m5, xL, by rfl⟩, sa := sa, ga := ga, gg := gg, noN := nb, iC := a1, tC := t1, kC := kC, exC := eC, tyC := tC, hdC := hC, fn := ⟨_, _, _, _, _, _, _, _, _, _, _, _, _, _, _, l1, c1⟩ }⟩,
    te := PySem.W.exm_ref eS hS tS sS, ex := ⟨cC, ga, gg, eC, ha, hn, ht, hm⟩, iV := iV }
theorem mk_xix {K : Fr} {h : Heap} {mg : Str → Option Value} {cn : Str} {C fI S N : Addr} {nm q qn : Str} {bs : List Value} {sn : List Str} {sub : List Value} {ab : Bool} {col : Option Bool} {dd : Option Addr} {m0 m1 m2 m3 m5 : Option Value}
    {od an : Option Addr} {sl : Array (Option Value)} {oc dc pm cd ct : Value} {p1 p2 q1 q2 q3 q4 : Pos} (X : K.In h) (G : h.Ns mainGlobals mg)
    (aC : PySem.W.nsIn K mainGlobals cn = some (some (.ref C)))
    (xL : K.lookup C = some (PySem.excClassObj nm q C N bs [.ref S, .type "ValueError", .type "Exception", .type "BaseException", .type "object"] true sn sub ab col dd m0 m1 m2 m3 m5 "ValueError.__new__"))
    (sa : PySem.W.findIn K (.ref C) "__setattr__" = some (some (.builtin "object.__setattr__"))) (ga : PySem.W.findIn K (.ref C) "__getattribute__" = some (some (.builtin "BaseException.__getattribute__"))) (gg : PySem.W.findIn K (.ref C) "__getattr__" = some none)
    (nb : PySem.W.findIn K (.ref C) "index" = some none) (a1 : PySem.W.findIn K (.ref C) "__init__" = some (some (.ref fI))) (t1 : PySem.W.typeIn K (.ref fI) = some (.type "function"))
    (l1 : K.lookup fI = some ⟨oc, od, .func (PySem.W.fnOf "__init__" qn (PySem.LowIx.iA p1 p2) (PySem.LowIx.iB q1 q2 q3 q4) PySem.LowIx.iS .none .none dc pm an cd ct), sl⟩) (c1 : PySem.W.codeIn K cd qn = true)
    (kC : PySem.W.keepIn K (.ref C) = true) (eC : PySem.W.subIn K (.ref C) (.type "BaseException") = some true) (tC : PySem.W.typeIn K (.ref C) = some (.type "type")) (hC : PySem.W.hasDictIn K C = true)
    (eS : PySem.W.subIn K (.ref S) (.type "BaseException") = some true) (hS : PySem.W.hasDictIn K S = true) (tS : PySem.W.typeIn K (.ref S) = some (.type "type")) (sS : PySem.W.subIn K (.ref C) (.ref S) = some true)
    (cC : (PySem.W.clsIn K C).isSome = true) (ha : PySem.W.findIn K (.ref C) "__class__" = some (some (.builtin "object.__class__"))) (hn : PySem.W.specialIn K (.builtin "object.__class__") "__get__" = some (some (.builtin "getset_descriptor.__get__")))
    (ht : PySem.W.takesIn K (.builtin "object.__class__") = some true) (hm : PySem.W.mroIn K C (.type "object") = some true) (iV : PySem.W.kitOne K (.ref C) (.type "ValueError") = some true) :
    XCls K mg cn "index" C S :=
  { low := .inr ⟨rfl, fI, { gC := PySem.W.mg_of X G aC, cls := ⟨nm, q, N, bs, _, sn, sub, ab, col, dd, m0, m1, m2, m3, m5, xL, by rfl⟩, sa := sa, ga := ga, gg := gg, noN := nb, iC := a1, tC := t1, kC := kC, exC := eC, tyC := tC, hdC := hC, fn := ⟨_, _, _, _, _, _, _, _, _, _, _, _, _, _, _, l1, c1⟩ }⟩,
    te := PySem.W.exm_ref eS hS tS sS, ex := ⟨cC, ga, gg, eC, ha, hn, ht, hm⟩, iV := iV }
/-! ### calls by names -/
section
variable {X : Cx} {Cs : List (Addr × Str)} {E : L2.St → XK} {fl fk : Sl → Mem → Res (List Val)} {e : Expr} {es : List Expr} {kws : List Keyword} {pos : Pos} {fr : Bool}
theorem px_callN0 {n m k : Nat} {f : Addr} {fn : FuncData} {x : Str} {st : Stmt} {p : Pos} {ps ks : List Str} {g : List Val → Mem → Rx Val} {ord : {α : Type} → List α → List α → List α} {gv : List Value → List Value → List Value} (hl : ∀ xs M, g xs M ≠ .bad → xs.length = n) (F : Fun X.K x x st f fn)
    (G : FnOk X.prog X.w X.K X.mg X.base (L2.CX X.prog X.w) k f fn ps (spX2 fr X.K Cs n g)) (hr : Room k X.A) (hm : X.mg x = some (.ref f)) (ok : OrdOk ord) (hb : KBn X.K fn ps 0 ks gv (fun us ws => ord us ws)) (hm2 : m = ks.length) (hx : ∀ σ, PassesAt (L2.CX X.prog X.w) X σ (E σ)) (ha : PK X kws (LA X.K fk)) (hg : Gl X x := by rfl)
    (hall : (backToKw pos (keywordEach kws X.env)).all (·.1.isSome) = true := by rfl) (hks : (backToKw pos (keywordEach kws X.env)).filterMap (·.1) = ks := by rfl) (hdb : (x == ("__debug__" : Str)) = false := by decide +kernel)
    (hpl : ((backTo pos (starEach [] X.env)).any (·.1) || (backToKw pos (keywordEach kws X.env)).any (·.1.isNone)) = false := by rfl) : PE X (.Call (.Name x p) [] kws pos) (LEx fr X.K Cs E (xCallN 0 m ord g evNil fk)) := by
  refine (pe_callN0S G hr hg hm F.kp hb hx ha hall hks hdb hpl).imp fun σ H Q ⟨δ, M, F, μ, S, R, x⟩ => ?_
  obtain ⟨vs, M0, e0, x0⟩ := XW.of x.bind
  cases e0
  obtain ⟨ws, M1, e1, x1⟩ := XW.of (XW.bind x0)
  refine ⟨δ, M, F, μ, ws, M1, S, R, e1, fun F1 μ1 H1 zs st1 S1 r1 => ?_⟩
  split at x1
  · rename_i hc
    have l2 : zs.length = ks.length := by rw [← r1.length, ← hm2]; exact hc.2
    have rr : RepVs X.K F1 μ1 (ord [] ws) (ord [] zs) := RepVs.of (ok.rel .nil r1.paired)
    refine ⟨l2, ?_, ord [] ws, M1, F1, μ1, S1, rr, (x1.step st1).mono fun v M2 k F' μ' H' u st S' p => k F' μ' H' u (st1.transE st) S' (PostV.back (fun a h => st1.up a h) p)⟩
    rw [← rr.length]
    exact hl _ M1 fun z => by rw [z] at x1; exact x1
  · exact x1.elim
theorem px_callN {np n m k : Nat} {f : Addr} {fn : FuncData} {x : Str} {st : Stmt} {p : Pos} {ps ks : List Str} {g : List Val → Mem → Rx Val} {ord : {α : Type} → List α → List α → List α} {gv : List Value → List Value → List Value} (hl : ∀ xs M, g xs M ≠ .bad → xs.length = np) (F : Fun X.K x x st f fn)
    (G : FnOk X.prog X.w X.K X.mg X.base (L2.CX X.prog X.w) k f fn ps (spX2 fr X.K Cs np g)) (hr : Room k X.A) (hm : X.mg x = some (.ref f)) (ok : OrdOk ord) (hb : KBn X.K fn ps n ks gv (fun us ws => ord us ws)) (hm2 : m = ks.length) (hx : ∀ σ, PassesAt (L2.CX X.prog X.w) X σ (E σ)) (ha : PA X (e :: es) (LA X.K fl)) (hkw : PK X kws (LA X.K fk)) (hg : Gl X x := by rfl)
    (hall : (backToKw pos (keywordEach kws X.env)).all (·.1.isSome) = true := by rfl) (hks : (backToKw pos (keywordEach kws X.env)).filterMap (·.1) = ks := by rfl) (hdb : (x == ("__debug__" : Str)) = false := by decide +kernel)
    (hpl : (e :: es).all plainArg = true := by rfl) (hany : (backToKw pos (keywordEach kws X.env)).any (·.1.isNone) = false := by rfl) : PE X (.Call (.Name x p) (e :: es) kws pos) (LEx fr X.K Cs E (xCallN n m ord g fl fk)) := by
  have hpl' := hpl
  rw [List.all_cons, Bool.and_eq_true] at hpl
  refine (pe_callNS G hr hg hm F.kp hb hx ha hkw hall hks hdb (star_plain hpl.1 es X.env) (by rw [star_any hpl', hany]; rfl)).imp fun σ H Q ⟨δ, M, F, μ, S, R, x⟩ => ?_
  obtain ⟨vs, M0, e0, x0⟩ := XW.of x.bind
  obtain ⟨ws, M1, e1, x1⟩ := XW.of (XW.bind x0)
  refine ⟨δ, M, F, μ, vs, M0, S, R, e0, fun F0 μ0 H0 us st0 S0 r0 => ⟨δ, M0, F0, μ0, ws, M1, S0, R.mono st0.fr st0.whole, e1, fun F1 μ1 H1 zs st1 S1 r1 => ?_⟩⟩
  split at x1
  · rename_i hc
    have rr : RepVs X.K F1 μ1 (ord vs ws) (ord us zs) := RepVs.of (ok.rel (r0.mono st1.fr st1.whole).paired r1.paired)
    refine ⟨by rw [← r0.length]; exact hc.1, by rw [← r1.length, ← hm2]; exact hc.2, ?_, ord vs ws, M1, F1, μ1, S1, rr, ((x1.step st0).step st1).mono fun v M2 k F' μ' H' u st S' p => k F' μ' H' u (st0.transE (st1.transE st)) S' (PostV.back (fun a h => st0.up a (st1.up a h)) p)⟩
    rw [← rr.length]
    exact hl _ M1 fun z => by rw [z] at x1; exact x1
  · exact x1.elim
end
end DL
end P_DLxt
section P_K02A
set_option Elab.async false
set_option linter.all false
set_option maxRecDepth 100000
set_option maxHeartbeats 4000000
namespace K02
open PySem PySem.Spec PyProof.Rows L2 DL
def top (i : Nat) : Stmt := PySem.Challenge.pw_sockrows_k02_whole_rows_of_anything.main.body.getD i (.Pass ⟨0, 0, 0, 0⟩)
abbrev s__law_take : Stmt := top 40
abbrev s__law_drawn_row : Stmt := top 46
abbrev s__law_is_row : Stmt := top 44
abbrev s__law_is : Stmt := top 42
abbrev s_is_text_of : Stmt := top 5
abbrev s_is_rowed : Stmt := top 9
abbrev s_check_row : Stmt := top 13
abbrev s_lumps_of : Stmt := top 19
abbrev s_text_of_lumps : Stmt := top 31
abbrev s_lumps_text : Stmt := top 36
abbrev s_count_told : Stmt := top 30
abbrev s_lump_told : Stmt := top 32
abbrev s_row_of_lumps : Stmt := top 33
abbrev s_check_told : Stmt := top 35
abbrev s_read_lumps : Stmt := top 37
abbrev s_is_row : Stmt := top 15
abbrev s_lump_count_by : Stmt := top 20
abbrev s_lump_count : Stmt := top 24
abbrev s__law_lumps : Stmt := top 45
abbrev s_colours_by : Stmt := top 10
abbrev s_colours_of : Stmt := top 16
abbrev s_named_by : Stmt := top 11
abbrev s_named : Stmt := top 17
abbrev s_lumps : Stmt := top 23
abbrev s_is_tidy_by : Stmt := top 21
abbrev s_is_tidy : Stmt := top 25
abbrev s__law_refused : Stmt := top 48
abbrev s__law_value_right : Stmt := top 49
abbrev s__law_pick : Stmt := top 41
abbrev s__law_odd : Stmt := top 43
abbrev s__law_bent_row : Stmt := top 47
abbrev s__law_right : Stmt := top 50
abbrev s__law_well : Stmt := top 39
abbrev s_law : Stmt := top 51
abbrev xns : List (Str × Str) := [("InvalidRow", "given")]
structure Tx (K : PySem.W.Frag) (mg : Str → Option Value) : Prop where
  d__law_take : ∃ f fd, mg "_law_take" = some (.ref f) ∧ Fun K "_law_take" "_law_take" s__law_take f fd
  d__law_drawn_row : ∃ f fd, mg "_law_drawn_row" = some (.ref f) ∧ Fun K "_law_drawn_row" "_law_drawn_row" s__law_drawn_row f fd
  d__law_is_row : ∃ f fd, mg "_law_is_row" = some (.ref f) ∧ Fun K "_law_is_row" "_law_is_row" s__law_is_row f fd
  d__law_is : ∃ f fd, mg "_law_is" = some (.ref f) ∧ Fun K "_law_is" "_law_is" s__law_is f fd
  d_is_text_of : ∃ f fd, mg "is_text_of" = some (.ref f) ∧ Fun K "is_text_of" "is_text_of" s_is_text_of f fd
  d_is_rowed : ∃ f fd, mg "is_rowed" = some (.ref f) ∧ Fun K "is_rowed" "is_rowed" s_is_rowed f fd
  d_check_row : ∃ f fd, mg "check_row" = some (.ref f) ∧ Fun K "check_row" "check_row" s_check_row f fd
  d_lumps_of : ∃ f fd, mg "lumps_of" = some (.ref f) ∧ Fun K "lumps_of" "lumps_of" s_lumps_of f fd
  d_text_of_lumps : ∃ f fd, mg "text_of_lumps" = some (.ref f) ∧ Fun K "text_of_lumps" "text_of_lumps" s_text_of_lumps f fd
  d_lumps_text : ∃ f fd, mg "lumps_text" = some (.ref f) ∧ Fun K "lumps_text" "lumps_text" s_lumps_text f fd
  d_count_told : ∃ f fd, mg "count_told" = some (.ref f) ∧ Fun K "count_told" "count_told" s_count_told f fd
  d_lump_told : ∃ f fd, mg "lump_told" = some (.ref f) ∧ Fun K "lump_told" "lump_told" s_lump_told f fd
  d_row_of_lumps : ∃ f fd, mg "row_of_lumps" = some (.ref f) ∧ Fun K "row_of_lumps" "row_of_lumps" s_row_of_lumps f fd
  d_check_told : ∃ f fd, mg "check_told" = some (.ref f) ∧ Fun K "check_told" "check_told" s_check_told f fd
  d_read_lumps : ∃ f fd, mg "read_lumps" = some (.ref f) ∧ Fun K "read_lumps" "read_lumps" s_read_lumps f fd
  d_is_row : ∃ f fd, mg "is_row" = some (.ref f) ∧ Fun K "is_row" "is_row" s_is_row f fd
  d_lump_count_by : ∃ f fd, mg "lump_count_by" = some (.ref f) ∧ Fun K "lump_count_by" "lump_count_by" s_lump_count_by f fd
  d_lump_count : ∃ f fd, mg "lump_count" = some (.ref f) ∧ Fun K "lump_count" "lump_count" s_lump_count f fd
  d__law_lumps : ∃ f fd, mg "_law_lumps" = some (.ref f) ∧ Fun K "_law_lumps" "_law_lumps" s__law_lumps f fd
  d_colours_by : ∃ f fd, mg "colours_by" = some (.ref f) ∧ Fun K "colours_by" "colours_by" s_colours_by f fd
  d_colours_of : ∃ f fd, mg "colours_of" = some (.ref f) ∧ Fun K "colours_of" "colours_of" s_colours_of f fd
  d_named_by : ∃ f fd, mg "named_by" = some (.ref f) ∧ Fun K "named_by" "named_by" s_named_by f fd
  d_named : ∃ f fd, mg "named" = some (.ref f) ∧ Fun K "named" "named" s_named f fd
  d_lumps : ∃ f fd, mg "lumps" = some (.ref f) ∧ Fun K "lumps" "lumps" s_lumps f fd
  d_is_tidy_by : ∃ f fd, mg "is_tidy_by" = some (.ref f) ∧ Fun K "is_tidy_by" "is_tidy_by" s_is_tidy_by f fd
  d_is_tidy : ∃ f fd, mg "is_tidy" = some (.ref f) ∧ Fun K "is_tidy" "is_tidy" s_is_tidy f fd
  d__law_refused : ∃ f fd, mg "_law_refused" = some (.ref f) ∧ Fun K "_law_refused" "_law_refused" s__law_refused f fd
  d__law_value_right : ∃ f fd, mg "_law_value_right" = some (.ref f) ∧ Fun K "_law_value_right" "_law_value_right" s__law_value_right f fd
  d__law_pick : ∃ f fd, mg "_law_pick" = some (.ref f) ∧ Fun K "_law_pick" "_law_pick" s__law_pick f fd
  d__law_odd : ∃ f fd, mg "_law_odd" = some (.ref f) ∧ Fun K "_law_odd" "_law_odd" s__law_odd f fd
  d__law_bent_row : ∃ f fd, mg "_law_bent_row" = some (.ref f) ∧ Fun K "_law_bent_row" "_law_bent_row" s__law_bent_row f fd
  d__law_right : ∃ f fd, mg "_law_right" = some (.ref f) ∧ Fun K "_law_right" "_law_right" s__law_right f fd
  d__law_well : ∃ f fd, mg "_law_well" = some (.ref f) ∧ Fun K "_law_well" "_law_well" s__law_well f fd
  d_law : ∃ f fd, mg "law" = some (.ref f) ∧ Fun K "law" "law" s_law f fd
  b_abs : mg "abs" = none
  b_all : mg "all" = none
  b_bool : mg "bool" = none
  b_dict : mg "dict" = none
  b_divmod : mg "divmod" = none
  b_enumerate : mg "enumerate" = none
  b_int : mg "int" = none
  b_isinstance : mg "isinstance" = none
  b_len : mg "len" = none
  b_list : mg "list" = none
  b_max : mg "max" = none
  b_min : mg "min" = none
  b_range : mg "range" = none
  b_sorted : mg "sorted" = none
  b_str : mg "str" = none
  b_sum : mg "sum" = none
  b_tuple : mg "tuple" = none
  c_BLANK : Cst K mg "BLANK" (.str [' '])
  c_COLOURS : Cst K mg "COLOURS" (.str ['a', 'b', 'c', 'd', 'e', 'f'])
  c_DIGITS : Cst K mg "DIGITS" (.str ['0', '1', '2', '3', '4', '5', '6', '7', '8', '9'])
  c_MOST_SOCKS : Cst K mg "MOST_SOCKS" (.int 12)
  c_NONE_TEXT : Cst K mg "NONE_TEXT" (.str ['n', 'o', 'n', 'e'])
  x_tab : ∃ Cs S, XTab K mg xns Cs S
end K02
end P_K02A
section P_K02G
set_option Elab.async false
set_option linter.all false
set_option maxRecDepth 100000
set_option maxHeartbeats 4000000
namespace K02
open DL
def xgiven (c : Nat) : Bool := [true].getD c false
def xindex (c : Nat) : Bool := [false].getD c false
def g__law_take : List Val → Mem → Res Val := defG false 2 2 fun bs => (evSeq (evIte (tst (ev2 (cmpV .gt) (ev2 subD (vV 0) (vC (.int 0))) (vC (.int 0)))) (evSeq (evAsg (evB (biD .divmod) (evCons (ev2 subD (vV 0) (vC (.int 0))) (evCons (vV 1) evNil))) (stTup 2 (stCons (stSub 0 (vC (.int 0))) (stCons (stN 2) stNil)))) (evSeq (sRet (vV 2)) sPass)) sPass) (evSeq (evAsg (ev2 (binD .add) (ev2 subD (vV 0) (vC (.int 2))) (vC (.int 1))) (stSub 0 (vC (.int 2)))) (evSeq (evAsg (ev2 (binD .add) (ev2 (binD .mod) (evB (biD .int) (evCons (ev2 subD (vV 0) (vC (.int 1))) evNil)) (vC (.int 28657))) (vC (.int 40009))) (stN 3)) (evSeq (evAsg (ev2 (binD .mod) (evB (biD .int) (evCons (ev2 (binD .add) (ev2 (binD .add) (ev2 (binD .mul) (ev2 subD (vV 0) (vC (.int 1))) (vV 3)) (ev2 (binD .mul) (vC (.int 50023)) (ev2 subD (vV 0) (vC (.int 2))))) (vC (.int 17))) evNil)) (vC (.int 2147483563))) (stSub 0 (vC (.int 1)))) (evSeq (sRet (ev2 (binD .mod) (evB (biD .int) (evCons (ev2 (binD .fdiv) (ev2 subD (vV 0) (vC (.int 1))) (vC (.int 83))) evNil)) (vV 1))) sPass)))))
theorem ln__law_take : ∀ xs M x M', g__law_take xs M = .ok x M' → xs.length = 2 := defG_len
def e__law_drawn_row_1 : Sl → Mem → Res Val := (ev2 subD (vC (.str ['a', 'b', 'c', 'd', 'e', 'f'])) (evCall g__law_take (evCons (vV 0) (evCons (vV 4) evNil))))
def g__law_drawn_row : List Val → Mem → Res Val := defG false 2 5 fun bs => (evSeq (evPar [2, 3, 4] (evCons (evCall g__law_take (evCons (vV 0) (evCons (vC (.int 6)) evNil))) (evCons (evCall g__law_take (evCons (vV 0) (evCons (ev2 (binD .add) (vV 1) (vC (.int 1))) evNil))) (evCons (ev2 (binD .add) (vC (.int 1)) (evCall g__law_take (evCons (vV 0) (evCons (vC (.int 6)) evNil)))) evNil)))) (evSeq (evAsg (evM (meD .join) (vC (.str [])) (evCons (evLc [6] (.n 6) (evRng (evCons (vV 3) evNil)) ifs0 e__law_drawn_row_1) evNil)) (stN 5)) (evSeq (evIte (tst (ev2 (cmpV .eq) (vV 2) (vC (.int 0)))) (evSeq (evAsg (evM (meD .join) (vC (.str [])) (evCons (evB sortedSx (evCons (vV 5) evNil)) evNil)) (stN 5)) sPass) sPass) (evSeq (evIte (tst (evAnd (ev2 (cmpV .eq) (vV 2) (vC (.int 1))) (ev2 (cmpV .gt) (vV 3) (vC (.int 1))))) (evSeq (evAsg (evM (meD .join) (vC (.str [])) (evCons (evB sortedSx (evCons (vV 5) evNil)) evNil)) (stN 5)) (evSeq (evAsg (evCall g__law_take (evCons (vV 0) (evCons (vV 3) evNil))) (stN 6)) (evSeq (evAsg (ev2 (binD .add) (ev2 (fun x y => sliceD x (some y) none) (vV 5) (vV 6)) (ev2 (fun x y => sliceD x none (some y)) (vV 5) (vV 6))) (stN 5)) sPass))) sPass) (evSeq (sRet (vV 5)) sPass)))))
theorem ln__law_drawn_row : ∀ xs M x M', g__law_drawn_row xs M = .ok x M' → xs.length = 2 := defG_len
def i__law_is_row_1 : Sl → Mem → Res Bool := (ifs1 (tst (ev2 (cmpV .notin) (vV 1) (vC (.str ['a', 'b', 'c', 'd', 'e', 'f'])))))
def g__law_is_row : List Val → Mem → Res Val := defG false 1 1 fun bs => (evSeq (sRet (evAnd (ev1 (isiD .str) (vV 0)) (evAnd (ev2 (cmpV .lt) (evB (biD .len) (evCons (vV 0) evNil)) (vC (.int 13))) (ev2 (cmpV .eq) (evLc [1] (.n 1) (evIt (vV 0)) i__law_is_row_1 (vV 1)) (evLst evDNil))))) sPass)
theorem ln__law_is_row : ∀ xs M x M', g__law_is_row xs M = .ok x M' → xs.length = 1 := defG_len
def g__law_is : Nat → List Val → Mem → Res Val
  | 0 => fun _ _ => .bad
  | n + 1 => defG false 2 2 fun bs => (evSeq (evIte (tst (ev1 (isiD .tuple) (vV 1))) (evSeq (evIte (tst (evOr (evNot (ev1 (isiD .tuple) (vV 0))) (ev2 (cmpV .ne) (evB (biD .len) (evCons (vV 0) evNil)) (evB (biD .len) (evCons (vV 1) evNil))))) (evSeq (sRet (vC (.bl false))) sPass) sPass) (evSeq (sRet (evB (biD .all) (evCons (evLc [2, 3] (.t [(.n 2), (.n 3)]) (evEnmT (vV 1)) ifs0 (evCall (g__law_is n) (evCons (ev2 subD (vV 0) (vV 2)) (evCons (vV 3) evNil)))) evNil))) sPass)) sPass) (evSeq (evIte (tst (ev1 (isiD .list) (vV 1))) (evSeq (sRet (evAnd (ev1 (isiD .list) (vV 0)) (evCall (g__law_is n) (evCons (evB (biD .tuple) (evCons (vV 0) evNil)) (evCons (evB (biD .tuple) (evCons (vV 1) evNil)) evNil))))) sPass) sPass) (evSeq (evIte (tst (ev1 (isiD .dict) (vV 1))) (evSeq (sRet (evAnd (ev1 (isiD .dict) (vV 0)) (ev2 eqC (vV 0) (vV 1)))) sPass) sPass) (evSeq (evIte (tst (evOr (ev2 (cmpV .is) (vV 1) (vC .non)) (evOr (ev2 (cmpV .is) (vV 1) (vC (.bl true))) (ev2 (cmpV .is) (vV 1) (vC (.bl false)))))) (evSeq (sRet (evIf (tst (ev2 (cmpV .is) (vV 1) (vC .non))) (ev2 (cmpV .is) (vV 0) (vC .non)) (evIf (tst (ev2 (cmpV .is) (vV 1) (vC (.bl true)))) (ev2 (cmpV .is) (vV 0) (vC (.bl true))) (ev2 (cmpV .is) (vV 0) (vC (.bl false)))))) sPass) sPass) (evSeq (evIte (tst (ev1 (isiD .int) (vV 1))) (evSeq (sRet (evAnd (ev1 (isiD .int) (vV 0)) (evAnd (evNot (ev1 (isiD .bool) (vV 0))) (ev2 eqC (vV 0) (vV 1))))) sPass) sPass) (evSeq (sRet (evAnd (ev1 (isiD .str) (vV 0)) (ev2 eqC (vV 0) (vV 1)))) sPass))))))
theorem ln__law_is : ∀ n xs M x M', g__law_is n xs M = .ok x M' → xs.length = 2
  | 0, _, _, _, _, h => by cases h
  | n + 1, xs, M, x, M', h => defG_len (f := fun bs => (evSeq (evIte (tst (ev1 (isiD .tuple) (vV 1))) (evSeq (evIte (tst (evOr (evNot (ev1 (isiD .tuple) (vV 0))) (ev2 (cmpV .ne) (evB (biD .len) (evCons (vV 0) evNil)) (evB (biD .len) (evCons (vV 1) evNil))))) (evSeq (sRet (vC (.bl false))) sPass) sPass) (evSeq (sRet (evB (biD .all) (evCons (evLc [2, 3] (.t [(.n 2), (.n 3)]) (evEnmT (vV 1)) ifs0 (evCall (g__law_is n) (evCons (ev2 subD (vV 0) (vV 2)) (evCons (vV 3) evNil)))) evNil))) sPass)) sPass) (evSeq (evIte (tst (ev1 (isiD .list) (vV 1))) (evSeq (sRet (evAnd (ev1 (isiD .list) (vV 0)) (evCall (g__law_is n) (evCons (evB (biD .tuple) (evCons (vV 0) evNil)) (evCons (evB (biD .tuple) (evCons (vV 1) evNil)) evNil))))) sPass) sPass) (evSeq (evIte (tst (ev1 (isiD .dict) (vV 1))) (evSeq (sRet (evAnd (ev1 (isiD .dict) (vV 0)) (ev2 eqC (vV 0) (vV 1)))) sPass) sPass) (evSeq (evIte (tst (evOr (ev2 (cmpV .is) (vV 1) (vC .non)) (evOr (ev2 (cmpV .is) (vV 1) (vC (.bl true))) (ev2 (cmpV .is) (vV 1) (vC (.bl false)))))) (evSeq (sRet (evIf (tst (ev2 (cmpV .is) (vV 1) (vC .non))) (ev2 (cmpV .is) (vV 0) (vC .non)) (evIf (tst (ev2 (cmpV .is) (vV 1) (vC (.bl true)))) (ev2 (cmpV .is) (vV 0) (vC (.bl true))) (ev2 (cmpV .is) (vV 0) (vC (.bl false)))))) sPass) sPass) (evSeq (evIte (tst (ev1 (isiD .int) (vV 1))) (evSeq (sRet (evAnd (ev1 (isiD .int) (vV 0)) (evAnd (evNot (ev1 (isiD .bool) (vV 0))) (ev2 eqC (vV 0) (vV 1))))) sPass) sPass) (evSeq (sRet (evAnd (ev1 (isiD .str) (vV 0)) (ev2 eqC (vV 0) (vV 1)))) sPass))))))) xs M x M' h
def e_is_text_of_1 : Sl → Mem → Res Val := (ev2 (cmpV .isin) (vV 2) (vV 1))
def g_is_text_of : List Val → Mem → Res Val := defG false 2 1 fun bs => (evSeq (sRet (evAnd (ev1 (isiD .str) (vV 0)) (evB (biD .all) (evCons (evLc [2] (.n 2) (evIt (vV 0)) ifs0 e_is_text_of_1) evNil)))) sPass)
theorem ln_is_text_of : ∀ xs M x M', g_is_text_of xs M = .ok x M' → xs.length = 2 := defG_len
def g_is_rowed : List Val → Mem → Res Val := defG false 1 0 fun bs => (evSeq (sRet (evAnd (evCall g_is_text_of (evCons (vV 0) (evCons (vC (.str ['a', 'b', 'c', 'd', 'e', 'f'])) evNil))) (ev2 (cmpV .le) (evB (biD .len) (evCons (vV 0) evNil)) (vC (.int 12))))) sPass)
theorem ln_is_rowed : ∀ xs M x M', g_is_rowed xs M = .ok x M' → xs.length = 1 := defG_len
def g_check_row : List Val → Mem → Res Val := defG false 1 0 fun bs => (evSeq (evIte (tst (evNot (evCall g_is_rowed (evCons (vV 0) evNil)))) (evSeq sNever sPass) sPass) sPass)
theorem ln_check_row : ∀ xs M x M', g_check_row xs M = .ok x M' → xs.length = 1 := defG_len
def x_check_row : List Val → Mem → Rx Val := defGX false 1 0 fun bs => (xSeq (xIte (tst (evNot (evCall g_is_rowed (evCons (vV 0) evNil)))) (xSeq (xRaise 0 (vV 0)) xPass) (xlS sPass)) xPass)
theorem lnx_check_row : ∀ xs M, x_check_row xs M ≠ .bad → xs.length = 1 := defGX_len
def l_lumps_of_1 : Sl → Mem → Res Flow := (evSeq (evIte (tst (evAnd (ev2 (cmpV .ne) (vV 1) (evLst evDNil)) (ev2 (cmpV .eq) (ev2 subD (ev2 subD (vV 1) (ev1 negD (vC (.int 1)))) (vC (.int 0))) (vV 2)))) (evSeq (evAsg (evTup (evConsD (vV 2) (evConsD (ev2 (binD .add) (ev2 subD (ev2 subD (vV 1) (ev1 negD (vC (.int 1)))) (vC (.int 1))) (vC (.int 1))) evDNil))) (stSub 1 (ev1 negD (vC (.int 1))))) sPass) (evSeq (sEx (evMu .append 1 (evCons (evTup (evConsD (vV 2) (evConsD (vC (.int 1)) evDNil))) evNil))) sPass)) sPass)
def g_lumps_of : List Val → Mem → Res Val := defG true 1 2 fun bs => (evSeq (evAsg (newOf (evLst evDNil)) (stN 1)) (evSeq (evFor (.n 2) (evIt (vV 0)) l_lumps_of_1) (evSeq (sRet (vV 1)) sPass)))
theorem ln_lumps_of : ∀ xs M x M', g_lumps_of xs M = .ok x M' → xs.length = 1 := defG_len
def e_text_of_lumps_1 : Sl → Mem → Res Val := (evJoined (evJFmt (vV 2) (evJFmt (vV 1) evJNil)))
def g_text_of_lumps : List Val → Mem → Res Val := defG false 1 2 fun bs => (evSeq (sRet (evIf (tst (ev2 (cmpV .ne) (vV 0) (vC (.str [])))) (evM (meD .join) (vC (.str [' '])) (evCons (evLc [1, 2] (.t [(.n 1), (.n 2)]) (evIt (evCall g_lumps_of (evCons (vV 0) evNil))) ifs0 e_text_of_lumps_1) evNil)) (vC (.str ['n', 'o', 'n', 'e'])))) sPass)
theorem ln_text_of_lumps : ∀ xs M x M', g_text_of_lumps xs M = .ok x M' → xs.length = 1 := defG_len
def g_lumps_text : List Val → Mem → Res Val := defG false 1 0 fun bs => (evSeq (sEx (evCall g_check_row (evCons (vV 0) evNil))) (evSeq (sRet (evCall g_text_of_lumps (evCons (vV 0) evNil))) sPass))
theorem ln_lumps_text : ∀ xs M x M', g_lumps_text xs M = .ok x M' → xs.length = 1 := defG_len
def g_count_told : List Val → Mem → Res Val := defG false 1 0 fun bs => (evSeq (evIte (tst (evOr (ev2 (cmpV .eq) (vV 0) (vC (.str []))) (evNot (evCall g_is_text_of (evCons (vV 0) (evCons (vC (.str ['0', '1', '2', '3', '4', '5', '6', '7', '8', '9'])) evNil)))))) (evSeq (sRet (vC .non)) sPass) sPass) (evSeq (sRet (evIf (tst (evAnd (ev2 (cmpV .eq) (ev2 subD (vV 0) (vC (.int 0))) (vC (.str ['0']))) (ev2 (cmpV .gt) (evB (biD .len) (evCons (vV 0) evNil)) (vC (.int 1))))) (vC .non) (evB intTD (evCons (vV 0) evNil)))) sPass))
theorem ln_count_told : ∀ xs M x M', g_count_told xs M = .ok x M' → xs.length = 1 := defG_len
def g_lump_told : List Val → Mem → Res Val := defG false 1 1 fun bs => (evSeq (evAsg (evCall g_count_told (evCons (ev2 (fun x y => sliceD x none (some y)) (vV 0) (ev1 negD (vC (.int 1)))) evNil)) (stN 1)) (evSeq (sRet (evIf (tst (evAnd (ev2 (cmpV .isnot) (vV 1) (vC .non)) (ev2 (cmpV .le) (vV 1) (vC (.int 12))))) (ev2 (binD .mul) (ev2 subD (vV 0) (ev1 negD (vC (.int 1)))) (vV 1)) (vC .non))) sPass))
theorem ln_lump_told : ∀ xs M x M', g_lump_told xs M = .ok x M' → xs.length = 1 := defG_len
def e_row_of_lumps_1 : Sl → Mem → Res Val := (evCall g_lump_told (evCons (vV 2) evNil))
def g_row_of_lumps : List Val → Mem → Res Val := defG false 1 3 fun bs => (evSeq (evIte (tst (evNot (ev1 (isiD .str) (vV 0)))) (evSeq (sRet (vC .non)) sPass) sPass) (evSeq (evAsg (evIf (tst (ev2 (cmpV .ne) (vV 0) (vC (.str ['n', 'o', 'n', 'e'])))) (evLc [2] (.n 2) (evIt (evSplit (vV 0) (vC (.str [' '])))) ifs0 e_row_of_lumps_1) (evLst evDNil)) (stN 1)) (evSeq (evAsg (evIf (tst (ev2 (cmpV .notin) (vC .non) (vV 1))) (evM (meD .join) (vC (.str [])) (evCons (vV 1) evNil)) (vC .non)) (stN 3)) (evSeq (sRet (evIf (tst (evAnd (evCall g_is_rowed (evCons (vV 3) evNil)) (ev2 (cmpV .eq) (evCall g_text_of_lumps (evCons (vV 3) evNil)) (vV 0)))) (vV 3) (vC .non))) sPass))))
theorem ln_row_of_lumps : ∀ xs M x M', g_row_of_lumps xs M = .ok x M' → xs.length = 1 := defG_len
def g_check_told : List Val → Mem → Res Val := defG false 2 0 fun bs => (evSeq (evIte (tst (ev2 (cmpV .is) (vV 0) (vC .non))) (evSeq sNever sPass) sPass) sPass)
theorem ln_check_told : ∀ xs M x M', g_check_told xs M = .ok x M' → xs.length = 2 := defG_len
def g_read_lumps : List Val → Mem → Res Val := defG false 1 1 fun bs => (evSeq (evAsg (evCall g_row_of_lumps (evCons (vV 0) evNil)) (stN 1)) (evSeq (sEx (evCall g_check_told (evCons (vV 1) (evCons (vV 0) evNil)))) (evSeq (sRet (vV 1)) sPass)))
theorem ln_read_lumps : ∀ xs M x M', g_read_lumps xs M = .ok x M' → xs.length = 1 := defG_len
def g_is_row : List Val → Mem → Res Val := defG false 1 0 fun bs => (evSeq (sRet (evCall g_is_rowed (evCons (vV 0) evNil))) sPass)
theorem ln_is_row : ∀ xs M x M', g_is_row xs M = .ok x M' → xs.length = 1 := defG_len
def g_lump_count_by : List Val → Mem → Res Val := defG false 1 0 fun bs => (evSeq (sRet (evB (biD .len) (evCons (evCall g_lumps_of (evCons (vV 0) evNil)) evNil))) sPass)
theorem ln_lump_count_by : ∀ xs M x M', g_lump_count_by xs M = .ok x M' → xs.length = 1 := defG_len
def g_lump_count : List Val → Mem → Res Val := defG false 1 0 fun bs => (evSeq (sEx (evCall g_check_row (evCons (vV 0) evNil))) (evSeq (sRet (evCall g_lump_count_by (evCons (vV 0) evNil))) sPass))
theorem ln_lump_count : ∀ xs M x M', g_lump_count xs M = .ok x M' → xs.length = 1 := defG_len
def l__law_lumps_1 : Sl → Mem → Res Flow := (evSeq (evIte (tst (evAnd (ev2 (cmpV .ne) (vV 1) (evLst evDNil)) (ev2 (cmpV .eq) (ev2 subD (ev2 subD (vV 1) (ev1 negD (vC (.int 1)))) (vC (.int 0))) (vV 2)))) (evSeq (evAsg (evTup (evConsD (vV 2) (evConsD (ev2 (binD .add) (ev2 subD (ev2 subD (vV 1) (ev1 negD (vC (.int 1)))) (vC (.int 1))) (vC (.int 1))) evDNil))) (stSub 1 (ev1 negD (vC (.int 1))))) sPass) (evSeq (sEx (evMu .append 1 (evCons (evTup (evConsD (vV 2) (evConsD (vC (.int 1)) evDNil))) evNil))) sPass)) sPass)
def g__law_lumps : List Val → Mem → Res Val := defG false 1 2 fun bs => (evSeq (evAsg (newOf (evLst evDNil)) (stN 1)) (evSeq (evFor (.n 2) (evIt (vV 0)) l__law_lumps_1) (evSeq (sRet (evB (biD .tuple) (evCons (vV 1) evNil))) sPass)))
theorem ln__law_lumps : ∀ xs M x M', g__law_lumps xs M = .ok x M' → xs.length = 1 := defG_len
def g_colours_by : List Val → Mem → Res Val := defG false 1 1 fun bs => (evSeq (sRet (evJd [] [1] (.n 1) (evIt (vV 0)) ifs0 (vV 1))) sPass)
theorem ln_colours_by : ∀ xs M x M', g_colours_by xs M = .ok x M' → xs.length = 1 := defG_len
def g_colours_of : List Val → Mem → Res Val := defG false 1 0 fun bs => (evSeq (sEx (evCall g_check_row (evCons (vV 0) evNil))) (evSeq (sRet (evCall g_colours_by (evCons (vV 0) evNil))) sPass))
theorem ln_colours_of : ∀ xs M x M', g_colours_of xs M = .ok x M' → xs.length = 1 := defG_len
def x_colours_of : List Val → Mem → Rx Val := defGX false 1 0 fun bs => (xSeq (xEx (xCall x_check_row (evCons (vV 0) evNil))) (xlS (evSeq (sRet (evCall g_colours_by (evCons (vV 0) evNil))) sPass)))
theorem lnx_colours_of : ∀ xs M, x_colours_of xs M ≠ .bad → xs.length = 1 := defGX_len
def e_named_by_1 : Sl → Mem → Res Val := (ev2 subD (vC (.str ['a', 'b', 'c', 'd', 'e', 'f'])) (evM (meD .index) (vV 1) (evCons (vV 2) evNil)))
def g_named_by : List Val → Mem → Res Val := defG false 1 2 fun bs => (evSeq (evAsg (evCall g_colours_by (evCons (vV 0) evNil)) (stN 1)) (evSeq (sRet (evM (meD .join) (vC (.str [])) (evCons (evLc [2] (.n 2) (evIt (vV 0)) ifs0 e_named_by_1) evNil))) sPass))
theorem ln_named_by : ∀ xs M x M', g_named_by xs M = .ok x M' → xs.length = 1 := defG_len
def g_named : List Val → Mem → Res Val := defG false 1 0 fun bs => (evSeq (sEx (evCall g_check_row (evCons (vV 0) evNil))) (evSeq (sRet (evCall g_named_by (evCons (vV 0) evNil))) sPass))
theorem ln_named : ∀ xs M x M', g_named xs M = .ok x M' → xs.length = 1 := defG_len
def x_named : List Val → Mem → Rx Val := defGX false 1 0 fun bs => (xSeq (xEx (xCall x_check_row (evCons (vV 0) evNil))) (xlS (evSeq (sRet (evCall g_named_by (evCons (vV 0) evNil))) sPass)))
theorem lnx_named : ∀ xs M, x_named xs M ≠ .bad → xs.length = 1 := defGX_len
def g_lumps : List Val → Mem → Res Val := defG false 1 0 fun bs => (evSeq (sEx (evCall g_check_row (evCons (vV 0) evNil))) (evSeq (sRet (evB (biD .tuple) (evCons (evCall g_lumps_of (evCons (vV 0) evNil)) evNil))) sPass))
theorem ln_lumps : ∀ xs M x M', g_lumps xs M = .ok x M' → xs.length = 1 := defG_len
def x_lumps : List Val → Mem → Rx Val := defGX false 1 0 fun bs => (xSeq (xEx (xCall x_check_row (evCons (vV 0) evNil))) (xlS (evSeq (sRet (evB (biD .tuple) (evCons (evCall g_lumps_of (evCons (vV 0) evNil)) evNil))) sPass)))
theorem lnx_lumps : ∀ xs M, x_lumps xs M ≠ .bad → xs.length = 1 := defGX_len
def g_is_tidy_by : List Val → Mem → Res Val := defG false 1 0 fun bs => (evSeq (sRet (ev2 (cmpV .le) (evCall g_lump_count_by (evCons (vV 0) evNil)) (evB (biD .len) (evCons (evCall g_colours_by (evCons (vV 0) evNil)) evNil)))) sPass)
theorem ln_is_tidy_by : ∀ xs M x M', g_is_tidy_by xs M = .ok x M' → xs.length = 1 := defG_len
def g_is_tidy : List Val → Mem → Res Val := defG false 1 0 fun bs => (evSeq (sEx (evCall g_check_row (evCons (vV 0) evNil))) (evSeq (sRet (evCall g_is_tidy_by (evCons (vV 0) evNil))) sPass))
theorem ln_is_tidy : ∀ xs M x M', g_is_tidy xs M = .ok x M' → xs.length = 1 := defG_len
def x_is_tidy : List Val → Mem → Rx Val := defGX false 1 0 fun bs => (xSeq (xEx (xCall x_check_row (evCons (vV 0) evNil))) (xlS (evSeq (sRet (evCall g_is_tidy_by (evCons (vV 0) evNil))) sPass)))
theorem lnx_is_tidy : ∀ xs M, x_is_tidy xs M ≠ .bad → xs.length = 1 := defGX_len
def y__law_refused_1 : Sl → Mem → Rx Flow := (xSeq (xAsg (xIfE (tst (ev2 (cmpV .eq) (vV 0) (vC (.int 0)))) (xCall x_colours_of (evCons (vV 1) evNil)) (xIfE (tst (ev2 (cmpV .eq) (vV 0) (vC (.int 1)))) (xCallN 0 1 (@pickO [(true, 0)]) x_named evNil (evCons (vV 1) evNil)) (xIfE (tst (ev2 (cmpV .eq) (vV 0) (vC (.int 2)))) (xCall x_lumps (evCons (vV 1) evNil)) (xCallN 0 1 (@pickO [(true, 0)]) x_is_tidy evNil (evCons (vV 1) evNil))))) 2) xPass)
def u__law_refused_1 : Nat → D → Sl → Mem → Res Flow := (uSeq (uRet (uIf (uTst (uIs 0)) (uLst (uDCons (uBy xgiven) uDNil)) (fun _ _ => (evLst (evConsD (vC (.str ['o', 'd', 'd'])) (evConsD (vC .non) evDNil)))))) uPass)
def g__law_refused : List Val → Mem → Res Val := defG false 2 2 fun bs => (evSeq (evTry 3 y__law_refused_1 u__law_refused_1) (evSeq (sRet (evIf (tst (ev2 (cmpV .ne) (evLst (evConsD (vV 2) evDNil)) (evLst evDNil))) (evLst evDNil) (evLst (evConsD (vV 2) (evConsD (vV 2) evDNil))))) sPass))
theorem ln__law_refused : ∀ xs M x M', g__law_refused xs M = .ok x M' → xs.length = 2 := defG_len
def i__law_value_right_1 : Sl → Mem → Res Bool := (ifs1 (tst (evNot (evCall (g__law_is 6) (evCons (evCall g__law_refused (evCons (vV 2) (evCons (vV 0) evNil))) (evCons (evIf (tst (vV 1)) (evLst evDNil) (evLst (evConsD (vV 0) evDNil))) evNil))))))
def e__law_value_right_1 : Sl → Mem → Res Val := (ev2 (binD .add) (evB strDd (evCons (vV 5) evNil)) (vV 4))
def g__law_value_right : List Val → Mem → Res Val := defG false 1 6 fun bs => (evSeq (evAsg (evCall g__law_is_row (evCons (vV 0) evNil)) (stN 1)) (evSeq (evIte (tst (evNot (evCall (g__law_is 6) (evCons (evLst (evConsD (evCall g_is_row (evCons (vV 0) evNil)) (evConsD (evCallN 0 1 (@pickO [(true, 0)]) g_is_row evNil (evCons (vV 0) evNil)) evDNil))) (evCons (evLst (evConsD (vV 1) (evConsD (vV 1) evDNil))) evNil))))) (evSeq (sRet (vC (.bl false))) sPass) sPass) (evSeq (evIte (tst (ev2 (cmpV .ne) (evLc [2] (.n 2) (evRng (evCons (vC (.int 4)) evNil)) i__law_value_right_1 (vV 2)) (evLst evDNil))) (evSeq (sRet (vC (.bl false))) sPass) sPass) (evSeq (evIte (tst (evNot (vV 1))) (evSeq (sRet (vC (.bl true))) sPass) sPass) (evSeq (evAsg (evIf (tst (ev2 (cmpV .ne) (vV 0) (vC (.str [])))) (evM (meD .join) (vC (.str [' '])) (evCons (evLc [4, 5] (.t [(.n 4), (.n 5)]) (evIt (evCall g__law_lumps (evCons (vV 0) evNil))) ifs0 e__law_value_right_1) evNil)) (vC (.str ['n', 'o', 'n', 'e']))) (stN 3)) (evSeq (evAsg (evLst (evConsD (evCall g_lumps_text (evCons (vV 0) evNil)) (evConsD (evCallN 0 1 (@pickO [(true, 0)]) g_lumps_text evNil (evCons (vV 0) evNil)) (evConsD (evCall g_read_lumps (evCons (vV 3) evNil)) (evConsD (evCallN 0 1 (@pickO [(true, 0)]) g_read_lumps evNil (evCons (vV 3) evNil)) (evConsD (evCall g_is_row (evCons (ev1 revD (vV 0)) evNil)) (evConsD (evCall g_lump_count (evCons (ev1 revD (vV 0)) evNil)) evDNil))))))) (stN 6)) (evSeq (sRet (evCall (g__law_is 6) (evCons (vV 6) (evCons (evLst (evConsD (vV 3) (evConsD (vV 3) (evConsD (vV 0) (evConsD (vV 0) (evConsD (vC (.bl true)) (evConsD (evB (biD .len) (evCons (evCall g__law_lumps (evCons (vV 0) evNil)) evNil)) evDNil))))))) evNil)))) sPass)))))))
theorem ln__law_value_right : ∀ xs M x M', g__law_value_right xs M = .ok x M' → xs.length = 1 := defG_len
def g__law_pick : List Val → Mem → Res Val := defG false 2 0 fun bs => (evSeq (sRet (ev2 subD (vV 1) (evCall g__law_take (evCons (vV 0) (evCons (evB (biD .len) (evCons (vV 1) evNil)) evNil))))) sPass)
theorem ln__law_pick : ∀ xs M x M', g__law_pick xs M = .ok x M' → xs.length = 2 := defG_len
def g__law_odd : List Val → Mem → Res Val := defG false 1 2 fun bs => (evSeq (evAsg (ev2 (binD .sub) (evCall g__law_take (evCons (vV 0) (evCons (ev2 (binD .pow) (vC (.int 10)) (vC (.int 9))) evNil))) (ev2 (binD .mul) (vC (.int 5)) (ev2 (binD .pow) (vC (.int 10)) (vC (.int 8))))) (stN 1)) (evSeq (evAsg (evLst (evConsD (vC .non) (evConsD (vC (.bl true)) (evConsD (vC (.bl false)) (evConsD (vC (.str [])) (evConsD (vC (.str ['a', 'b', 'g'])) (evConsD (evTup evDNil) (evConsD (evTup (evConsD (vC (.int 1)) (evConsD (vC .non) evDNil))) (evConsD (evLst evDNil) (evConsD (evLst (evConsD (vV 1) evDNil)) (evConsD evDic0 (evConsD (evDic1 (vC (.str ['a'])) (vV 1)) (evConsD (vV 1) (evConsD (vC (.int 0)) (evConsD (vC (.int 1)) (evConsD (ev1 negD (vC (.int 1))) (evConsD (evTup (evConsD (evTup evDNil) (evConsD (evLst (evConsD (vV 1) evDNil)) evDNil))) evDNil))))))))))))))))) (stN 2)) (evSeq (sRet (evCall g__law_pick (evCons (vV 0) (evCons (vV 2) evNil)))) sPass)))
theorem ln__law_odd : ∀ xs M x M', g__law_odd xs M = .ok x M' → xs.length = 1 := defG_len
def g__law_bent_row : List Val → Mem → Res Val := defG false 2 3 fun bs => (evSeq (evPar [2, 3] (evCons (evCall g__law_take (evCons (vV 0) (evCons (ev2 (binD .add) (evB (biD .len) (evCons (vV 1) evNil)) (vC (.int 1))) evNil))) (evCons (evCall g__law_pick (evCons (vV 0) (evCons (evLst (evConsD (vC (.str ['g'])) (evConsD (vC (.str ['A'])) (evConsD (vC (.str [' '])) (evConsD (vC (.str ['1'])) (evConsD (vC (.str [])) (evConsD (vC (.str ['a', 'b'])) (evConsD (vC (.str ['\n'])) evDNil)))))))) evNil))) evNil))) (evSeq (evAsg (evLst (evConsD (ev2 (binD .add) (ev2 (binD .add) (ev2 (fun x y => sliceD x none (some y)) (vV 1) (vV 2)) (vV 3)) (ev2 (fun x y => sliceD x (some y) none) (vV 1) (vV 2))) (evConsD (ev2 (binD .add) (vV 1) (vC (.str ['a', 'b', 'c', 'd', 'e', 'f', 'a', 'b', 'c', 'd', 'e', 'f', 'a']))) (evConsD (ev2 (binD .add) (evM (meD .upper) (vV 1) evNil) (vC (.str ['A']))) (evConsD (evB tupSD (evCons (vV 1) evNil)) (evConsD (evB (biD .list) (evCons (vV 1) evNil)) (evConsD (evTup (evConsD (vV 1) evDNil)) (evConsD (evDic1 (vV 1) (vC (.int 1))) (evConsD (ev2 (binD .add) (vV 1) (vC (.str ['z']))) evDNil))))))))) (stN 4)) (evSeq (sRet (evCall g__law_pick (evCons (vV 0) (evCons (ev2 (binD .add) (vV 4) (evLst (evConsD (vC .non) (evConsD (vC (.int 0)) (evConsD (vC (.bl true)) (evConsD (vC (.str ['a', 'b', 'g'])) (evConsD (vC (.str ['a', 'b', 'c', 'd', 'e', 'f', 'a', 'b', 'c', 'd', 'e', 'f', 'a'])) (evConsD (evLst (evConsD (vV 1) evDNil)) (evConsD (vC (.int 1)) evDNil))))))))) evNil)))) sPass)))
theorem ln__law_bent_row : ∀ xs M x M', g__law_bent_row xs M = .ok x M' → xs.length = 2 := defG_len
def e__law_right_1 : Sl → Mem → Res Val := (evCall g__law_bent_row (evCons (vV 0) (evCons (vV 2) evNil)))
def i__law_right_1 : Sl → Mem → Res Bool := (ifs1 (tst (evNot (evCall g__law_value_right (evCons (vV 4) evNil)))))
def l__law_right_1 : Sl → Mem → Res Flow := (evSeq (evAsg (evCall g__law_drawn_row (evCons (vV 0) (evCons (vC (.int 12)) evNil))) (stN 2)) (evSeq (evAsg (evLst (evConsD (vV 2) (evConsD (ev2 (binD .add) (vV 2) (vV 2)) (evConsD (vC (.str [])) (evConsD (ev2 (binD .mul) (vC (.str ['a', 'b', 'c', 'd', 'e', 'f'])) (vC (.int 2))) (evConsD (ev2 (binD .add) (ev2 (binD .mul) (vC (.str ['a', 'b', 'c', 'd', 'e', 'f'])) (vC (.int 2))) (vC (.str ['a']))) (evConsD (ev2 (binD .mul) (vC (.str ['f'])) (vC (.int 12))) (evConsD (vC (.str ['a', 'b', 'c', 'g'])) (evConsD (vC (.str ['A', 'B', 'C'])) (evConsD (vC (.str [' '])) evDNil)))))))))) (stN 3)) (evSeq (evIte (tst (ev2 (cmpV .ne) (evLc [4] (.n 4) (evIt (ev2 (binD .add) (vV 3) (evLc [5] (.n 5) (evRng (evCons (vC (.int 8)) evNil)) ifs0 e__law_right_1))) i__law_right_1 (vV 4)) (evLst evDNil))) (evSeq (sRet (vC (.bl false))) sPass) sPass) sPass)))
def i__law_right_2 : Sl → Mem → Res Bool := (ifs1 (tst (evNot (evCall g__law_value_right (evCons (evCall g__law_odd (evCons (vV 0) evNil)) evNil)))))
def g__law_right : List Val → Mem → Res Val := defG false 1 5 fun bs => (evSeq (evFor (.n 1) (evRng (evCons (vC (.int 5)) evNil)) l__law_right_1) (evSeq (sRet (ev2 (cmpV .eq) (evLc [1] (.n 1) (evRng (evCons (vC (.int 10)) evNil)) i__law_right_2 (vV 1)) (evLst evDNil))) sPass))
theorem ln__law_right : ∀ xs M x M', g__law_right xs M = .ok x M' → xs.length = 1 := defG_len
def l__law_well_1 : Sl → Mem → Res Flow := (evSeq (evAsg (ev2 (binD .mod) (evB (biD .int) (evCons (ev2 (binD .add) (ev2 (binD .add) (ev2 (binD .mul) (vV 3) (vC (.int 45013))) (ev2 (binD .mod) (evB (biD .int) (evCons (vV 4) evNil)) (vC (.int 2147483399)))) (vC (.int 37))) evNil)) (vC (.int 2147483563))) (stN 3)) sPass)
def g__law_well : List Val → Mem → Res Val := defG true 2 3 fun bs => (evSeq (evAsg (evIf (tst (ev2 (cmpV .lt) (vV 1) (evB (biD .len) (evCons (vV 0) evNil)))) (evB (biD .int) (evCons (ev2 subD (vV 0) (vV 1)) evNil)) (ev2 (binD .add) (ev2 (binD .add) (ev2 (binD .mul) (vC (.int 9311)) (vV 1)) (ev2 (binD .mod) (evB (biD .int) (evCons (evB (biD .sum) (evCons (ev2 (fun x y => sliceD x none (some y)) (vV 0) (vC (.int 2))) evNil)) evNil)) (vC (.int 1000003)))) (vC (.int 71)))) (stN 2)) (evSeq (evAsg (ev2 (binD .add) (vC (.int 50021)) (ev2 (binD .mul) (vC (.int 1013)) (vV 1))) (stN 3)) (evSeq (evFor (.n 4) (evIt (ev2 (binD .add) (ev2 (fun x y => sliceD x none (some y)) (vV 0) (vC (.int 5))) (evLst (evConsD (vV 2) evDNil)))) l__law_well_1) (evSeq (sRet (newOf (evLst (evConsD (evIf (tst (evOr (ev2 (cmpV .lt) (vV 2) (vC (.int 0))) (ev2 (cmpV .ge) (vV 2) (ev2 (binD .pow) (vC (.int 10)) (vC (.int 17)))))) (ev2 (binD .mod) (evB (biD .int) (evCons (evB (biD .abs) (evCons (vV 2) evNil)) evNil)) (ev2 (binD .pow) (vC (.int 10)) (vC (.int 60)))) (vC (.int 0))) (evConsD (vV 3) (evConsD (vC (.int 0)) evDNil)))))) sPass))))
theorem ln__law_well : ∀ xs M x M', g__law_well xs M = .ok x M' → xs.length = 2 := defG_len
def e_law_1 : Sl → Mem → Res Val := (evCall g__law_right (evCons (newOf (evCall g__law_well (evCons (vV 0) (evCons (vV 1) evNil)))) evNil))
def g_law : List Val → Mem → Res Val := defG false 1 1 fun bs => (evSeq (sRet (evB (biD .all) (evCons (evLc [1] (.n 1) (evRng (evCons (evB (biD .max2) (evCons (vC (.int 2)) (evCons (evB (biD .min2) (evCons (evB (biD .len) (evCons (vV 0) evNil)) (evCons (vC (.int 3)) evNil))) evNil))) evNil)) ifs0 e_law_1) evNil))) sPass)
theorem ln_law : ∀ xs M x M', g_law xs M = .ok x M' → xs.length = 1 := defG_len
end K02
end P_K02G
section P_K02P
set_option Elab.async false
set_option linter.all false
set_option maxRecDepth 100000
set_option maxHeartbeats 4000000
namespace K02
open PySem PySem.Spec PyProof.Rows L2 DL
section
variable {P : Program} {w : World} {K : PySem.W.Frag} {mg : Str → Option Value} {base : Heap}
theorem xgiven_is : ∀ (c : Nat) (nm a : Str), xns[c]? = some (nm, a) → xgiven c = true → a = "given" := by
  intro c nm a h1 h2
  rcases c with _ | _ <;> simp_all [xns, xgiven]
theorem xindex_is : ∀ (c : Nat) (nm a : Str), xns[c]? = some (nm, a) → xindex c = true → a = "index" := by
  intro c nm a h1 h2
  rcases c with _ | _ <;> simp_all [xns, xindex]
theorem sc__law_take : FnScope ["well", "many", "figure", "by"] ["well", "many"] (defScope s__law_take) := ⟨rfl, rfl, rfl, by decide +kernel, rfl, by decide +kernel, by decide +kernel⟩
theorem ok__law_take (T : Tx K mg) {f : Addr} {fd : FuncData} (F__law_take : Fun K "_law_take" "_law_take" s__law_take f fd) : FnOk P w K mg base CX0 1 f fd ["well", "many"] (spF false K 2 g__law_take) := by

  refine F__law_take.ok sc__law_take (fun vs H Q E h => h.1) (fun cdv A outer s H vs Q E hr h => ?_)
  obtain ⟨bs, z⟩ := def_body (N := ["well", "many", "figure", "by"]) (m := 2) rfl h
  refine ⟨_, ?_, z⟩
  exact (p_scons (p_ite (p_cmpT ob_gt (p_sub (p_var 0) p_int) p_int) (p_scons (p_asg (p_callB bb_divmod T.b_divmod PyProof.Rows.boot_divmod (p_cons (p_sub (p_var 0) p_int) (p_cons (p_var 1) p_nil))) (p_atup (p_acons (p_asub 0 p_int) (p_acons (p_an 2 sc__law_take.nd) p_anil)))) (p_scons (p_ret (p_var 2)) p_snil)) p_snil) (p_scons (p_asg (p_bin ob_add (p_sub (p_var 0) p_int) p_int) (p_asub 0 p_int)) (p_scons (p_asgn 3 sc__law_take.nd (p_bin ob_add (p_bin ob_mod (p_callTy bb_int T.b_int PyProof.Rows.boot_int (p_cons (p_sub (p_var 0) p_int) p_nil)) p_int) p_int)) (p_scons (p_asg (p_bin ob_mod (p_callTy bb_int T.b_int PyProof.Rows.boot_int (p_cons (p_bin ob_add (p_bin ob_add (p_bin ob_mul (p_sub (p_var 0) p_int) (p_var 3)) (p_bin ob_mul p_int (p_sub (p_var 0) p_int))) p_int) p_nil)) p_int) (p_asub 0 p_int)) (p_scons (p_ret (p_bin ob_mod (p_callTy bb_int T.b_int PyProof.Rows.boot_int (p_cons (p_bin ob_fdiv (p_sub (p_var 0) p_int) p_int) p_nil)) (p_var 1))) p_snil)))))
theorem sc__law_drawn_row : FnScope ["well", "most", "way", "size", "many", "row", "at"] ["well", "most"] (defScope s__law_drawn_row) := ⟨rfl, rfl, rfl, by decide +kernel, rfl, by decide +kernel, by decide +kernel⟩
theorem ok__law_drawn_row (T : Tx K mg) {f : Addr} {fd : FuncData} (F__law_drawn_row : Fun K "_law_drawn_row" "_law_drawn_row" s__law_drawn_row f fd) : FnOk P w K mg base CX0 2 f fd ["well", "most"] (spF false K 2 g__law_drawn_row) := by
  obtain ⟨f__law_take, fd__law_take, m__law_take, F__law_take⟩ := T.d__law_take
  have G__law_take := ok__law_take (P := P) (w := w) (base := base) T F__law_take
  have B__law_take : L2.Binds K fd__law_take ["well", "many"] [] := F__law_take.binds fun _ _ _ _ _ _ us hl => match us, hl with | [_, _], _ => rfl
  refine F__law_drawn_row.ok sc__law_drawn_row (fun vs H Q E h => h.1) (fun cdv A outer s H vs Q E hr h => ?_)
  obtain ⟨bs, z⟩ := def_body (N := ["well", "most", "way", "size", "many", "row", "at"]) (m := 5) rfl h
  refine ⟨_, ?_, z⟩
  exact (p_scons (p_parT (p_cons (p_call ln__law_take F__law_take G__law_take (hr.mono (by first | decide | omega)) m__law_take B__law_take (p_cons (p_var 0) (p_cons p_int p_nil))) (p_cons (p_call ln__law_take F__law_take G__law_take (hr.mono (by first | decide | omega)) m__law_take B__law_take (p_cons (p_var 0) (p_cons (p_bin ob_add (p_var 1) p_int) p_nil))) (p_cons (p_bin ob_add p_int (p_call ln__law_take F__law_take G__law_take (hr.mono (by first | decide | omega)) m__law_take B__law_take (p_cons (p_var 0) (p_cons p_int p_nil)))) p_nil))) (p_names 2 sc__law_drawn_row.nd (p_names 3 sc__law_drawn_row.nd (p_names 4 sc__law_drawn_row.nd p_names0)))) (p_scons (p_asgn 5 sc__law_drawn_row.nd (p_me tab_join p_str (p_cons (p_frz (p_lc (own := [("at", 6)]) (by decide) sc__law_drawn_row.nd (p_rng1 T.b_range (p_var 3)) (blk_mk rfl (by kernel_rfl)) (fun _ _ _ _ _ => (p_tgn 6 sc__law_drawn_row.nd)) (fun _ _ _ _ _ => p_ifs0) (fun _ _ _ _ _ => (p_sub p_str (p_call ln__law_take F__law_take G__law_take (hr.mono (by first | decide | omega)) m__law_take B__law_take (p_cons (p_var 0) (p_cons (p_var 4) p_nil))))))) p_nil))) (p_scons (p_ite (p_cmpT (ob_eq hr) (p_var 2) p_int) (p_scons (p_asgn 5 sc__law_drawn_row.nd (p_me tab_join p_str (p_cons (p_frz (p_callB (bb_sortedS rfl hr) T.b_sorted PyProof.Rows.boot_sorted (p_cons (p_var 5) p_nil))) p_nil))) p_snil) p_snil) (p_scons (p_ite (p_bool (p_andW (p_cmpT (ob_eq hr) (p_var 2) p_int) (p_last (p_cmpT ob_gt (p_var 3) p_int)))) (p_scons (p_asgn 5 sc__law_drawn_row.nd (p_me tab_join p_str (p_cons (p_frz (p_callB (bb_sortedS rfl hr) T.b_sorted PyProof.Rows.boot_sorted (p_cons (p_var 5) p_nil))) p_nil))) (p_scons (p_asgn 6 sc__law_drawn_row.nd (p_call ln__law_take F__law_take G__law_take (hr.mono (by first | decide | omega)) m__law_take B__law_take (p_cons (p_var 0) (p_cons (p_var 3) p_nil)))) (p_scons (p_asgn 5 sc__law_drawn_row.nd (p_bin ob_add (p_slL (p_var 5) (p_var 6)) (p_slH (p_var 5) (p_var 6)))) p_snil))) p_snil) (p_scons (p_ret (p_var 5)) p_snil)))))
theorem sc__law_is_row : FnScope ["value", "sock"] ["value"] (defScope s__law_is_row) := ⟨rfl, rfl, rfl, by decide +kernel, rfl, by decide +kernel, by decide +kernel⟩
theorem ok__law_is_row (T : Tx K mg) {f : Addr} {fd : FuncData} (F__law_is_row : Fun K "_law_is_row" "_law_is_row" s__law_is_row f fd) : FnOk P w K mg base CX0 1 f fd ["value"] (spF false K 1 g__law_is_row) := by

  refine F__law_is_row.ok sc__law_is_row (fun vs H Q E h => h.1) (fun cdv A outer s H vs Q E hr h => ?_)
  obtain ⟨bs, z⟩ := def_body (N := ["value", "sock"]) (m := 1) rfl h
  refine ⟨_, ?_, z⟩
  exact (p_scons (p_ret (p_and (p_isi .str T.b_isinstance T.b_str PyProof.Rows.boot_str (p_var 0)) (p_and (p_cmp ob_lt (p_callB bb_len T.b_len PySem.boot_len (p_cons (p_var 0) p_nil)) p_int) (p_one (p_cmp (ob_eq hr) (p_frz (p_lc (own := [("sock", 1)]) (by decide) sc__law_is_row.nd (p_it (p_var 0)) (blk_mk rfl (by kernel_rfl)) (fun _ _ _ _ _ => (p_tgn 1 sc__law_is_row.nd)) (fun _ _ _ _ _ => (p_ifs1 (p_cmpT (ob_notin hr) (p_var 1) p_str))) (fun _ _ _ _ _ => (p_var 1)))) (p_frz (p_lst p_dnil))))))) p_snil)
theorem sc__law_is : FnScope ["one", "due", "at", "each"] ["one", "due"] (defScope s__law_is) := ⟨rfl, rfl, rfl, by decide +kernel, rfl, by decide +kernel, by decide +kernel⟩
theorem ok__law_is (T : Tx K mg) (n : Nat) {f : Addr} {fd : FuncData} (F__law_is : Fun K "_law_is" "_law_is" s__law_is f fd) (m__law_is : mg "_law_is" = some (.ref f)) : FnOk P w K mg base CX0 (1 + n) f fd ["one", "due"] (spF false K 2 (g__law_is n)) := by
  have B__law_is : L2.Binds K fd ["one", "due"] [] := F__law_is.binds fun _ _ _ _ _ _ us hl => match us, hl with | [_, _], _ => rfl
  induction n with
  | zero => exact ⟨fun vs H Q E h => h.1, fun A outer s H args us vs Q E hr he hb hv h => by obtain ⟨_, _, _, _, _, _, _, _, _, e, _⟩ := h; cases e⟩
  | succ n G__law_is =>
    refine F__law_is.ok sc__law_is (fun vs H Q E h => h.1) (fun cdv A outer s H vs Q E hr h => ?_)
    obtain ⟨bs, z⟩ := def_body (N := ["one", "due", "at", "each"]) (m := 2) rfl h
    refine ⟨_, ?_, z⟩
    exact (p_scons (p_ite (p_val (p_isi .tuple T.b_isinstance T.b_tuple PyProof.Rows.boot_tuple (p_var 1))) (p_scons (p_ite (p_bool (p_orW (p_notT (p_val (p_isi .tuple T.b_isinstance T.b_tuple PyProof.Rows.boot_tuple (p_var 0)))) (p_last (p_cmpT (ob_ne hr) (p_callB bb_len T.b_len PySem.boot_len (p_cons (p_var 0) p_nil)) (p_callB bb_len T.b_len PySem.boot_len (p_cons (p_var 1) p_nil)))))) (p_scons (p_ret p_bl) p_snil) p_snil) (p_scons (p_ret (p_callB (bb_all rfl) T.b_all PyProof.Rows.boot_all (p_cons (p_frz (p_lc (own := [("at", 2), ("each", 3)]) (by decide) sc__law_is.nd (p_enmT T.b_enumerate (p_var 1)) (blk_mk rfl (by kernel_rfl)) (fun _ _ _ _ _ => (p_tgt (p_tgcons (p_tgn 2 sc__law_is.nd) (p_tgcons (p_tgn 3 sc__law_is.nd) p_tgnil)))) (fun _ _ _ _ _ => p_ifs0) (fun _ _ _ _ _ => (p_call (ln__law_is _) F__law_is G__law_is hr m__law_is B__law_is (p_cons (p_sub (p_var 0) (p_var 2)) (p_cons (p_var 3) p_nil)))))) p_nil))) p_snil)) p_snil) (p_scons (p_ite (p_val (p_isi .list T.b_isinstance T.b_list PyProof.Rows.boot_list (p_var 1))) (p_scons (p_ret (p_and (p_isi .list T.b_isinstance T.b_list PyProof.Rows.boot_list (p_var 0)) (p_one (p_call (ln__law_is _) F__law_is G__law_is hr m__law_is B__law_is (p_cons (p_callTy bb_tuple T.b_tuple PyProof.Rows.boot_tuple (p_cons (p_var 0) p_nil)) (p_cons (p_callTy bb_tuple T.b_tuple PyProof.Rows.boot_tuple (p_cons (p_var 1) p_nil)) p_nil)))))) p_snil) p_snil) (p_scons (p_ite (p_val (p_isi .dict T.b_isinstance T.b_dict PyProof.Rows.boot_dict (p_var 1))) (p_scons (p_ret (p_and (p_isi .dict T.b_isinstance T.b_dict PyProof.Rows.boot_dict (p_var 0)) (p_one (p_cmp (ob_eqC hr) (p_var 0) (p_var 1))))) p_snil) p_snil) (p_scons (p_ite (p_bool (p_orW (p_cmpT ob_is (p_var 1) p_non) (p_orW (p_cmpT ob_is (p_var 1) p_bl) (p_last (p_cmpT ob_is (p_var 1) p_bl))))) (p_scons (p_ret (p_ifx (p_cmpT ob_is (p_var 1) p_non) (p_cmp ob_is (p_var 0) p_non) (p_ifx (p_cmpT ob_is (p_var 1) p_bl) (p_cmp ob_is (p_var 0) p_bl) (p_cmp ob_is (p_var 0) p_bl)))) p_snil) p_snil) (p_scons (p_ite (p_val (p_isi .int T.b_isinstance T.b_int PyProof.Rows.boot_int (p_var 1))) (p_scons (p_ret (p_and (p_isi .int T.b_isinstance T.b_int PyProof.Rows.boot_int (p_var 0)) (p_and (p_not (p_isi .bool T.b_isinstance T.b_bool PyProof.Rows.boot_bool (p_var 0))) (p_one (p_cmp (ob_eqC hr) (p_var 0) (p_var 1)))))) p_snil) p_snil) (p_scons (p_ret (p_and (p_isi .str T.b_isinstance T.b_str PyProof.Rows.boot_str (p_var 0)) (p_one (p_cmp (ob_eqC hr) (p_var 0) (p_var 1))))) p_snil))))))
theorem sc_is_text_of : FnScope ["value", "signs", "sign"] ["value", "signs"] (defScope s_is_text_of) := ⟨rfl, rfl, rfl, by decide +kernel, rfl, by decide +kernel, by decide +kernel⟩
theorem ok_is_text_of (T : Tx K mg) {f : Addr} {fd : FuncData} (F_is_text_of : Fun K "is_text_of" "is_text_of" s_is_text_of f fd) : FnOk P w K mg base CX0 1 f fd ["value", "signs"] (spF false K 2 g_is_text_of) := by

  refine F_is_text_of.ok sc_is_text_of (fun vs H Q E h => h.1) (fun cdv A outer s H vs Q E hr h => ?_)
  obtain ⟨bs, z⟩ := def_body (N := ["value", "signs", "sign"]) (m := 1) rfl h
  refine ⟨_, ?_, z⟩
  exact (p_scons (p_ret (p_and (p_isi .str T.b_isinstance T.b_str PyProof.Rows.boot_str (p_var 0)) (p_one (p_callB (bb_all rfl) T.b_all PyProof.Rows.boot_all (p_cons (p_frz (p_lc (own := [("sign", 2)]) (by decide) sc_is_text_of.nd (p_it (p_var 0)) (blk_mk rfl (by kernel_rfl)) (fun _ _ _ _ _ => (p_tgn 2 sc_is_text_of.nd)) (fun _ _ _ _ _ => p_ifs0) (fun _ _ _ _ _ => (p_cmp (ob_in hr) (p_var 2) (p_var 1))))) p_nil))))) p_snil)
theorem sc_is_rowed : FnScope ["value"] ["value"] (defScope s_is_rowed) := ⟨rfl, rfl, rfl, by decide +kernel, rfl, by decide +kernel, by decide +kernel⟩
theorem ok_is_rowed (T : Tx K mg) {f : Addr} {fd : FuncData} (F_is_rowed : Fun K "is_rowed" "is_rowed" s_is_rowed f fd) : FnOk P w K mg base CX0 2 f fd ["value"] (spF false K 1 g_is_rowed) := by
  obtain ⟨f_is_text_of, fd_is_text_of, m_is_text_of, F_is_text_of⟩ := T.d_is_text_of
  have G_is_text_of := ok_is_text_of (P := P) (w := w) (base := base) T F_is_text_of
  have B_is_text_of : L2.Binds K fd_is_text_of ["value", "signs"] [] := F_is_text_of.binds fun _ _ _ _ _ _ us hl => match us, hl with | [_, _], _ => rfl
  refine F_is_rowed.ok sc_is_rowed (fun vs H Q E h => h.1) (fun cdv A outer s H vs Q E hr h => ?_)
  obtain ⟨bs, z⟩ := def_body (N := ["value"]) (m := 0) rfl h
  refine ⟨_, ?_, z⟩
  exact (p_scons (p_ret (p_and (p_call ln_is_text_of F_is_text_of G_is_text_of (hr.mono (by first | decide | omega)) m_is_text_of B_is_text_of (p_cons (p_var 0) (p_cons (p_glob T.c_COLOURS) p_nil))) (p_one (p_cmp ob_le (p_callB bb_len T.b_len PySem.boot_len (p_cons (p_var 0) p_nil)) (p_glob T.c_MOST_SOCKS))))) p_snil)
theorem sc_check_row : FnScope ["row"] ["row"] (defScope s_check_row) := ⟨rfl, rfl, rfl, by decide +kernel, rfl, by decide +kernel, by decide +kernel⟩
theorem ok_check_row (T : Tx K mg) {f : Addr} {fd : FuncData} (F_check_row : Fun K "check_row" "check_row" s_check_row f fd) : FnOk P w K mg base CX0 3 f fd ["row"] (spF false K 1 g_check_row) := by
  obtain ⟨f_is_rowed, fd_is_rowed, m_is_rowed, F_is_rowed⟩ := T.d_is_rowed
  have G_is_rowed := ok_is_rowed (P := P) (w := w) (base := base) T F_is_rowed
  have B_is_rowed : L2.Binds K fd_is_rowed ["value"] [] := F_is_rowed.binds fun _ _ _ _ _ _ us hl => match us, hl with | [_], _ => rfl
  refine F_check_row.ok sc_check_row (fun vs H Q E h => h.1) (fun cdv A outer s H vs Q E hr h => ?_)
  obtain ⟨bs, z⟩ := def_body (N := ["row"]) (m := 0) rfl h
  refine ⟨_, ?_, z⟩
  exact (p_scons (p_ite (p_notT (p_val (p_call ln_is_rowed F_is_rowed G_is_rowed (hr.mono (by first | decide | omega)) m_is_rowed B_is_rowed (p_cons (p_var 0) p_nil)))) (p_scons p_never p_snil) p_snil) p_snil)
theorem okx_check_row (T : Tx K mg) {Cs : List (Addr × Str)} {S : Addr} (XT : XTab K mg xns Cs S) {f : Addr} {fd : FuncData} (F_check_row : Fun K "check_row" "check_row" s_check_row f fd) : FnOk P w K mg base (L2.CX P w) 5 f fd ["row"] (spX2 false K Cs 1 x_check_row) := by
  obtain ⟨f_is_rowed, fd_is_rowed, m_is_rowed, F_is_rowed⟩ := T.d_is_rowed
  have G_is_rowed := ok_is_rowed (P := P) (w := w) (base := base) T F_is_rowed
  have B_is_rowed : L2.Binds K fd_is_rowed ["value"] [] := F_is_rowed.binds fun _ _ _ _ _ _ us hl => match us, hl with | [_], _ => rfl
  obtain ⟨C_0, hc_0, L_0⟩ := XT.get (c := 0) rfl
  refine F_check_row.okX sc_check_row (fun vs H Q E h => h.1) (fun cdv A outer s H vs Q E hr h => ?_)
  obtain ⟨bs, z⟩ := def_bodyX (N := ["row"]) (m := 0) rfl h
  refine ⟨LSx bs K Cs (WE (fun cls d _ H => E cls d H)) _, ?_, z⟩
  have tk : Takes (cxOf (L2.CX P w) P w K mg base ["row"] "check_row" (defScope s_check_row) f cdv A outer s H E) (fun cls d _ H => E cls d H) := takes_of rfl rfl rfl rfl
  exact (px_scons (px_ite (p_notT (p_val (p_call ln_is_rowed F_is_rowed G_is_rowed (hr.mono (by first | decide | omega)) m_is_rowed B_is_rowed (p_cons (p_var 0) p_nil)))) (px_scons (px_raise L_0 hc_0 hr tk (p_var 0)) px_snil) (px_Ss p_snil)) px_snil)
theorem sc_lumps_of : FnScope ["row", "found", "colour"] ["row"] (defScope s_lumps_of) := ⟨rfl, rfl, rfl, by decide +kernel, rfl, by decide +kernel, by decide +kernel⟩
theorem ok_lumps_of (T : Tx K mg) {f : Addr} {fd : FuncData} (F_lumps_of : Fun K "lumps_of" "lumps_of" s_lumps_of f fd) : FnOk P w K mg base CX0 1 f fd ["row"] (spF true K 1 g_lumps_of) := by

  refine F_lumps_of.ok sc_lumps_of (fun vs H Q E h => h.1) (fun cdv A outer s H vs Q E hr h => ?_)
  obtain ⟨bs, z⟩ := def_body (N := ["row", "found", "colour"]) (m := 2) rfl h
  refine ⟨_, ?_, z⟩
  exact (p_scons (p_asgn 1 sc_lumps_of.nd (p_new (p_lst p_dnil))) (p_scons (p_for (p_it (p_var 0)) (p_tgn 2 sc_lumps_of.nd) (p_scons (p_ite (p_bool (p_andW (p_cmpT (ob_ne hr) (p_var 1) (p_frz (p_lst p_dnil))) (p_last (p_cmpT (ob_eq hr) (p_sub (p_sub (p_var 1) (p_neg p_int)) p_int) (p_var 2))))) (p_scons (p_asg (p_tup (p_dcons (p_var 2) (p_dcons (p_bin ob_add (p_sub (p_sub (p_var 1) (p_neg p_int)) p_int) p_int) p_dnil))) (p_asub 1 (p_neg p_int))) p_snil) (p_scons (p_ex (p_mu 1 mu_append (p_cons (p_tup (p_dcons (p_var 2) (p_dcons p_int p_dnil))) p_nil))) p_snil)) p_snil)) (p_scons (p_ret (p_var 1)) p_snil)))
theorem sc_text_of_lumps : FnScope ["row", "colour", "many"] ["row"] (defScope s_text_of_lumps) := ⟨rfl, rfl, rfl, by decide +kernel, rfl, by decide +kernel, by decide +kernel⟩
theorem ok_text_of_lumps (T : Tx K mg) {f : Addr} {fd : FuncData} (F_text_of_lumps : Fun K "text_of_lumps" "text_of_lumps" s_text_of_lumps f fd) : FnOk P w K mg base CX0 2 f fd ["row"] (spF false K 1 g_text_of_lumps) := by
  obtain ⟨f_lumps_of, fd_lumps_of, m_lumps_of, F_lumps_of⟩ := T.d_lumps_of
  have G_lumps_of := ok_lumps_of (P := P) (w := w) (base := base) T F_lumps_of
  have B_lumps_of : L2.Binds K fd_lumps_of ["row"] [] := F_lumps_of.binds fun _ _ _ _ _ _ us hl => match us, hl with | [_], _ => rfl
  refine F_text_of_lumps.ok sc_text_of_lumps (fun vs H Q E h => h.1) (fun cdv A outer s H vs Q E hr h => ?_)
  obtain ⟨bs, z⟩ := def_body (N := ["row", "colour", "many"]) (m := 2) rfl h
  refine ⟨_, ?_, z⟩
  exact (p_scons (p_ret (p_ifx (p_cmpT (ob_ne hr) (p_var 0) p_str) (p_me tab_join (p_glob T.c_BLANK) (p_cons (p_frz (p_lc (own := [("colour", 1), ("many", 2)]) (by decide) sc_text_of_lumps.nd (p_it (p_frz (p_call ln_lumps_of F_lumps_of G_lumps_of (hr.mono (by first | decide | omega)) m_lumps_of B_lumps_of (p_cons (p_var 0) p_nil)))) (blk_mk rfl (by kernel_rfl)) (fun _ _ _ _ _ => (p_tgt (p_tgcons (p_tgn 1 sc_text_of_lumps.nd) (p_tgcons (p_tgn 2 sc_text_of_lumps.nd) p_tgnil)))) (fun _ _ _ _ _ => p_ifs0) (fun _ _ _ _ _ => (p_joined (p_jfmt (p_var 2) (p_jfmt (p_var 1) p_jnil)))))) p_nil)) (p_glob T.c_NONE_TEXT))) p_snil)
theorem sc_lumps_text : FnScope ["row"] ["row"] (defScope s_lumps_text) := ⟨rfl, rfl, rfl, by decide +kernel, rfl, by decide +kernel, by decide +kernel⟩
theorem ok_lumps_text (T : Tx K mg) {f : Addr} {fd : FuncData} (F_lumps_text : Fun K "lumps_text" "lumps_text" s_lumps_text f fd) : FnOk P w K mg base CX0 4 f fd ["row"] (spF false K 1 g_lumps_text) := by
  obtain ⟨f_check_row, fd_check_row, m_check_row, F_check_row⟩ := T.d_check_row
  have G_check_row := ok_check_row (P := P) (w := w) (base := base) T F_check_row
  have B_check_row : L2.Binds K fd_check_row ["row"] [] := F_check_row.binds fun _ _ _ _ _ _ us hl => match us, hl with | [_], _ => rfl
  obtain ⟨f_text_of_lumps, fd_text_of_lumps, m_text_of_lumps, F_text_of_lumps⟩ := T.d_text_of_lumps
  have G_text_of_lumps := ok_text_of_lumps (P := P) (w := w) (base := base) T F_text_of_lumps
  have B_text_of_lumps : L2.Binds K fd_text_of_lumps ["row"] [] := F_text_of_lumps.binds fun _ _ _ _ _ _ us hl => match us, hl with | [_], _ => rfl
  refine F_lumps_text.ok sc_lumps_text (fun vs H Q E h => h.1) (fun cdv A outer s H vs Q E hr h => ?_)
  obtain ⟨bs, z⟩ := def_body (N := ["row"]) (m := 0) rfl h
  refine ⟨_, ?_, z⟩
  exact (p_scons (p_ex (p_call ln_check_row F_check_row G_check_row (hr.mono (by first | decide | omega)) m_check_row B_check_row (p_cons (p_var 0) p_nil))) (p_scons (p_ret (p_call ln_text_of_lumps F_text_of_lumps G_text_of_lumps (hr.mono (by first | decide | omega)) m_text_of_lumps B_text_of_lumps (p_cons (p_var 0) p_nil))) p_snil))
theorem sc_count_told : FnScope ["text"] ["text"] (defScope s_count_told) := ⟨rfl, rfl, rfl, by decide +kernel, rfl, by decide +kernel, by decide +kernel⟩
theorem ok_count_told (T : Tx K mg) {f : Addr} {fd : FuncData} (F_count_told : Fun K "count_told" "count_told" s_count_told f fd) : FnOk P w K mg base CX0 2 f fd ["text"] (spF false K 1 g_count_told) := by
  obtain ⟨f_is_text_of, fd_is_text_of, m_is_text_of, F_is_text_of⟩ := T.d_is_text_of
  have G_is_text_of := ok_is_text_of (P := P) (w := w) (base := base) T F_is_text_of
  have B_is_text_of : L2.Binds K fd_is_text_of ["value", "signs"] [] := F_is_text_of.binds fun _ _ _ _ _ _ us hl => match us, hl with | [_, _], _ => rfl
  refine F_count_told.ok sc_count_told (fun vs H Q E h => h.1) (fun cdv A outer s H vs Q E hr h => ?_)
  obtain ⟨bs, z⟩ := def_body (N := ["text"]) (m := 0) rfl h
  refine ⟨_, ?_, z⟩
  exact (p_scons (p_ite (p_bool (p_orW (p_cmpT (ob_eq hr) (p_var 0) p_str) (p_last (p_notT (p_val (p_call ln_is_text_of F_is_text_of G_is_text_of (hr.mono (by first | decide | omega)) m_is_text_of B_is_text_of (p_cons (p_var 0) (p_cons (p_glob T.c_DIGITS) p_nil)))))))) (p_scons (p_ret p_non) p_snil) p_snil) (p_scons (p_ret (p_ifx (p_bool (p_andW (p_cmpT (ob_eq hr) (p_sub (p_var 0) p_int) p_str) (p_last (p_cmpT ob_gt (p_callB bb_len T.b_len PySem.boot_len (p_cons (p_var 0) p_nil)) p_int)))) p_non (p_callTy bb_intT T.b_int PyProof.Rows.boot_int (p_cons (p_var 0) p_nil)))) p_snil))
theorem sc_lump_told : FnScope ["word", "many"] ["word"] (defScope s_lump_told) := ⟨rfl, rfl, rfl, by decide +kernel, rfl, by decide +kernel, by decide +kernel⟩
theorem ok_lump_told (T : Tx K mg) {f : Addr} {fd : FuncData} (F_lump_told : Fun K "lump_told" "lump_told" s_lump_told f fd) : FnOk P w K mg base CX0 3 f fd ["word"] (spF false K 1 g_lump_told) := by
  obtain ⟨f_count_told, fd_count_told, m_count_told, F_count_told⟩ := T.d_count_told
  have G_count_told := ok_count_told (P := P) (w := w) (base := base) T F_count_told
  have B_count_told : L2.Binds K fd_count_told ["text"] [] := F_count_told.binds fun _ _ _ _ _ _ us hl => match us, hl with | [_], _ => rfl
  refine F_lump_told.ok sc_lump_told (fun vs H Q E h => h.1) (fun cdv A outer s H vs Q E hr h => ?_)
  obtain ⟨bs, z⟩ := def_body (N := ["word", "many"]) (m := 1) rfl h
  refine ⟨_, ?_, z⟩
  exact (p_scons (p_asgn 1 sc_lump_told.nd (p_call ln_count_told F_count_told G_count_told (hr.mono (by first | decide | omega)) m_count_told B_count_told (p_cons (p_slH (p_var 0) (p_neg p_int)) p_nil))) (p_scons (p_ret (p_ifx (p_bool (p_andW (p_cmpT ob_isnot (p_var 1) p_non) (p_last (p_cmpT ob_le (p_var 1) (p_glob T.c_MOST_SOCKS))))) (p_bin ob_mul (p_sub (p_var 0) (p_neg p_int)) (p_var 1)) p_non)) p_snil))
theorem sc_row_of_lumps : FnScope ["text", "found", "word", "row"] ["text"] (defScope s_row_of_lumps) := ⟨rfl, rfl, rfl, by decide +kernel, rfl, by decide +kernel, by decide +kernel⟩
theorem ok_row_of_lumps (T : Tx K mg) {f : Addr} {fd : FuncData} (F_row_of_lumps : Fun K "row_of_lumps" "row_of_lumps" s_row_of_lumps f fd) : FnOk P w K mg base CX0 4 f fd ["text"] (spF false K 1 g_row_of_lumps) := by
  obtain ⟨f_is_rowed, fd_is_rowed, m_is_rowed, F_is_rowed⟩ := T.d_is_rowed
  have G_is_rowed := ok_is_rowed (P := P) (w := w) (base := base) T F_is_rowed
  have B_is_rowed : L2.Binds K fd_is_rowed ["value"] [] := F_is_rowed.binds fun _ _ _ _ _ _ us hl => match us, hl with | [_], _ => rfl
  obtain ⟨f_text_of_lumps, fd_text_of_lumps, m_text_of_lumps, F_text_of_lumps⟩ := T.d_text_of_lumps
  have G_text_of_lumps := ok_text_of_lumps (P := P) (w := w) (base := base) T F_text_of_lumps
  have B_text_of_lumps : L2.Binds K fd_text_of_lumps ["row"] [] := F_text_of_lumps.binds fun _ _ _ _ _ _ us hl => match us, hl with | [_], _ => rfl
  obtain ⟨f_lump_told, fd_lump_told, m_lump_told, F_lump_told⟩ := T.d_lump_told
  have G_lump_told := ok_lump_told (P := P) (w := w) (base := base) T F_lump_told
  have B_lump_told : L2.Binds K fd_lump_told ["word"] [] := F_lump_told.binds fun _ _ _ _ _ _ us hl => match us, hl with | [_], _ => rfl
  refine F_row_of_lumps.ok sc_row_of_lumps (fun vs H Q E h => h.1) (fun cdv A outer s H vs Q E hr h => ?_)
  obtain ⟨bs, z⟩ := def_body (N := ["text", "found", "word", "row"]) (m := 3) rfl h
  refine ⟨_, ?_, z⟩
  exact (p_scons (p_ite (p_notT (p_val (p_isi .str T.b_isinstance T.b_str PyProof.Rows.boot_str (p_var 0)))) (p_scons (p_ret p_non) p_snil) p_snil) (p_scons (p_asgn 1 sc_row_of_lumps.nd (p_frz (p_ifx (p_cmpT (ob_ne hr) (p_var 0) (p_glob T.c_NONE_TEXT)) (p_lc (own := [("word", 2)]) (by decide) sc_row_of_lumps.nd (p_it (p_frz (p_split (p_var 0) (p_glob T.c_BLANK)))) (blk_mk rfl (by kernel_rfl)) (fun _ _ _ _ _ => (p_tgn 2 sc_row_of_lumps.nd)) (fun _ _ _ _ _ => p_ifs0) (fun _ _ _ _ _ => (p_call ln_lump_told F_lump_told G_lump_told (hr.mono (by first | decide | omega)) m_lump_told B_lump_told (p_cons (p_var 2) p_nil)))) (p_lst p_dnil)))) (p_scons (p_asgn 3 sc_row_of_lumps.nd (p_ifx (p_cmpT (ob_notin hr) p_non (p_var 1)) (p_me tab_join p_str (p_cons (p_var 1) p_nil)) p_non)) (p_scons (p_ret (p_ifx (p_bool (p_andW (p_val (p_call ln_is_rowed F_is_rowed G_is_rowed (hr.mono (by first | decide | omega)) m_is_rowed B_is_rowed (p_cons (p_var 3) p_nil))) (p_last (p_cmpT (ob_eq hr) (p_call ln_text_of_lumps F_text_of_lumps G_text_of_lumps (hr.mono (by first | decide | omega)) m_text_of_lumps B_text_of_lumps (p_cons (p_var 3) p_nil)) (p_var 0))))) (p_var 3) p_non)) p_snil))))
theorem sc_check_told : FnScope ["found", "text"] ["found", "text"] (defScope s_check_told) := ⟨rfl, rfl, rfl, by decide +kernel, rfl, by decide +kernel, by decide +kernel⟩
theorem ok_check_told (T : Tx K mg) {f : Addr} {fd : FuncData} (F_check_told : Fun K "check_told" "check_told" s_check_told f fd) : FnOk P w K mg base CX0 1 f fd ["found", "text"] (spF false K 2 g_check_told) := by

  refine F_check_told.ok sc_check_told (fun vs H Q E h => h.1) (fun cdv A outer s H vs Q E hr h => ?_)
  obtain ⟨bs, z⟩ := def_body (N := ["found", "text"]) (m := 0) rfl h
  refine ⟨_, ?_, z⟩
  exact (p_scons (p_ite (p_cmpT ob_is (p_var 0) p_non) (p_scons p_never p_snil) p_snil) p_snil)
theorem sc_read_lumps : FnScope ["text", "found"] ["text"] (defScope s_read_lumps) := ⟨rfl, rfl, rfl, by decide +kernel, rfl, by decide +kernel, by decide +kernel⟩
theorem ok_read_lumps (T : Tx K mg) {f : Addr} {fd : FuncData} (F_read_lumps : Fun K "read_lumps" "read_lumps" s_read_lumps f fd) : FnOk P w K mg base CX0 5 f fd ["text"] (spF false K 1 g_read_lumps) := by
  obtain ⟨f_row_of_lumps, fd_row_of_lumps, m_row_of_lumps, F_row_of_lumps⟩ := T.d_row_of_lumps
  have G_row_of_lumps := ok_row_of_lumps (P := P) (w := w) (base := base) T F_row_of_lumps
  have B_row_of_lumps : L2.Binds K fd_row_of_lumps ["text"] [] := F_row_of_lumps.binds fun _ _ _ _ _ _ us hl => match us, hl with | [_], _ => rfl
  obtain ⟨f_check_told, fd_check_told, m_check_told, F_check_told⟩ := T.d_check_told
  have G_check_told := ok_check_told (P := P) (w := w) (base := base) T F_check_told
  have B_check_told : L2.Binds K fd_check_told ["found", "text"] [] := F_check_told.binds fun _ _ _ _ _ _ us hl => match us, hl with | [_, _], _ => rfl
  refine F_read_lumps.ok sc_read_lumps (fun vs H Q E h => h.1) (fun cdv A outer s H vs Q E hr h => ?_)
  obtain ⟨bs, z⟩ := def_body (N := ["text", "found"]) (m := 1) rfl h
  refine ⟨_, ?_, z⟩
  exact (p_scons (p_asgn 1 sc_read_lumps.nd (p_call ln_row_of_lumps F_row_of_lumps G_row_of_lumps (hr.mono (by first | decide | omega)) m_row_of_lumps B_row_of_lumps (p_cons (p_var 0) p_nil))) (p_scons (p_ex (p_call ln_check_told F_check_told G_check_told (hr.mono (by first | decide | omega)) m_check_told B_check_told (p_cons (p_var 1) (p_cons (p_var 0) p_nil)))) (p_scons (p_ret (p_var 1)) p_snil)))
theorem sc_is_row : FnScope ["value"] ["value"] (defScope s_is_row) := ⟨rfl, rfl, rfl, by decide +kernel, rfl, by decide +kernel, by decide +kernel⟩
theorem ok_is_row (T : Tx K mg) {f : Addr} {fd : FuncData} (F_is_row : Fun K "is_row" "is_row" s_is_row f fd) : FnOk P w K mg base CX0 3 f fd ["value"] (spF false K 1 g_is_row) := by
  obtain ⟨f_is_rowed, fd_is_rowed, m_is_rowed, F_is_rowed⟩ := T.d_is_rowed
  have G_is_rowed := ok_is_rowed (P := P) (w := w) (base := base) T F_is_rowed
  have B_is_rowed : L2.Binds K fd_is_rowed ["value"] [] := F_is_rowed.binds fun _ _ _ _ _ _ us hl => match us, hl with | [_], _ => rfl
  refine F_is_row.ok sc_is_row (fun vs H Q E h => h.1) (fun cdv A outer s H vs Q E hr h => ?_)
  obtain ⟨bs, z⟩ := def_body (N := ["value"]) (m := 0) rfl h
  refine ⟨_, ?_, z⟩
  exact (p_scons (p_ret (p_call ln_is_rowed F_is_rowed G_is_rowed (hr.mono (by first | decide | omega)) m_is_rowed B_is_rowed (p_cons (p_var 0) p_nil))) p_snil)
theorem sc_lump_count_by : FnScope ["row"] ["row"] (defScope s_lump_count_by) := ⟨rfl, rfl, rfl, by decide +kernel, rfl, by decide +kernel, by decide +kernel⟩
theorem ok_lump_count_by (T : Tx K mg) {f : Addr} {fd : FuncData} (F_lump_count_by : Fun K "lump_count_by" "lump_count_by" s_lump_count_by f fd) : FnOk P w K mg base CX0 2 f fd ["row"] (spF false K 1 g_lump_count_by) := by
  obtain ⟨f_lumps_of, fd_lumps_of, m_lumps_of, F_lumps_of⟩ := T.d_lumps_of
  have G_lumps_of := ok_lumps_of (P := P) (w := w) (base := base) T F_lumps_of
  have B_lumps_of : L2.Binds K fd_lumps_of ["row"] [] := F_lumps_of.binds fun _ _ _ _ _ _ us hl => match us, hl with | [_], _ => rfl
  refine F_lump_count_by.ok sc_lump_count_by (fun vs H Q E h => h.1) (fun cdv A outer s H vs Q E hr h => ?_)
  obtain ⟨bs, z⟩ := def_body (N := ["row"]) (m := 0) rfl h
  refine ⟨_, ?_, z⟩
  exact (p_scons (p_ret (p_callB bb_len T.b_len PySem.boot_len (p_cons (p_frz (p_call ln_lumps_of F_lumps_of G_lumps_of (hr.mono (by first | decide | omega)) m_lumps_of B_lumps_of (p_cons (p_var 0) p_nil))) p_nil))) p_snil)
theorem sc_lump_count : FnScope ["row"] ["row"] (defScope s_lump_count) := ⟨rfl, rfl, rfl, by decide +kernel, rfl, by decide +kernel, by decide +kernel⟩
theorem ok_lump_count (T : Tx K mg) {f : Addr} {fd : FuncData} (F_lump_count : Fun K "lump_count" "lump_count" s_lump_count f fd) : FnOk P w K mg base CX0 4 f fd ["row"] (spF false K 1 g_lump_count) := by
  obtain ⟨f_check_row, fd_check_row, m_check_row, F_check_row⟩ := T.d_check_row
  have G_check_row := ok_check_row (P := P) (w := w) (base := base) T F_check_row
  have B_check_row : L2.Binds K fd_check_row ["row"] [] := F_check_row.binds fun _ _ _ _ _ _ us hl => match us, hl with | [_], _ => rfl
  obtain ⟨f_lump_count_by, fd_lump_count_by, m_lump_count_by, F_lump_count_by⟩ := T.d_lump_count_by
  have G_lump_count_by := ok_lump_count_by (P := P) (w := w) (base := base) T F_lump_count_by
  have B_lump_count_by : L2.Binds K fd_lump_count_by ["row"] [] := F_lump_count_by.binds fun _ _ _ _ _ _ us hl => match us, hl with | [_], _ => rfl
  refine F_lump_count.ok sc_lump_count (fun vs H Q E h => h.1) (fun cdv A outer s H vs Q E hr h => ?_)
  obtain ⟨bs, z⟩ := def_body (N := ["row"]) (m := 0) rfl h
  refine ⟨_, ?_, z⟩
  exact (p_scons (p_ex (p_call ln_check_row F_check_row G_check_row (hr.mono (by first | decide | omega)) m_check_row B_check_row (p_cons (p_var 0) p_nil))) (p_scons (p_ret (p_call ln_lump_count_by F_lump_count_by G_lump_count_by (hr.mono (by first | decide | omega)) m_lump_count_by B_lump_count_by (p_cons (p_var 0) p_nil))) p_snil))
theorem sc__law_lumps : FnScope ["row", "found", "sock"] ["row"] (defScope s__law_lumps) := ⟨rfl, rfl, rfl, by decide +kernel, rfl, by decide +kernel, by decide +kernel⟩
theorem ok__law_lumps (T : Tx K mg) {f : Addr} {fd : FuncData} (F__law_lumps : Fun K "_law_lumps" "_law_lumps" s__law_lumps f fd) : FnOk P w K mg base CX0 1 f fd ["row"] (spF false K 1 g__law_lumps) := by

  refine F__law_lumps.ok sc__law_lumps (fun vs H Q E h => h.1) (fun cdv A outer s H vs Q E hr h => ?_)
  obtain ⟨bs, z⟩ := def_body (N := ["row", "found", "sock"]) (m := 2) rfl h
  refine ⟨_, ?_, z⟩
  exact (p_scons (p_asgn 1 sc__law_lumps.nd (p_new (p_lst p_dnil))) (p_scons (p_for (p_it (p_var 0)) (p_tgn 2 sc__law_lumps.nd) (p_scons (p_ite (p_bool (p_andW (p_cmpT (ob_ne hr) (p_var 1) (p_frz (p_lst p_dnil))) (p_last (p_cmpT (ob_eq hr) (p_sub (p_sub (p_var 1) (p_neg p_int)) p_int) (p_var 2))))) (p_scons (p_asg (p_tup (p_dcons (p_var 2) (p_dcons (p_bin ob_add (p_sub (p_sub (p_var 1) (p_neg p_int)) p_int) p_int) p_dnil))) (p_asub 1 (p_neg p_int))) p_snil) (p_scons (p_ex (p_mu 1 mu_append (p_cons (p_tup (p_dcons (p_var 2) (p_dcons p_int p_dnil))) p_nil))) p_snil)) p_snil)) (p_scons (p_ret (p_callTy bb_tuple T.b_tuple PyProof.Rows.boot_tuple (p_cons (p_var 1) p_nil))) p_snil)))
theorem sc_colours_by : FnScope ["row", "colour"] ["row"] (defScope s_colours_by) := ⟨rfl, rfl, rfl, by decide +kernel, rfl, by decide +kernel, by decide +kernel⟩
theorem ok_colours_by (T : Tx K mg) {f : Addr} {fd : FuncData} (F_colours_by : Fun K "colours_by" "colours_by" s_colours_by f fd) : FnOk P w K mg base CX0 1 f fd ["row"] (spF false K 1 g_colours_by) := by

  refine F_colours_by.ok sc_colours_by (fun vs H Q E h => h.1) (fun cdv A outer s H vs Q E hr h => ?_)
  obtain ⟨bs, z⟩ := def_body (N := ["row", "colour"]) (m := 1) rfl h
  refine ⟨_, ?_, z⟩
  exact (p_scons (p_ret (p_jd (own := [("colour", 1)]) (by decide) sc_colours_by.nd (p_it (p_var 0)) (blk_mk rfl (by kernel_rfl)) (fun _ _ _ _ _ => (p_tgn 1 sc_colours_by.nd)) (fun _ _ _ _ _ => p_ifs0) (fun _ _ _ _ _ => (p_var 1)))) p_snil)
theorem sc_colours_of : FnScope ["row"] ["row"] (defScope s_colours_of) := ⟨rfl, rfl, rfl, by decide +kernel, rfl, by decide +kernel, by decide +kernel⟩
theorem ok_colours_of (T : Tx K mg) {f : Addr} {fd : FuncData} (F_colours_of : Fun K "colours_of" "colours_of" s_colours_of f fd) : FnOk P w K mg base CX0 4 f fd ["row"] (spF false K 1 g_colours_of) := by
  obtain ⟨f_check_row, fd_check_row, m_check_row, F_check_row⟩ := T.d_check_row
  have G_check_row := ok_check_row (P := P) (w := w) (base := base) T F_check_row
  have B_check_row : L2.Binds K fd_check_row ["row"] [] := F_check_row.binds fun _ _ _ _ _ _ us hl => match us, hl with | [_], _ => rfl
  obtain ⟨f_colours_by, fd_colours_by, m_colours_by, F_colours_by⟩ := T.d_colours_by
  have G_colours_by := ok_colours_by (P := P) (w := w) (base := base) T F_colours_by
  have B_colours_by : L2.Binds K fd_colours_by ["row"] [] := F_colours_by.binds fun _ _ _ _ _ _ us hl => match us, hl with | [_], _ => rfl
  refine F_colours_of.ok sc_colours_of (fun vs H Q E h => h.1) (fun cdv A outer s H vs Q E hr h => ?_)
  obtain ⟨bs, z⟩ := def_body (N := ["row"]) (m := 0) rfl h
  refine ⟨_, ?_, z⟩
  exact (p_scons (p_ex (p_call ln_check_row F_check_row G_check_row (hr.mono (by first | decide | omega)) m_check_row B_check_row (p_cons (p_var 0) p_nil))) (p_scons (p_ret (p_call ln_colours_by F_colours_by G_colours_by (hr.mono (by first | decide | omega)) m_colours_by B_colours_by (p_cons (p_var 0) p_nil))) p_snil))
theorem okx_colours_of (T : Tx K mg) {Cs : List (Addr × Str)} {S : Addr} (XT : XTab K mg xns Cs S) {f : Addr} {fd : FuncData} (F_colours_of : Fun K "colours_of" "colours_of" s_colours_of f fd) : FnOk P w K mg base (L2.CX P w) 6 f fd ["row"] (spX2 false K Cs 1 x_colours_of) := by
  obtain ⟨f_check_row, fd_check_row, m_check_row, F_check_row⟩ := T.d_check_row
  have GX_check_row := okx_check_row (P := P) (w := w) (base := base) T XT F_check_row
  have B_check_row : L2.Binds K fd_check_row ["row"] [] := F_check_row.binds fun _ _ _ _ _ _ us hl => match us, hl with | [_], _ => rfl
  obtain ⟨f_colours_by, fd_colours_by, m_colours_by, F_colours_by⟩ := T.d_colours_by
  have G_colours_by := ok_colours_by (P := P) (w := w) (base := base) T F_colours_by
  have B_colours_by : L2.Binds K fd_colours_by ["row"] [] := F_colours_by.binds fun _ _ _ _ _ _ us hl => match us, hl with | [_], _ => rfl
  refine F_colours_of.okX sc_colours_of (fun vs H Q E h => h.1) (fun cdv A outer s H vs Q E hr h => ?_)
  obtain ⟨bs, z⟩ := def_bodyX (N := ["row"]) (m := 0) rfl h
  refine ⟨LSx bs K Cs (WE (fun cls d _ H => E cls d H)) _, ?_, z⟩
  have tk : Takes (cxOf (L2.CX P w) P w K mg base ["row"] "colours_of" (defScope s_colours_of) f cdv A outer s H E) (fun cls d _ H => E cls d H) := takes_of rfl rfl rfl rfl
  exact (px_scons (px_ex (px_call lnx_check_row F_check_row GX_check_row (hr.mono (by first | decide | omega)) m_check_row B_check_row (fun σ => passAt tk σ) (p_cons (p_var 0) p_nil))) (px_Ss (p_scons (p_ret (p_call ln_colours_by F_colours_by G_colours_by (hr.mono (by first | decide | omega)) m_colours_by B_colours_by (p_cons (p_var 0) p_nil))) p_snil)))
theorem sc_named_by : FnScope ["row", "colours", "colour"] ["row"] (defScope s_named_by) := ⟨rfl, rfl, rfl, by decide +kernel, rfl, by decide +kernel, by decide +kernel⟩
theorem ok_named_by (T : Tx K mg) {f : Addr} {fd : FuncData} (F_named_by : Fun K "named_by" "named_by" s_named_by f fd) : FnOk P w K mg base CX0 2 f fd ["row"] (spF false K 1 g_named_by) := by
  obtain ⟨f_colours_by, fd_colours_by, m_colours_by, F_colours_by⟩ := T.d_colours_by
  have G_colours_by := ok_colours_by (P := P) (w := w) (base := base) T F_colours_by
  have B_colours_by : L2.Binds K fd_colours_by ["row"] [] := F_colours_by.binds fun _ _ _ _ _ _ us hl => match us, hl with | [_], _ => rfl
  refine F_named_by.ok sc_named_by (fun vs H Q E h => h.1) (fun cdv A outer s H vs Q E hr h => ?_)
  obtain ⟨bs, z⟩ := def_body (N := ["row", "colours", "colour"]) (m := 2) rfl h
  refine ⟨_, ?_, z⟩
  exact (p_scons (p_asgn 1 sc_named_by.nd (p_call ln_colours_by F_colours_by G_colours_by (hr.mono (by first | decide | omega)) m_colours_by B_colours_by (p_cons (p_var 0) p_nil))) (p_scons (p_ret (p_me tab_join p_str (p_cons (p_frz (p_lc (own := [("colour", 2)]) (by decide) sc_named_by.nd (p_it (p_var 0)) (blk_mk rfl (by kernel_rfl)) (fun _ _ _ _ _ => (p_tgn 2 sc_named_by.nd)) (fun _ _ _ _ _ => p_ifs0) (fun _ _ _ _ _ => (p_sub (p_glob T.c_COLOURS) (p_me (tab_index hr) (p_var 1) (p_cons (p_var 2) p_nil)))))) p_nil))) p_snil))
theorem sc_named : FnScope ["row"] ["row"] (defScope s_named) := ⟨rfl, rfl, rfl, by decide +kernel, rfl, by decide +kernel, by decide +kernel⟩
theorem ok_named (T : Tx K mg) {f : Addr} {fd : FuncData} (F_named : Fun K "named" "named" s_named f fd) : FnOk P w K mg base CX0 4 f fd ["row"] (spF false K 1 g_named) := by
  obtain ⟨f_check_row, fd_check_row, m_check_row, F_check_row⟩ := T.d_check_row
  have G_check_row := ok_check_row (P := P) (w := w) (base := base) T F_check_row
  have B_check_row : L2.Binds K fd_check_row ["row"] [] := F_check_row.binds fun _ _ _ _ _ _ us hl => match us, hl with | [_], _ => rfl
  obtain ⟨f_named_by, fd_named_by, m_named_by, F_named_by⟩ := T.d_named_by
  have G_named_by := ok_named_by (P := P) (w := w) (base := base) T F_named_by
  have B_named_by : L2.Binds K fd_named_by ["row"] [] := F_named_by.binds fun _ _ _ _ _ _ us hl => match us, hl with | [_], _ => rfl
  refine F_named.ok sc_named (fun vs H Q E h => h.1) (fun cdv A outer s H vs Q E hr h => ?_)
  obtain ⟨bs, z⟩ := def_body (N := ["row"]) (m := 0) rfl h
  refine ⟨_, ?_, z⟩
  exact (p_scons (p_ex (p_call ln_check_row F_check_row G_check_row (hr.mono (by first | decide | omega)) m_check_row B_check_row (p_cons (p_var 0) p_nil))) (p_scons (p_ret (p_call ln_named_by F_named_by G_named_by (hr.mono (by first | decide | omega)) m_named_by B_named_by (p_cons (p_var 0) p_nil))) p_snil))
theorem okx_named (T : Tx K mg) {Cs : List (Addr × Str)} {S : Addr} (XT : XTab K mg xns Cs S) {f : Addr} {fd : FuncData} (F_named : Fun K "named" "named" s_named f fd) : FnOk P w K mg base (L2.CX P w) 6 f fd ["row"] (spX2 false K Cs 1 x_named) := by
  obtain ⟨f_check_row, fd_check_row, m_check_row, F_check_row⟩ := T.d_check_row
  have GX_check_row := okx_check_row (P := P) (w := w) (base := base) T XT F_check_row
  have B_check_row : L2.Binds K fd_check_row ["row"] [] := F_check_row.binds fun _ _ _ _ _ _ us hl => match us, hl with | [_], _ => rfl
  obtain ⟨f_named_by, fd_named_by, m_named_by, F_named_by⟩ := T.d_named_by
  have G_named_by := ok_named_by (P := P) (w := w) (base := base) T F_named_by
  have B_named_by : L2.Binds K fd_named_by ["row"] [] := F_named_by.binds fun _ _ _ _ _ _ us hl => match us, hl with | [_], _ => rfl
  refine F_named.okX sc_named (fun vs H Q E h => h.1) (fun cdv A outer s H vs Q E hr h => ?_)
  obtain ⟨bs, z⟩ := def_bodyX (N := ["row"]) (m := 0) rfl h
  refine ⟨LSx bs K Cs (WE (fun cls d _ H => E cls d H)) _, ?_, z⟩
  have tk : Takes (cxOf (L2.CX P w) P w K mg base ["row"] "named" (defScope s_named) f cdv A outer s H E) (fun cls d _ H => E cls d H) := takes_of rfl rfl rfl rfl
  exact (px_scons (px_ex (px_call lnx_check_row F_check_row GX_check_row (hr.mono (by first | decide | omega)) m_check_row B_check_row (fun σ => passAt tk σ) (p_cons (p_var 0) p_nil))) (px_Ss (p_scons (p_ret (p_call ln_named_by F_named_by G_named_by (hr.mono (by first | decide | omega)) m_named_by B_named_by (p_cons (p_var 0) p_nil))) p_snil)))
theorem sc_lumps : FnScope ["row"] ["row"] (defScope s_lumps) := ⟨rfl, rfl, rfl, by decide +kernel, rfl, by decide +kernel, by decide +kernel⟩
theorem ok_lumps (T : Tx K mg) {f : Addr} {fd : FuncData} (F_lumps : Fun K "lumps" "lumps" s_lumps f fd) : FnOk P w K mg base CX0 4 f fd ["row"] (spF false K 1 g_lumps) := by
  obtain ⟨f_check_row, fd_check_row, m_check_row, F_check_row⟩ := T.d_check_row
  have G_check_row := ok_check_row (P := P) (w := w) (base := base) T F_check_row
  have B_check_row : L2.Binds K fd_check_row ["row"] [] := F_check_row.binds fun _ _ _ _ _ _ us hl => match us, hl with | [_], _ => rfl
  obtain ⟨f_lumps_of, fd_lumps_of, m_lumps_of, F_lumps_of⟩ := T.d_lumps_of
  have G_lumps_of := ok_lumps_of (P := P) (w := w) (base := base) T F_lumps_of
  have B_lumps_of : L2.Binds K fd_lumps_of ["row"] [] := F_lumps_of.binds fun _ _ _ _ _ _ us hl => match us, hl with | [_], _ => rfl
  refine F_lumps.ok sc_lumps (fun vs H Q E h => h.1) (fun cdv A outer s H vs Q E hr h => ?_)
  obtain ⟨bs, z⟩ := def_body (N := ["row"]) (m := 0) rfl h
  refine ⟨_, ?_, z⟩
  exact (p_scons (p_ex (p_call ln_check_row F_check_row G_check_row (hr.mono (by first | decide | omega)) m_check_row B_check_row (p_cons (p_var 0) p_nil))) (p_scons (p_ret (p_callTy bb_tuple T.b_tuple PyProof.Rows.boot_tuple (p_cons (p_frz (p_call ln_lumps_of F_lumps_of G_lumps_of (hr.mono (by first | decide | omega)) m_lumps_of B_lumps_of (p_cons (p_var 0) p_nil))) p_nil))) p_snil))
theorem okx_lumps (T : Tx K mg) {Cs : List (Addr × Str)} {S : Addr} (XT : XTab K mg xns Cs S) {f : Addr} {fd : FuncData} (F_lumps : Fun K "lumps" "lumps" s_lumps f fd) : FnOk P w K mg base (L2.CX P w) 6 f fd ["row"] (spX2 false K Cs 1 x_lumps) := by
  obtain ⟨f_check_row, fd_check_row, m_check_row, F_check_row⟩ := T.d_check_row
  have GX_check_row := okx_check_row (P := P) (w := w) (base := base) T XT F_check_row
  have B_check_row : L2.Binds K fd_check_row ["row"] [] := F_check_row.binds fun _ _ _ _ _ _ us hl => match us, hl with | [_], _ => rfl
  obtain ⟨f_lumps_of, fd_lumps_of, m_lumps_of, F_lumps_of⟩ := T.d_lumps_of
  have G_lumps_of := ok_lumps_of (P := P) (w := w) (base := base) T F_lumps_of
  have B_lumps_of : L2.Binds K fd_lumps_of ["row"] [] := F_lumps_of.binds fun _ _ _ _ _ _ us hl => match us, hl with | [_], _ => rfl
  refine F_lumps.okX sc_lumps (fun vs H Q E h => h.1) (fun cdv A outer s H vs Q E hr h => ?_)
  obtain ⟨bs, z⟩ := def_bodyX (N := ["row"]) (m := 0) rfl h
  refine ⟨LSx bs K Cs (WE (fun cls d _ H => E cls d H)) _, ?_, z⟩
  have tk : Takes (cxOf (L2.CX P w) P w K mg base ["row"] "lumps" (defScope s_lumps) f cdv A outer s H E) (fun cls d _ H => E cls d H) := takes_of rfl rfl rfl rfl
  exact (px_scons (px_ex (px_call lnx_check_row F_check_row GX_check_row (hr.mono (by first | decide | omega)) m_check_row B_check_row (fun σ => passAt tk σ) (p_cons (p_var 0) p_nil))) (px_Ss (p_scons (p_ret (p_callTy bb_tuple T.b_tuple PyProof.Rows.boot_tuple (p_cons (p_frz (p_call ln_lumps_of F_lumps_of G_lumps_of (hr.mono (by first | decide | omega)) m_lumps_of B_lumps_of (p_cons (p_var 0) p_nil))) p_nil))) p_snil)))
theorem sc_is_tidy_by : FnScope ["row"] ["row"] (defScope s_is_tidy_by) := ⟨rfl, rfl, rfl, by decide +kernel, rfl, by decide +kernel, by decide +kernel⟩
theorem ok_is_tidy_by (T : Tx K mg) {f : Addr} {fd : FuncData} (F_is_tidy_by : Fun K "is_tidy_by" "is_tidy_by" s_is_tidy_by f fd) : FnOk P w K mg base CX0 3 f fd ["row"] (spF false K 1 g_is_tidy_by) := by
  obtain ⟨f_lump_count_by, fd_lump_count_by, m_lump_count_by, F_lump_count_by⟩ := T.d_lump_count_by
  have G_lump_count_by := ok_lump_count_by (P := P) (w := w) (base := base) T F_lump_count_by
  have B_lump_count_by : L2.Binds K fd_lump_count_by ["row"] [] := F_lump_count_by.binds fun _ _ _ _ _ _ us hl => match us, hl with | [_], _ => rfl
  obtain ⟨f_colours_by, fd_colours_by, m_colours_by, F_colours_by⟩ := T.d_colours_by
  have G_colours_by := ok_colours_by (P := P) (w := w) (base := base) T F_colours_by
  have B_colours_by : L2.Binds K fd_colours_by ["row"] [] := F_colours_by.binds fun _ _ _ _ _ _ us hl => match us, hl with | [_], _ => rfl
  refine F_is_tidy_by.ok sc_is_tidy_by (fun vs H Q E h => h.1) (fun cdv A outer s H vs Q E hr h => ?_)
  obtain ⟨bs, z⟩ := def_body (N := ["row"]) (m := 0) rfl h
  refine ⟨_, ?_, z⟩
  exact (p_scons (p_ret (p_cmp ob_le (p_call ln_lump_count_by F_lump_count_by G_lump_count_by (hr.mono (by first | decide | omega)) m_lump_count_by B_lump_count_by (p_cons (p_var 0) p_nil)) (p_callB bb_len T.b_len PySem.boot_len (p_cons (p_call ln_colours_by F_colours_by G_colours_by (hr.mono (by first | decide | omega)) m_colours_by B_colours_by (p_cons (p_var 0) p_nil)) p_nil)))) p_snil)
theorem sc_is_tidy : FnScope ["row"] ["row"] (defScope s_is_tidy) := ⟨rfl, rfl, rfl, by decide +kernel, rfl, by decide +kernel, by decide +kernel⟩
theorem ok_is_tidy (T : Tx K mg) {f : Addr} {fd : FuncData} (F_is_tidy : Fun K "is_tidy" "is_tidy" s_is_tidy f fd) : FnOk P w K mg base CX0 4 f fd ["row"] (spF false K 1 g_is_tidy) := by
  obtain ⟨f_check_row, fd_check_row, m_check_row, F_check_row⟩ := T.d_check_row
  have G_check_row := ok_check_row (P := P) (w := w) (base := base) T F_check_row
  have B_check_row : L2.Binds K fd_check_row ["row"] [] := F_check_row.binds fun _ _ _ _ _ _ us hl => match us, hl with | [_], _ => rfl
  obtain ⟨f_is_tidy_by, fd_is_tidy_by, m_is_tidy_by, F_is_tidy_by⟩ := T.d_is_tidy_by
  have G_is_tidy_by := ok_is_tidy_by (P := P) (w := w) (base := base) T F_is_tidy_by
  have B_is_tidy_by : L2.Binds K fd_is_tidy_by ["row"] [] := F_is_tidy_by.binds fun _ _ _ _ _ _ us hl => match us, hl with | [_], _ => rfl
  refine F_is_tidy.ok sc_is_tidy (fun vs H Q E h => h.1) (fun cdv A outer s H vs Q E hr h => ?_)
  obtain ⟨bs, z⟩ := def_body (N := ["row"]) (m := 0) rfl h
  refine ⟨_, ?_, z⟩
  exact (p_scons (p_ex (p_call ln_check_row F_check_row G_check_row (hr.mono (by first | decide | omega)) m_check_row B_check_row (p_cons (p_var 0) p_nil))) (p_scons (p_ret (p_call ln_is_tidy_by F_is_tidy_by G_is_tidy_by (hr.mono (by first | decide | omega)) m_is_tidy_by B_is_tidy_by (p_cons (p_var 0) p_nil))) p_snil))
theorem okx_is_tidy (T : Tx K mg) {Cs : List (Addr × Str)} {S : Addr} (XT : XTab K mg xns Cs S) {f : Addr} {fd : FuncData} (F_is_tidy : Fun K "is_tidy" "is_tidy" s_is_tidy f fd) : FnOk P w K mg base (L2.CX P w) 6 f fd ["row"] (spX2 false K Cs 1 x_is_tidy) := by
  obtain ⟨f_check_row, fd_check_row, m_check_row, F_check_row⟩ := T.d_check_row
  have GX_check_row := okx_check_row (P := P) (w := w) (base := base) T XT F_check_row
  have B_check_row : L2.Binds K fd_check_row ["row"] [] := F_check_row.binds fun _ _ _ _ _ _ us hl => match us, hl with | [_], _ => rfl
  obtain ⟨f_is_tidy_by, fd_is_tidy_by, m_is_tidy_by, F_is_tidy_by⟩ := T.d_is_tidy_by
  have G_is_tidy_by := ok_is_tidy_by (P := P) (w := w) (base := base) T F_is_tidy_by
  have B_is_tidy_by : L2.Binds K fd_is_tidy_by ["row"] [] := F_is_tidy_by.binds fun _ _ _ _ _ _ us hl => match us, hl with | [_], _ => rfl
  refine F_is_tidy.okX sc_is_tidy (fun vs H Q E h => h.1) (fun cdv A outer s H vs Q E hr h => ?_)
  obtain ⟨bs, z⟩ := def_bodyX (N := ["row"]) (m := 0) rfl h
  refine ⟨LSx bs K Cs (WE (fun cls d _ H => E cls d H)) _, ?_, z⟩
  have tk : Takes (cxOf (L2.CX P w) P w K mg base ["row"] "is_tidy" (defScope s_is_tidy) f cdv A outer s H E) (fun cls d _ H => E cls d H) := takes_of rfl rfl rfl rfl
  exact (px_scons (px_ex (px_call lnx_check_row F_check_row GX_check_row (hr.mono (by first | decide | omega)) m_check_row B_check_row (fun σ => passAt tk σ) (p_cons (p_var 0) p_nil))) (px_Ss (p_scons (p_ret (p_call ln_is_tidy_by F_is_tidy_by G_is_tidy_by (hr.mono (by first | decide | omega)) m_is_tidy_by B_is_tidy_by (p_cons (p_var 0) p_nil))) p_snil)))
theorem sc__law_refused : FnScope ["which", "value", "found", "e"] ["which", "value"] (defScope s__law_refused) := ⟨rfl, rfl, rfl, by decide +kernel, rfl, by decide +kernel, by decide +kernel⟩
theorem ok__law_refused (T : Tx K mg) {f : Addr} {fd : FuncData} (F__law_refused : Fun K "_law_refused" "_law_refused" s__law_refused f fd) : FnOk P w K mg base CX0 8 f fd ["which", "value"] (spF false K 2 g__law_refused) := by
  obtain ⟨Cs, S, XT⟩ := T.x_tab
  obtain ⟨f_colours_of, fd_colours_of, m_colours_of, F_colours_of⟩ := T.d_colours_of
  have GX_colours_of := okx_colours_of (P := P) (w := w) (base := base) T XT F_colours_of
  have B_colours_of : L2.Binds K fd_colours_of ["row"] [] := F_colours_of.binds fun _ _ _ _ _ _ us hl => match us, hl with | [_], _ => rfl
  obtain ⟨f_named, fd_named, m_named, F_named⟩ := T.d_named
  have GX_named := okx_named (P := P) (w := w) (base := base) T XT F_named
  have B_named : L2.Binds K fd_named ["row"] [] := F_named.binds fun _ _ _ _ _ _ us hl => match us, hl with | [_], _ => rfl
  obtain ⟨f_lumps, fd_lumps, m_lumps, F_lumps⟩ := T.d_lumps
  have GX_lumps := okx_lumps (P := P) (w := w) (base := base) T XT F_lumps
  have B_lumps : L2.Binds K fd_lumps ["row"] [] := F_lumps.binds fun _ _ _ _ _ _ us hl => match us, hl with | [_], _ => rfl
  obtain ⟨f_is_tidy, fd_is_tidy, m_is_tidy, F_is_tidy⟩ := T.d_is_tidy
  have GX_is_tidy := okx_is_tidy (P := P) (w := w) (base := base) T XT F_is_tidy
  have B_is_tidy : L2.Binds K fd_is_tidy ["row"] [] := F_is_tidy.binds fun _ _ _ _ _ _ us hl => match us, hl with | [_], _ => rfl
  have KB_0 : KBn K fd_named ["row"] 0 ["row"] (fun us ws => pickO [(true, 0)] us ws) (fun us ws => pickO [(true, 0)] us ws) := kbn_mk (ord := @pickO [(true, 0)]) F_named (pickO_ok _) fun _ _ _ _ _ _ us ws h1 h2 => match us, ws, h1, h2 with | [], [_], _, _ => rfl
  have KB_1 : KBn K fd_is_tidy ["row"] 0 ["row"] (fun us ws => pickO [(true, 0)] us ws) (fun us ws => pickO [(true, 0)] us ws) := kbn_mk (ord := @pickO [(true, 0)]) F_is_tidy (pickO_ok _) fun _ _ _ _ _ _ us ws h1 h2 => match us, ws, h1, h2 with | [], [_], _, _ => rfl
  refine F__law_refused.ok sc__law_refused (fun vs H Q E h => h.1) (fun cdv A outer s H vs Q E hr h => ?_)
  obtain ⟨bs, z⟩ := def_body (N := ["which", "value", "found", "e"]) (m := 2) rfl h
  refine ⟨_, ?_, z⟩
  exact (p_scons (px_try XT ⟨rfl, by decide, .inl XT.gS⟩ takes0 sc__law_refused.nd (fun W pn xe tk hp => (px_scons (px_asgn 2 sc__law_refused.nd (px_if (p_cmpT (ob_eq hr) (p_var 0) p_int) (px_call lnx_colours_of F_colours_of GX_colours_of (hr.mono (by first | decide | omega)) m_colours_of B_colours_of (fun σ => passAt tk σ) (p_cons (p_var 1) p_nil)) (px_if (p_cmpT (ob_eq hr) (p_var 0) p_int) (px_callN0 lnx_named F_named GX_named (hr.mono (by first | decide | omega)) m_named (pickO_ok _) KB_0 rfl (fun σ => passAt tk σ) (p_kcons (p_var 1) p_knil)) (px_if (p_cmpT (ob_eq hr) (p_var 0) p_int) (px_call lnx_lumps F_lumps GX_lumps (hr.mono (by first | decide | omega)) m_lumps B_lumps (fun σ => passAt tk σ) (p_cons (p_var 1) p_nil)) (px_callN0 lnx_is_tidy F_is_tidy GX_is_tidy (hr.mono (by first | decide | omega)) m_is_tidy (pickO_ok _) KB_1 rfl (fun σ => passAt tk σ) (p_kcons (p_var 1) p_knil)))))) px_snil)) (fun a cls d oe pn hz hf => (pu_scons (pu_ret (pu_if (pu_T (pu_is (U := ⟨mg, xns, Cs, 3, a, cls, d⟩) (j := 0) hz hf rfl rfl T.b_isinstance)) (pu_lst (pu_dcons (pu_given (U := ⟨mg, xns, Cs, 3, a, cls, d⟩) hz hf rfl xgiven_is) pu_dnil)) (pu_lift (U := ⟨mg, xns, Cs, 3, a, cls, d⟩) (p_frz (p_lst (p_dcons p_str (p_dcons p_non p_dnil))))))) pu_snil))) (p_scons (p_ret (p_frz (p_ifx (p_cmpT (ob_ne hr) (p_frz (p_lst (p_dcons (p_var 2) p_dnil))) (p_frz (p_lst p_dnil))) (p_lst p_dnil) (p_lst (p_dcons (p_var 2) (p_dcons (p_var 2) p_dnil)))))) p_snil))
theorem sc__law_value_right : FnScope ["value", "due", "which", "text", "sock", "many", "told"] ["value"] (defScope s__law_value_right) := ⟨rfl, rfl, rfl, by decide +kernel, rfl, by decide +kernel, by decide +kernel⟩
theorem ok__law_value_right (T : Tx K mg) {f : Addr} {fd : FuncData} (F__law_value_right : Fun K "_law_value_right" "_law_value_right" s__law_value_right f fd) : FnOk P w K mg base CX0 9 f fd ["value"] (spF false K 1 g__law_value_right) := by
  obtain ⟨f__law_is_row, fd__law_is_row, m__law_is_row, F__law_is_row⟩ := T.d__law_is_row
  have G__law_is_row := ok__law_is_row (P := P) (w := w) (base := base) T F__law_is_row
  have B__law_is_row : L2.Binds K fd__law_is_row ["value"] [] := F__law_is_row.binds fun _ _ _ _ _ _ us hl => match us, hl with | [_], _ => rfl
  obtain ⟨f__law_is, fd__law_is, m__law_is, F__law_is⟩ := T.d__law_is
  have G__law_is := ok__law_is (P := P) (w := w) (base := base) T 6 F__law_is m__law_is
  have B__law_is : L2.Binds K fd__law_is ["one", "due"] [] := F__law_is.binds fun _ _ _ _ _ _ us hl => match us, hl with | [_, _], _ => rfl
  obtain ⟨f_lumps_text, fd_lumps_text, m_lumps_text, F_lumps_text⟩ := T.d_lumps_text
  have G_lumps_text := ok_lumps_text (P := P) (w := w) (base := base) T F_lumps_text
  have B_lumps_text : L2.Binds K fd_lumps_text ["row"] [] := F_lumps_text.binds fun _ _ _ _ _ _ us hl => match us, hl with | [_], _ => rfl
  obtain ⟨f_read_lumps, fd_read_lumps, m_read_lumps, F_read_lumps⟩ := T.d_read_lumps
  have G_read_lumps := ok_read_lumps (P := P) (w := w) (base := base) T F_read_lumps
  have B_read_lumps : L2.Binds K fd_read_lumps ["text"] [] := F_read_lumps.binds fun _ _ _ _ _ _ us hl => match us, hl with | [_], _ => rfl
  obtain ⟨f_is_row, fd_is_row, m_is_row, F_is_row⟩ := T.d_is_row
  have G_is_row := ok_is_row (P := P) (w := w) (base := base) T F_is_row
  have B_is_row : L2.Binds K fd_is_row ["value"] [] := F_is_row.binds fun _ _ _ _ _ _ us hl => match us, hl with | [_], _ => rfl
  obtain ⟨f_lump_count, fd_lump_count, m_lump_count, F_lump_count⟩ := T.d_lump_count
  have G_lump_count := ok_lump_count (P := P) (w := w) (base := base) T F_lump_count
  have B_lump_count : L2.Binds K fd_lump_count ["row"] [] := F_lump_count.binds fun _ _ _ _ _ _ us hl => match us, hl with | [_], _ => rfl
  obtain ⟨f__law_lumps, fd__law_lumps, m__law_lumps, F__law_lumps⟩ := T.d__law_lumps
  have G__law_lumps := ok__law_lumps (P := P) (w := w) (base := base) T F__law_lumps
  have B__law_lumps : L2.Binds K fd__law_lumps ["row"] [] := F__law_lumps.binds fun _ _ _ _ _ _ us hl => match us, hl with | [_], _ => rfl
  obtain ⟨f__law_refused, fd__law_refused, m__law_refused, F__law_refused⟩ := T.d__law_refused
  have G__law_refused := ok__law_refused (P := P) (w := w) (base := base) T F__law_refused
  have B__law_refused : L2.Binds K fd__law_refused ["which", "value"] [] := F__law_refused.binds fun _ _ _ _ _ _ us hl => match us, hl with | [_, _], _ => rfl
  have KB_0 : KBn K fd_is_row ["value"] 0 ["value"] (fun us ws => pickO [(true, 0)] us ws) (fun us ws => pickO [(true, 0)] us ws) := kbn_mk (ord := @pickO [(true, 0)]) F_is_row (pickO_ok _) fun _ _ _ _ _ _ us ws h1 h2 => match us, ws, h1, h2 with | [], [_], _, _ => rfl
  have KB_1 : KBn K fd_lumps_text ["row"] 0 ["row"] (fun us ws => pickO [(true, 0)] us ws) (fun us ws => pickO [(true, 0)] us ws) := kbn_mk (ord := @pickO [(true, 0)]) F_lumps_text (pickO_ok _) fun _ _ _ _ _ _ us ws h1 h2 => match us, ws, h1, h2 with | [], [_], _, _ => rfl
  have KB_2 : KBn K fd_read_lumps ["text"] 0 ["text"] (fun us ws => pickO [(true, 0)] us ws) (fun us ws => pickO [(true, 0)] us ws) := kbn_mk (ord := @pickO [(true, 0)]) F_read_lumps (pickO_ok _) fun _ _ _ _ _ _ us ws h1 h2 => match us, ws, h1, h2 with | [], [_], _, _ => rfl
  refine F__law_value_right.ok sc__law_value_right (fun vs H Q E h => h.1) (fun cdv A outer s H vs Q E hr h => ?_)
  obtain ⟨bs, z⟩ := def_body (N := ["value", "due", "which", "text", "sock", "many", "told"]) (m := 6) rfl h
  refine ⟨_, ?_, z⟩
  exact (p_scons (p_asgn 1 sc__law_value_right.nd (p_call ln__law_is_row F__law_is_row G__law_is_row (hr.mono (by first | decide | omega)) m__law_is_row B__law_is_row (p_cons (p_var 0) p_nil))) (p_scons (p_ite (p_notT (p_val (p_call (ln__law_is _) F__law_is G__law_is (hr.mono (by first | decide | omega)) m__law_is B__law_is (p_cons (p_frz (p_lst (p_dcons (p_call ln_is_row F_is_row G_is_row (hr.mono (by first | decide | omega)) m_is_row B_is_row (p_cons (p_var 0) p_nil)) (p_dcons (p_callN0 ln_is_row F_is_row G_is_row (hr.mono (by first | decide | omega)) m_is_row (pickO_ok _) KB_0 (p_kcons (p_var 0) p_knil)) p_dnil)))) (p_cons (p_frz (p_lst (p_dcons (p_var 1) (p_dcons (p_var 1) p_dnil)))) p_nil))))) (p_scons (p_ret p_bl) p_snil) p_snil) (p_scons (p_ite (p_cmpT (ob_ne hr) (p_frz (p_lc (own := [("which", 2)]) (by decide) sc__law_value_right.nd (p_rng1 T.b_range p_int) (blk_mk rfl (by kernel_rfl)) (fun _ _ _ _ _ => (p_tgn 2 sc__law_value_right.nd)) (fun _ _ _ _ _ => (p_ifs1 (p_notT (p_val (p_call (ln__law_is _) F__law_is G__law_is (hr.mono (by first | decide | omega)) m__law_is B__law_is (p_cons (p_call ln__law_refused F__law_refused G__law_refused (hr.mono (by first | decide | omega)) m__law_refused B__law_refused (p_cons (p_var 2) (p_cons (p_var 0) p_nil))) (p_cons (p_frz (p_ifx (p_val (p_var 1)) (p_lst p_dnil) (p_lst (p_dcons (p_var 0) p_dnil)))) p_nil))))))) (fun _ _ _ _ _ => (p_var 2)))) (p_frz (p_lst p_dnil))) (p_scons (p_ret p_bl) p_snil) p_snil) (p_scons (p_ite (p_notT (p_val (p_var 1))) (p_scons (p_ret p_bl) p_snil) p_snil) (p_scons (p_asgn 3 sc__law_value_right.nd (p_ifx (p_cmpT (ob_ne hr) (p_var 0) p_str) (p_me tab_join p_str (p_cons (p_frz (p_lc (own := [("sock", 4), ("many", 5)]) (by decide) sc__law_value_right.nd (p_it (p_call ln__law_lumps F__law_lumps G__law_lumps (hr.mono (by first | decide | omega)) m__law_lumps B__law_lumps (p_cons (p_var 0) p_nil))) (blk_mk rfl (by kernel_rfl)) (fun _ _ _ _ _ => (p_tgt (p_tgcons (p_tgn 4 sc__law_value_right.nd) (p_tgcons (p_tgn 5 sc__law_value_right.nd) p_tgnil)))) (fun _ _ _ _ _ => p_ifs0) (fun _ _ _ _ _ => (p_bin ob_add (p_callTy bb_strT T.b_str PyProof.Rows.boot_str (p_cons (p_var 5) p_nil)) (p_var 4))))) p_nil)) p_str)) (p_scons (p_asgn 6 sc__law_value_right.nd (p_frz (p_lst (p_dcons (p_call ln_lumps_text F_lumps_text G_lumps_text (hr.mono (by first | decide | omega)) m_lumps_text B_lumps_text (p_cons (p_var 0) p_nil)) (p_dcons (p_callN0 ln_lumps_text F_lumps_text G_lumps_text (hr.mono (by first | decide | omega)) m_lumps_text (pickO_ok _) KB_1 (p_kcons (p_var 0) p_knil)) (p_dcons (p_call ln_read_lumps F_read_lumps G_read_lumps (hr.mono (by first | decide | omega)) m_read_lumps B_read_lumps (p_cons (p_var 3) p_nil)) (p_dcons (p_callN0 ln_read_lumps F_read_lumps G_read_lumps (hr.mono (by first | decide | omega)) m_read_lumps (pickO_ok _) KB_2 (p_kcons (p_var 3) p_knil)) (p_dcons (p_call ln_is_row F_is_row G_is_row (hr.mono (by first | decide | omega)) m_is_row B_is_row (p_cons (p_rev (p_var 0)) p_nil)) (p_dcons (p_call ln_lump_count F_lump_count G_lump_count (hr.mono (by first | decide | omega)) m_lump_count B_lump_count (p_cons (p_rev (p_var 0)) p_nil)) p_dnil))))))))) (p_scons (p_ret (p_call (ln__law_is _) F__law_is G__law_is (hr.mono (by first | decide | omega)) m__law_is B__law_is (p_cons (p_var 6) (p_cons (p_frz (p_lst (p_dcons (p_var 3) (p_dcons (p_var 3) (p_dcons (p_var 0) (p_dcons (p_var 0) (p_dcons p_bl (p_dcons (p_callB bb_len T.b_len PySem.boot_len (p_cons (p_call ln__law_lumps F__law_lumps G__law_lumps (hr.mono (by first | decide | omega)) m__law_lumps B__law_lumps (p_cons (p_var 0) p_nil)) p_nil)) p_dnil)))))))) p_nil)))) p_snil)))))))
theorem sc__law_pick : FnScope ["well", "some"] ["well", "some"] (defScope s__law_pick) := ⟨rfl, rfl, rfl, by decide +kernel, rfl, by decide +kernel, by decide +kernel⟩
theorem ok__law_pick (T : Tx K mg) {f : Addr} {fd : FuncData} (F__law_pick : Fun K "_law_pick" "_law_pick" s__law_pick f fd) : FnOk P w K mg base CX0 2 f fd ["well", "some"] (spF false K 2 g__law_pick) := by
  obtain ⟨f__law_take, fd__law_take, m__law_take, F__law_take⟩ := T.d__law_take
  have G__law_take := ok__law_take (P := P) (w := w) (base := base) T F__law_take
  have B__law_take : L2.Binds K fd__law_take ["well", "many"] [] := F__law_take.binds fun _ _ _ _ _ _ us hl => match us, hl with | [_, _], _ => rfl
  refine F__law_pick.ok sc__law_pick (fun vs H Q E h => h.1) (fun cdv A outer s H vs Q E hr h => ?_)
  obtain ⟨bs, z⟩ := def_body (N := ["well", "some"]) (m := 0) rfl h
  refine ⟨_, ?_, z⟩
  exact (p_scons (p_ret (p_sub (p_var 1) (p_call ln__law_take F__law_take G__law_take (hr.mono (by first | decide | omega)) m__law_take B__law_take (p_cons (p_var 0) (p_cons (p_callB bb_len T.b_len PySem.boot_len (p_cons (p_var 1) p_nil)) p_nil))))) p_snil)
theorem sc__law_odd : FnScope ["well", "whole", "some"] ["well"] (defScope s__law_odd) := ⟨rfl, rfl, rfl, by decide +kernel, rfl, by decide +kernel, by decide +kernel⟩
theorem ok__law_odd (T : Tx K mg) {f : Addr} {fd : FuncData} (F__law_odd : Fun K "_law_odd" "_law_odd" s__law_odd f fd) : FnOk P w K mg base CX0 3 f fd ["well"] (spF false K 1 g__law_odd) := by
  obtain ⟨f__law_take, fd__law_take, m__law_take, F__law_take⟩ := T.d__law_take
  have G__law_take := ok__law_take (P := P) (w := w) (base := base) T F__law_take
  have B__law_take : L2.Binds K fd__law_take ["well", "many"] [] := F__law_take.binds fun _ _ _ _ _ _ us hl => match us, hl with | [_, _], _ => rfl
  obtain ⟨f__law_pick, fd__law_pick, m__law_pick, F__law_pick⟩ := T.d__law_pick
  have G__law_pick := ok__law_pick (P := P) (w := w) (base := base) T F__law_pick
  have B__law_pick : L2.Binds K fd__law_pick ["well", "some"] [] := F__law_pick.binds fun _ _ _ _ _ _ us hl => match us, hl with | [_, _], _ => rfl
  refine F__law_odd.ok sc__law_odd (fun vs H Q E h => h.1) (fun cdv A outer s H vs Q E hr h => ?_)
  obtain ⟨bs, z⟩ := def_body (N := ["well", "whole", "some"]) (m := 2) rfl h
  refine ⟨_, ?_, z⟩
  exact (p_scons (p_asgn 1 sc__law_odd.nd (p_bin ob_sub (p_call ln__law_take F__law_take G__law_take (hr.mono (by first | decide | omega)) m__law_take B__law_take (p_cons (p_var 0) (p_cons (p_bin ob_pow p_int p_int) p_nil))) (p_bin ob_mul p_int (p_bin ob_pow p_int p_int)))) (p_scons (p_asgn 2 sc__law_odd.nd (p_frz (p_lst (p_dcons p_non (p_dcons p_bl (p_dcons p_bl (p_dcons p_str (p_dcons p_str (p_dcons (p_tup p_dnil) (p_dcons (p_tup (p_dcons p_int (p_dcons p_non p_dnil))) (p_dcons (p_frz (p_lst p_dnil)) (p_dcons (p_frz (p_lst (p_dcons (p_var 1) p_dnil))) (p_dcons p_dic0 (p_dcons (p_dic1 p_str (p_var 1)) (p_dcons (p_var 1) (p_dcons p_int (p_dcons p_int (p_dcons (p_neg p_int) (p_dcons (p_tup (p_dcons (p_tup p_dnil) (p_dcons (p_frz (p_lst (p_dcons (p_var 1) p_dnil))) p_dnil))) p_dnil))))))))))))))))))) (p_scons (p_ret (p_call ln__law_pick F__law_pick G__law_pick (hr.mono (by first | decide | omega)) m__law_pick B__law_pick (p_cons (p_var 0) (p_cons (p_var 2) p_nil)))) p_snil)))
theorem sc__law_bent_row : FnScope ["well", "row", "at", "sign", "some"] ["well", "row"] (defScope s__law_bent_row) := ⟨rfl, rfl, rfl, by decide +kernel, rfl, by decide +kernel, by decide +kernel⟩
theorem ok__law_bent_row (T : Tx K mg) {f : Addr} {fd : FuncData} (F__law_bent_row : Fun K "_law_bent_row" "_law_bent_row" s__law_bent_row f fd) : FnOk P w K mg base CX0 3 f fd ["well", "row"] (spF false K 2 g__law_bent_row) := by
  obtain ⟨f__law_take, fd__law_take, m__law_take, F__law_take⟩ := T.d__law_take
  have G__law_take := ok__law_take (P := P) (w := w) (base := base) T F__law_take
  have B__law_take : L2.Binds K fd__law_take ["well", "many"] [] := F__law_take.binds fun _ _ _ _ _ _ us hl => match us, hl with | [_, _], _ => rfl
  obtain ⟨f__law_pick, fd__law_pick, m__law_pick, F__law_pick⟩ := T.d__law_pick
  have G__law_pick := ok__law_pick (P := P) (w := w) (base := base) T F__law_pick
  have B__law_pick : L2.Binds K fd__law_pick ["well", "some"] [] := F__law_pick.binds fun _ _ _ _ _ _ us hl => match us, hl with | [_, _], _ => rfl
  refine F__law_bent_row.ok sc__law_bent_row (fun vs H Q E h => h.1) (fun cdv A outer s H vs Q E hr h => ?_)
  obtain ⟨bs, z⟩ := def_body (N := ["well", "row", "at", "sign", "some"]) (m := 3) rfl h
  refine ⟨_, ?_, z⟩
  exact (p_scons (p_par2 2 3 sc__law_bent_row.nd (p_cons (p_call ln__law_take F__law_take G__law_take (hr.mono (by first | decide | omega)) m__law_take B__law_take (p_cons (p_var 0) (p_cons (p_bin ob_add (p_callB bb_len T.b_len PySem.boot_len (p_cons (p_var 1) p_nil)) p_int) p_nil))) (p_cons (p_call ln__law_pick F__law_pick G__law_pick (hr.mono (by first | decide | omega)) m__law_pick B__law_pick (p_cons (p_var 0) (p_cons (p_frz (p_lst (p_dcons p_str (p_dcons p_str (p_dcons p_str (p_dcons p_str (p_dcons p_str (p_dcons p_str (p_dcons p_str p_dnil))))))))) p_nil))) p_nil))) (p_scons (p_asgn 4 sc__law_bent_row.nd (p_frz (p_lst (p_dcons (p_bin ob_add (p_bin ob_add (p_slH (p_var 1) (p_var 2)) (p_var 3)) (p_slL (p_var 1) (p_var 2))) (p_dcons (p_bin ob_add (p_var 1) p_str) (p_dcons (p_bin ob_add (p_me tab_upper (p_var 1) p_nil) p_str) (p_dcons (p_callTy (bb_tupS rfl) T.b_tuple PyProof.Rows.boot_tuple (p_cons (p_var 1) p_nil)) (p_dcons (p_frz (p_callTy (bb_list rfl) T.b_list PyProof.Rows.boot_list (p_cons (p_var 1) p_nil))) (p_dcons (p_tup (p_dcons (p_var 1) p_dnil)) (p_dcons (p_dic1 (p_var 1) p_int) (p_dcons (p_bin ob_add (p_var 1) p_str) p_dnil))))))))))) (p_scons (p_ret (p_call ln__law_pick F__law_pick G__law_pick (hr.mono (by first | decide | omega)) m__law_pick B__law_pick (p_cons (p_var 0) (p_cons (p_bin ob_add (p_var 4) (p_frz (p_lst (p_dcons p_non (p_dcons p_int (p_dcons p_bl (p_dcons p_str (p_dcons p_str (p_dcons (p_frz (p_lst (p_dcons (p_var 1) p_dnil))) (p_dcons p_int p_dnil)))))))))) p_nil)))) p_snil)))
theorem sc__law_right : FnScope ["well", "turn", "row", "some", "value", "lap"] ["well"] (defScope s__law_right) := ⟨rfl, rfl, rfl, by decide +kernel, rfl, by decide +kernel, by decide +kernel⟩
theorem ok__law_right (T : Tx K mg) {f : Addr} {fd : FuncData} (F__law_right : Fun K "_law_right" "_law_right" s__law_right f fd) : FnOk P w K mg base CX0 10 f fd ["well"] (spF false K 1 g__law_right) := by
  obtain ⟨f__law_drawn_row, fd__law_drawn_row, m__law_drawn_row, F__law_drawn_row⟩ := T.d__law_drawn_row
  have G__law_drawn_row := ok__law_drawn_row (P := P) (w := w) (base := base) T F__law_drawn_row
  have B__law_drawn_row : L2.Binds K fd__law_drawn_row ["well", "most"] [] := F__law_drawn_row.binds fun _ _ _ _ _ _ us hl => match us, hl with | [_, _], _ => rfl
  obtain ⟨f__law_value_right, fd__law_value_right, m__law_value_right, F__law_value_right⟩ := T.d__law_value_right
  have G__law_value_right := ok__law_value_right (P := P) (w := w) (base := base) T F__law_value_right
  have B__law_value_right : L2.Binds K fd__law_value_right ["value"] [] := F__law_value_right.binds fun _ _ _ _ _ _ us hl => match us, hl with | [_], _ => rfl
  obtain ⟨f__law_odd, fd__law_odd, m__law_odd, F__law_odd⟩ := T.d__law_odd
  have G__law_odd := ok__law_odd (P := P) (w := w) (base := base) T F__law_odd
  have B__law_odd : L2.Binds K fd__law_odd ["well"] [] := F__law_odd.binds fun _ _ _ _ _ _ us hl => match us, hl with | [_], _ => rfl
  obtain ⟨f__law_bent_row, fd__law_bent_row, m__law_bent_row, F__law_bent_row⟩ := T.d__law_bent_row
  have G__law_bent_row := ok__law_bent_row (P := P) (w := w) (base := base) T F__law_bent_row
  have B__law_bent_row : L2.Binds K fd__law_bent_row ["well", "row"] [] := F__law_bent_row.binds fun _ _ _ _ _ _ us hl => match us, hl with | [_, _], _ => rfl
  refine F__law_right.ok sc__law_right (fun vs H Q E h => h.1) (fun cdv A outer s H vs Q E hr h => ?_)
  obtain ⟨bs, z⟩ := def_body (N := ["well", "turn", "row", "some", "value", "lap"]) (m := 5) rfl h
  refine ⟨_, ?_, z⟩
  exact (p_scons (p_for (p_rng1 T.b_range p_int) (p_tgn 1 sc__law_right.nd) (p_scons (p_asgn 2 sc__law_right.nd (p_call ln__law_drawn_row F__law_drawn_row G__law_drawn_row (hr.mono (by first | decide | omega)) m__law_drawn_row B__law_drawn_row (p_cons (p_var 0) (p_cons p_int p_nil)))) (p_scons (p_asgn 3 sc__law_right.nd (p_frz (p_lst (p_dcons (p_var 2) (p_dcons (p_bin ob_add (p_var 2) (p_var 2)) (p_dcons p_str (p_dcons (p_bin ob_mul p_str p_int) (p_dcons (p_bin ob_add (p_bin ob_mul p_str p_int) p_str) (p_dcons (p_bin ob_mul p_str p_int) (p_dcons p_str (p_dcons p_str (p_dcons p_str p_dnil)))))))))))) (p_scons (p_ite (p_cmpT (ob_ne hr) (p_frz (p_lc (own := [("value", 4)]) (by decide) sc__law_right.nd (p_it (p_bin ob_add (p_var 3) (p_frz (p_lc (own := [("lap", 5)]) (by decide) sc__law_right.nd (p_rng1 T.b_range p_int) (blk_mk rfl (by kernel_rfl)) (fun _ _ _ _ _ => (p_tgn 5 sc__law_right.nd)) (fun _ _ _ _ _ => p_ifs0) (fun _ _ _ _ _ => (p_call ln__law_bent_row F__law_bent_row G__law_bent_row (hr.mono (by first | decide | omega)) m__law_bent_row B__law_bent_row (p_cons (p_var 0) (p_cons (p_var 2) p_nil)))))))) (blk_mk rfl (by kernel_rfl)) (fun _ _ _ _ _ => (p_tgn 4 sc__law_right.nd)) (fun _ _ _ _ _ => (p_ifs1 (p_notT (p_val (p_call ln__law_value_right F__law_value_right G__law_value_right (hr.mono (by first | decide | omega)) m__law_value_right B__law_value_right (p_cons (p_var 4) p_nil)))))) (fun _ _ _ _ _ => (p_var 4)))) (p_frz (p_lst p_dnil))) (p_scons (p_ret p_bl) p_snil) p_snil) p_snil)))) (p_scons (p_ret (p_cmp (ob_eq hr) (p_frz (p_lc (own := [("turn", 1)]) (by decide) sc__law_right.nd (p_rng1 T.b_range p_int) (blk_mk rfl (by kernel_rfl)) (fun _ _ _ _ _ => (p_tgn 1 sc__law_right.nd)) (fun _ _ _ _ _ => (p_ifs1 (p_notT (p_val (p_call ln__law_value_right F__law_value_right G__law_value_right (hr.mono (by first | decide | omega)) m__law_value_right B__law_value_right (p_cons (p_call ln__law_odd F__law_odd G__law_odd (hr.mono (by first | decide | omega)) m__law_odd B__law_odd (p_cons (p_var 0) p_nil)) p_nil)))))) (fun _ _ _ _ _ => (p_var 1)))) (p_frz (p_lst p_dnil)))) p_snil))
theorem sc__law_well : FnScope ["script", "turn", "own", "stir", "cell"] ["script", "turn"] (defScope s__law_well) := ⟨rfl, rfl, rfl, by decide +kernel, rfl, by decide +kernel, by decide +kernel⟩
theorem ok__law_well (T : Tx K mg) {f : Addr} {fd : FuncData} (F__law_well : Fun K "_law_well" "_law_well" s__law_well f fd) : FnOk P w K mg base CX0 1 f fd ["script", "turn"] (spF true K 2 g__law_well) := by

  refine F__law_well.ok sc__law_well (fun vs H Q E h => h.1) (fun cdv A outer s H vs Q E hr h => ?_)
  obtain ⟨bs, z⟩ := def_body (N := ["script", "turn", "own", "stir", "cell"]) (m := 3) rfl h
  refine ⟨_, ?_, z⟩
  exact (p_scons (p_asgn 2 sc__law_well.nd (p_ifx (p_cmpT ob_lt (p_var 1) (p_callB bb_len T.b_len PySem.boot_len (p_cons (p_var 0) p_nil))) (p_callTy bb_int T.b_int PyProof.Rows.boot_int (p_cons (p_sub (p_var 0) (p_var 1)) p_nil)) (p_bin ob_add (p_bin ob_add (p_bin ob_mul p_int (p_var 1)) (p_bin ob_mod (p_callTy bb_int T.b_int PyProof.Rows.boot_int (p_cons (p_callB (bb_sum rfl) T.b_sum PyProof.Rows.boot_sum (p_cons (p_slH (p_var 0) p_int) p_nil)) p_nil)) p_int)) p_int))) (p_scons (p_asgn 3 sc__law_well.nd (p_bin ob_add p_int (p_bin ob_mul p_int (p_var 1)))) (p_scons (p_for (p_it (p_bin ob_add (p_slH (p_var 0) p_int) (p_frz (p_lst (p_dcons (p_var 2) p_dnil))))) (p_tgn 4 sc__law_well.nd) (p_scons (p_asgn 3 sc__law_well.nd (p_bin ob_mod (p_callTy bb_int T.b_int PyProof.Rows.boot_int (p_cons (p_bin ob_add (p_bin ob_add (p_bin ob_mul (p_var 3) p_int) (p_bin ob_mod (p_callTy bb_int T.b_int PyProof.Rows.boot_int (p_cons (p_var 4) p_nil)) p_int)) p_int) p_nil)) p_int)) p_snil)) (p_scons (p_ret (p_new (p_lst (p_dcons (p_ifx (p_bool (p_orW (p_cmpT ob_lt (p_var 2) p_int) (p_last (p_cmpT ob_ge (p_var 2) (p_bin ob_pow p_int p_int))))) (p_bin ob_mod (p_callTy bb_int T.b_int PyProof.Rows.boot_int (p_cons (p_callB bb_abs T.b_abs boot_abs (p_cons (p_var 2) p_nil)) p_nil)) (p_bin ob_pow p_int p_int)) p_int) (p_dcons (p_var 3) (p_dcons p_int p_dnil)))))) p_snil))))
theorem sc_law : FnScope ["script", "turn"] ["script"] (defScope s_law) := ⟨rfl, rfl, rfl, by decide +kernel, rfl, by decide +kernel, by decide +kernel⟩
theorem ok_law (T : Tx K mg) {f : Addr} {fd : FuncData} (F_law : Fun K "law" "law" s_law f fd) : FnOk P w K mg base CX0 11 f fd ["script"] (spF false K 1 g_law) := by
  obtain ⟨f__law_right, fd__law_right, m__law_right, F__law_right⟩ := T.d__law_right
  have G__law_right := ok__law_right (P := P) (w := w) (base := base) T F__law_right
  have B__law_right : L2.Binds K fd__law_right ["well"] [] := F__law_right.binds fun _ _ _ _ _ _ us hl => match us, hl with | [_], _ => rfl
  obtain ⟨f__law_well, fd__law_well, m__law_well, F__law_well⟩ := T.d__law_well
  have G__law_well := ok__law_well (P := P) (w := w) (base := base) T F__law_well
  have B__law_well : L2.Binds K fd__law_well ["script", "turn"] [] := F__law_well.binds fun _ _ _ _ _ _ us hl => match us, hl with | [_, _], _ => rfl
  refine F_law.ok sc_law (fun vs H Q E h => h.1) (fun cdv A outer s H vs Q E hr h => ?_)
  obtain ⟨bs, z⟩ := def_body (N := ["script", "turn"]) (m := 1) rfl h
  refine ⟨_, ?_, z⟩
  exact (p_scons (p_ret (p_callB (bb_all rfl) T.b_all PyProof.Rows.boot_all (p_cons (p_frz (p_lc (own := [("turn", 1)]) (by decide) sc_law.nd (p_rng1 T.b_range (p_callB (bb_max2 rfl) T.b_max PyProof.Rows.boot_max (p_cons p_int (p_cons (p_callB (bb_min2 rfl) T.b_min PyProof.Rows.boot_min (p_cons (p_callB bb_len T.b_len PySem.boot_len (p_cons (p_var 0) p_nil)) (p_cons p_int p_nil))) p_nil)))) (blk_mk rfl (by kernel_rfl)) (fun _ _ _ _ _ => (p_tgn 1 sc_law.nd)) (fun _ _ _ _ _ => p_ifs0) (fun _ _ _ _ _ => (p_call ln__law_right F__law_right G__law_right (hr.mono (by first | decide | omega)) m__law_right B__law_right (p_cons (p_new (p_call ln__law_well F__law_well G__law_well (hr.mono (by first | decide | omega)) m__law_well B__law_well (p_cons (p_var 0) (p_cons (p_var 1) p_nil)))) p_nil))))) p_nil))) p_snil)
end
end K02
end P_K02P
section P_K02L
set_option Elab.async false
set_option linter.all false
set_option maxRecDepth 100000
namespace K02
/-! ### lumps with their sizes -/
/-- a sock at the front -/
def pre (c : Char) : List (Char × Nat) → List (Char × Nat)
  | [] => [(c, 1)]
  | (d, n) :: t => if d = c then (c, n + 1) :: t else (c, 1) :: (d, n) :: t
theorem pre_cons (c d : Char) (n : Nat) (t : List (Char × Nat)) : pre c ((d, n) :: t) = if d = c then (c, n + 1) :: t else (c, 1) :: (d, n) :: t := rfl
/-- a sock behind -/
def stp : List (Char × Nat) → Char → List (Char × Nat)
  | [], c => [(c, 1)]
  | [(d, n)], c => if d = c then [(c, n + 1)] else [(d, n), (c, 1)]
  | p :: q :: t, c => p :: stp (q :: t) c
def rle (r : List Char) : List (Char × Nat) := r.foldr pre []
theorem stp_snoc (d : Char) (n : Nat) (c : Char) : ∀ a : List (Char × Nat), stp (a ++ [(d, n)]) c = if d = c then a ++ [(c, n + 1)] else a ++ [(d, n), (c, 1)]
  | [] => rfl
  | [p] => by
    show p :: stp [(d, n)] c = _
    show p :: (if d = c then _ else _) = _
    split <;> rfl
  | p :: q :: a => by
    show p :: stp ((q :: a) ++ [(d, n)]) c = _
    rw [stp_snoc d n c (q :: a)]
    split <;> rfl
theorem pre_stp (x c : Char) : ∀ l : List (Char × Nat), pre x (stp l c) = stp (pre x l) c
  | [] => by
    show (if c = x then _ else _) = (if x = c then _ else _)
    by_cases h : x = c
    · subst h; simp
    · rw [if_neg h, if_neg (fun e => h e.symm)]
  | [(d, n)] => by
    by_cases h1 : d = c
    · subst h1
      by_cases h2 : d = x
      · subst h2; simp [stp, pre]
      · simp [stp, pre, h2]
    · by_cases h2 : d = x
      · subst h2; simp [stp, pre, h1]
      · simp [stp, pre, h1, h2]
  | (d, n) :: q :: t => by
    by_cases h2 : d = x
    · subst h2; simp [stp, pre]
    · simp [stp, pre, h2]
theorem rle_cons (c : Char) (r : List Char) : rle (c :: r) = pre c (rle r) := rfl
theorem rle_snoc (c : Char) : ∀ r : List Char, rle (r ++ [c]) = stp (rle r) c
  | [] => rfl
  | x :: r => by
    show pre x (rle (r ++ [c])) = stp (pre x (rle r)) c
    rw [rle_snoc c r, pre_stp]
theorem stp_rev (c : Char) (l : List (Char × Nat)) : stp l.reverse c = (pre c l).reverse := by
  cases l with
  | nil => rfl
  | cons p t =>
    obtain ⟨d, n⟩ := p
    rw [List.reverse_cons, stp_snoc, pre_cons]
    by_cases h : d = c
    · rw [if_pos h, if_pos h, List.reverse_cons]
    · rw [if_neg h, if_neg h, List.reverse_cons, List.reverse_cons, List.append_assoc]; rfl
theorem rle_rev : ∀ r : List Char, rle r.reverse = (rle r).reverse
  | [] => rfl
  | c :: r => by rw [List.reverse_cons, rle_snoc, rle_rev r, stp_rev]; rfl
theorem rle_mem : ∀ (r : List Char) (p : Char × Nat), p ∈ rle r → p.1 ∈ r
  | [], _, h => by cases h
  | c :: r, p, h => by
    have ih := rle_mem r
    rw [rle_cons] at h
    cases hr : rle r with
    | nil => rw [hr] at h; rw [List.mem_singleton.mp h]; exact List.mem_cons_self ..
    | cons q t =>
      obtain ⟨d, n⟩ := q
      rw [hr] at h ih
      rw [pre_cons] at h
      split at h
      · rcases List.mem_cons.mp h with rfl | h
        · exact List.mem_cons_self ..
        · exact List.mem_cons_of_mem _ (ih p (List.mem_cons_of_mem _ h))
      · rcases List.mem_cons.mp h with rfl | h
        · exact List.mem_cons_self ..
        · exact List.mem_cons_of_mem _ (ih p h)
theorem rle_map {f : Char → Char} : ∀ {r : List Char}, (∀ a ∈ r, ∀ b ∈ r, f a = f b → a = b) → rle (r.map f) = (rle r).map fun p => (f p.1, p.2)
  | [], _ => rfl
  | c :: r, h => by
    have ih := rle_map (r := r) fun a ha b hb => h a (List.mem_cons_of_mem _ ha) b (List.mem_cons_of_mem _ hb)
    have hm := rle_mem r
    rw [List.map_cons, rle_cons, rle_cons, ih]
    cases hr : rle r with
    | nil => rfl
    | cons q t =>
      obtain ⟨d, n⟩ := q
      rw [hr] at hm
      have hd : d ∈ r := hm (d, n) (List.mem_cons_self ..)
      show (if f d = f c then _ else _) = List.map _ (if d = c then _ else _)
      by_cases e : d = c
      · subst e; rw [if_pos rfl, if_pos rfl]; rfl
      · rw [if_neg e, if_neg fun z => e (h d (List.mem_cons_of_mem _ hd) c (List.mem_cons_self ..) z)]; rfl
theorem rle_le : ∀ (r : List Char), (rle r).length ≤ r.length ∧ ∀ p ∈ rle r, 1 ≤ p.2 ∧ p.2 ≤ r.length
  | [] => ⟨Nat.le_refl _, fun _ h => by cases h⟩
  | c :: r => by
    obtain ⟨h1, h2⟩ := rle_le r
    rw [rle_cons]
    cases hr : rle r with
    | nil => exact ⟨Nat.succ_le_succ (Nat.zero_le _), fun p h => by rw [List.mem_singleton.mp h]; exact ⟨Nat.le_refl _, Nat.succ_le_succ (Nat.zero_le _)⟩⟩
    | cons q t =>
      obtain ⟨d, n⟩ := q
      rw [hr] at h1 h2
      rw [pre_cons]
      rw [List.length_cons] at h1 ⊢
      have h3 := h2 (d, n) (List.mem_cons_self ..)
      split
      · refine ⟨by rw [List.length_cons]; omega, fun p h => ?_⟩
        rcases List.mem_cons.mp h with rfl | h
        · exact ⟨by show 1 ≤ n + 1; omega, by show n + 1 ≤ _; have : n ≤ r.length := h3.2; omega⟩
        · have := h2 p (List.mem_cons_of_mem _ h); omega
      · refine ⟨by rw [List.length_cons, List.length_cons]; omega, fun p h => ?_⟩
        rcases List.mem_cons.mp h with rfl | h
        · exact ⟨Nat.le_refl _, by show 1 ≤ _; omega⟩
        · have := h2 p h; omega
/-! ### lumps, how many -/
/-- how many socks are unlike the one ahead, p ahead of all -/
def bnd (p : Option Char) : List Char → Nat
  | [] => 0
  | c :: r => (if p = some c then 0 else 1) + bnd (some c) r
def L (row : List Char) : Nat := bnd none row
theorem bnd_app : ∀ (a b : List Char) (p : Option Char), bnd p (a ++ b) = bnd p a + bnd (a.getLast?.or p) b
  | [], b, p => by simp [bnd]
  | c :: a, b, p => by
    show (if p = some c then 0 else 1) + bnd (some c) (a ++ b) = (if p = some c then 0 else 1) + bnd (some c) a + bnd ((c :: a).getLast?.or p) b
    rw [bnd_app a b (some c), Nat.add_assoc]
    congr 3
    cases a with
    | nil => rfl
    | cons d a => rw [List.getLast?_cons_cons]; cases h : (d :: a).getLast? with
      | none => simp at h
      | some x => rfl
theorem L_snoc (a : List Char) (c : Char) : L (a ++ [c]) = L a + if a.getLast? = some c then 0 else 1 := by
  unfold L
  rw [bnd_app, Option.or_none]
  show _ + ((if a.getLast? = some c then 0 else 1) + 0) = _
  rw [Nat.add_zero]
theorem rle_len : ∀ r : List Char, (rle r).length = L r ∧ (∀ c t, r = c :: t → ∃ n u, rle r = (c, n) :: u)
  | [] => ⟨rfl, fun _ _ h => by cases h⟩
  | c :: r => by
    obtain ⟨h1, h2⟩ := rle_len r
    rw [rle_cons]
    cases r with
    | nil => exact ⟨rfl, fun _ _ h => by cases h; exact ⟨_, _, rfl⟩⟩
    | cons d t =>
      obtain ⟨n, u, e⟩ := h2 d t rfl
      rw [e] at h1 ⊢
      have hL : L (d :: t) = 1 + bnd (some d) t := rfl
      have hL2 : L (c :: d :: t) = 1 + ((if some c = some d then 0 else 1) + bnd (some d) t) := rfl
      rw [hL2]
      rw [hL, List.length_cons] at h1
      rw [pre_cons]
      by_cases h : d = c
      · subst h
        rw [if_pos rfl, if_pos rfl]
        exact ⟨by rw [List.length_cons]; omega, fun _ _ h => by cases h; exact ⟨_, _, rfl⟩⟩
      · rw [if_neg h, if_neg (fun z => h (Option.some.inj z).symm)]
        exact ⟨by rw [List.length_cons, List.length_cons]; omega, fun _ _ h => by cases h; exact ⟨_, _, rfl⟩⟩
theorem pair_lumps {a b : List Char} {x y : Char} (ha : a.getLast? = some x) {t : List Char} (hb : b = y :: t) : L (a ++ b) + (if x = y then 1 else 0) = L a + L b := by
  subst hb
  unfold L
  rw [bnd_app, Option.or_none, ha]
  show _ + ((if some x = some y then 0 else 1) + bnd (some y) t) + _ = _ + (1 + bnd (some y) t)
  by_cases h : x = y
  · subst h; rw [if_pos rfl, if_pos rfl]; omega
  · rw [if_neg h, if_neg (fun z => h (Option.some.inj z))]; omega
theorem bnd_le : ∀ (r : List Char) (p : Option Char), bnd p r ≤ r.length
  | [], _ => Nat.le_refl _
  | c :: r, p => by
    show (if p = some c then 0 else 1) + bnd (some c) r ≤ r.length + 1
    have := bnd_le r (some c)
    split <;> omega
/-- as many lumps as socks: no two side by side alike -/
theorem unlike_of : ∀ (r : List Char) (p : Option Char), bnd p r = r.length → ∀ i, i + 1 < r.length → r[i]? ≠ r[i + 1]?
  | [], _, _, i, h => by cases h
  | [c], _, _, i, h => by simp at h
  | c :: d :: r, p, e, i, h => by
    have e : (if p = some c then 0 else 1) + ((if some c = some d then 0 else 1) + bnd (some d) r) = r.length + 1 + 1 := e
    have b := bnd_le r (some d)
    cases i with
    | zero =>
      intro z
      have z : some c = some d := z
      rw [if_pos z] at e
      split at e <;> omega
    | succ i =>
      have e2 : bnd (some c) (d :: r) = (d :: r).length := by
        show (if some c = some d then 0 else 1) + bnd (some d) r = r.length + 1
        split at e <;> split at e <;> simp_all <;> omega
      exact unlike_of (d :: r) (some c) e2 i (by simpa using h)
end K02
end P_K02L
section P_DL12
set_option Elab.async false
set_option linter.all false
set_option maxRecDepth 100000
set_option maxHeartbeats 1000000
/-! How the printed functions compute: no program in sight. -/
namespace DL
/-- an equation that is not to be seen as one by computing -/
theorem eqr {α : Sort u} {a b : α} (h : a = b) : a = b := h
variable {fa fb fc : Sl → Mem → Res Val} {fl fk : Sl → Mem → Res (List Val)} {fd : Sl → Mem → Res (List D)} {fT : Sl → Mem → Res Bool} {f g : Sl → Mem → Res Flow} {s : Sl} {M : Mem}
theorem vC_ap (x : D) : vC x s M = .ok (.d x) M := rfl
theorem vV_ap (i : Nat) : vV i s M = (match s[i]? with | some (some v) => .ok v M | _ => .bad) := rfl
theorem tst_ap : tst fa s M = toB (fa s M) := rfl
@[simp] theorem toB_bl (b : Bool) : toB (.ok (.d (.bl b)) M) = .ok b M := eqr rfl
theorem evNot_ap : evNot fa s M = (toB (fa s M)).bind fun b M1 => .ok (.d (.bl (!b))) M1 := rfl
theorem evAnd_ap : evAnd fa fb s M = (toB (fa s M)).bind fun b M1 => if b then fb s M1 else .ok (.d (.bl false)) M1 := rfl
theorem evOr_ap : evOr fa fb s M = (toB (fa s M)).bind fun b M1 => if b then .ok (.d (.bl true)) M1 else fb s M1 := rfl
theorem evIf_ap : evIf fT fa fb s M = (fT s M).bind fun t M1 => if t then fa s M1 else fb s M1 := rfl
theorem evNil_ap : evNil s M = .ok [] M := rfl
theorem evDNil_ap : evDNil s M = .ok [] M := rfl
theorem evCons_ap : evCons fa fl s M = (fa s M).bind fun v M1 => (fl s M1).bind fun vs M2 => .ok (v :: vs) M2 := rfl
theorem evConsD_ap : evConsD fa fd s M = (fa s M).bind fun v M1 => (match v with | .d x => (fd s M1).bind fun xs M2 => .ok (x :: xs) M2 | _ => .bad) := rfl
theorem evTup_ap : evTup fd s M = (fd s M).bind fun xs M1 => if xs.length ≤ big then .ok (.d (.tup xs)) M1 else .bad := rfl
theorem evLst_ap : evLst fd s M = (fd s M).bind fun xs M1 => if xs.length ≤ big then .ok (.d (.lst xs)) M1 else .bad := rfl
theorem newOf_ap : newOf fa s M = (fa s M).bind fun v M1 => (match v with
    | .d (.lst l) => .ok (.ref M1.length) (M1 ++ [.lst l])
    | _ => .bad) := rfl
theorem ev2_ap (p : D → D → Option D) : ev2 p fa fb s M = (fa s M).bind fun v M1 => (fb s M1).bind fun w M2 => (match view M2 v, view M2 w with
  | some x, some y => Res.of ((p x y).map .d) M2
  | _, _ => .bad) := rfl
theorem ev1_ap (p : D → Option D) : ev1 p fa s M = (fa s M).bind fun v M1 => (match view M1 v with
  | some x => Res.of ((p x).map .d) M1
  | none => .bad) := rfl
theorem ev3_ap (p q : D → D → Option D) : ev3 p q fa fb fc s M = (fa s M).bind fun v M1 => (fb s M1).bind fun w M2 => (match view M2 v, view M2 w with
    | some x, some y => (match p x y with
      | some (.bl true) => (fc s M2).bind fun u M3 => (match view M3 w, view M3 u with
        | some y', some z => Res.of ((q y' z).map .d) M3
        | _, _ => .bad)
      | some (.bl false) => .ok (.d (.bl false)) M2
      | _ => .bad)
    | _, _ => .bad) := rfl
theorem evB_ap (p : List D → Option D) : evB p fl s M = (fl s M).bind fun vs M1 => (match views M1 vs with
  | some xs => Res.of ((p xs).map .d) M1
  | none => .bad) := rfl
theorem evM_ap (p : D → List D → Option D) : evM p fa fl s M = (fa s M).bind fun v M1 => (match view M1 v with
  | some x1 => (fl s M1).bind fun vs M2 => (match view M2 v, views M2 vs with
    | some x, some xs => if kd x1 = kd x then Res.of ((p x xs).map .d) M2 else .bad
    | _, _ => .bad)
  | none => .bad) := rfl
theorem evMu_ap (m : Mu) (i : Nat) : evMu m i fl s M = (match s[i]? with
  | some (some (.ref n)) => if isDc M n then .bad else (fl s M).bind fun vs M1 => (match M1[n]?, argsOf m M1 vs with
    | some o, some xs => (match muD m o xs with
      | some (y, o') => .ok (.d y) (M1.set n o')
      | none => .bad)
    | _, _ => .bad)
  | _ => .bad) := rfl
theorem evSl_ap : evSl fa fb fc s M = (fa s M).bind fun v M1 => (fb s M1).bind fun w M2 => (fc s M2).bind fun u M3 => (match view M3 v, view M3 w, view M3 u with
  | some x, some y, some z => Res.of ((sliceD x (some y) (some z)).map .d) M3
  | _, _, _ => .bad) := rfl
theorem evIt_ap : evIt fa s M = (fa s M).bind fun v M1 => (match v with
  | .d x => Res.of (items x) M1
  | _ => .bad) := rfl
theorem evEnm_ap : evEnm fa s M = (fa s M).bind fun v M1 => (match v with
  | .d x => Res.of ((itemsE x).map (enumFrom 0)) M1
  | _ => .bad) := rfl
theorem evRng_ap : evRng fl s M = (fl s M).bind fun vs M1 => (match views M1 vs with
  | some xs => Res.of (rngD xs) M1
  | none => .bad) := rfl
theorem ifs0_ap : ifs0 s M = .ok true M := rfl
theorem ifs1_ap : ifs1 fT s M = (fT s M).bind fun b M1 => if b then .ok true M1 else .ok false M1 := rfl
theorem evLc_ap (own : List Nat) (t : Tg) (fI : Sl → Mem → Res (List D)) (fifs : Sl → Mem → Res Bool) : evLc own t fI fifs fa s M = (fI s M).bind fun xs M1 => (compLoop (evBlk own t fifs fa s) xs M1).bind fun ys M2 => .ok (.d (.lst ys)) M2 := rfl
theorem evCall_ap (g : List Val → Mem → Res Val) : evCall g fl s M = (fl s M).bind fun vs M1 => g vs M1 := rfl
theorem evCallN_ap (n m : Nat) (ord : {α : Type} → List α → List α → List α) (g : List Val → Mem → Res Val) : evCallN n m ord g fl fk s M = (fl s M).bind fun vs M1 => (fk s M1).bind fun ws M2 => if vs.length = n ∧ ws.length = m then g (ord vs ws) M2 else .bad := rfl
theorem evAsg_ap (st : Val → Sl → Mem → Res Sl) : evAsg fa st s M = (fa s M).bind fun v M1 => (st v s M1).bind fun s1 M2 => .ok (.nx s1) M2 := rfl
theorem stN_ap (i : Nat) (v : Val) : stN i v s M = if i < s.length then .ok (s.set i (some v)) M else .bad := rfl
theorem stSub_ap (i : Nat) (y : D) : stSub i fa (.d y) s M = (match s[i]? with
    | some (some (.ref n)) => (fa s M).bind fun w M1 => (match M1[n]?, view M1 w with
      | some o, some k => (match setD o k y with
        | some o' => .ok s (M1.set n o')
        | none => .bad)
      | _, _ => .bad)
    | _ => .bad) := rfl
theorem stNil_ap : stNil [] s M = .ok s M := rfl
theorem stCons_ap (st : Val → Sl → Mem → Res Sl) (sts : List D → Sl → Mem → Res Sl) (x : D) (xs : List D) : stCons st sts (x :: xs) s M = (st (.d x) s M).bind fun s1 M1 => sts xs s1 M1 := rfl
theorem stTup_ap (n : Nat) (sts : List D → Sl → Mem → Res Sl) (xs : List D) : stTup n sts (.d (.tup xs)) s M = if xs.length = n then sts xs s M else .bad := rfl
theorem evPar_ap (is : List Nat) : evPar is fl s M = (fl s M).bind fun vs M1 => (match setMany is vs s with
  | some s1 => .ok (.nx s1) M1
  | none => .bad) := rfl
theorem sEx_ap : sEx fa s M = (fa s M).bind fun _ M1 => .ok (.nx s) M1 := rfl
theorem sRet_ap : sRet fa s M = (fa s M).bind fun v M1 => .ok (.ret v) M1 := rfl
theorem sRetN_ap : sRetN s M = .ok (.ret (.d .non)) M := rfl
theorem sPass_ap : sPass s M = .ok (.nx s) M := rfl
theorem sBrk_ap : sBrk s M = .ok (.brk s) M := rfl
theorem sCont_ap : sCont s M = .ok (.cont s) M := rfl
theorem sNever_ap : sNever s M = .bad := rfl
theorem sWhile_ap : sWhile fT f s M = whileLoop fT f turns s M := rfl
theorem evIte_ap : evIte fT f g s M = (fT s M).bind fun t M1 => if t then f s M1 else g s M1 := rfl
theorem evSeq_ap : evSeq f g s M = (f s M).bind fun x M1 => (match x with
  | .nx s1 => g s1 M1
  | .ret v => .ok (.ret v) M1
  | .brk s1 => .ok (.brk s1) M1
  | .cont s1 => .ok (.cont s1) M1) := rfl
theorem evFor_ap (t : Tg) (fI : Sl → Mem → Res (List D)) : evFor t fI f s M = (fI s M).bind fun xs M1 => forLoop f t xs s M1 := rfl
theorem defG_ap (fr : Bool) (n m : Nat) (F : Nat → Sl → Mem → Res Flow) (vs : List Val) (h : vs.length = n) : defG fr n m F vs M = (F M.length (vs.map some ++ List.replicate m none) M).bind fun fl M1 => handBack fr M.length fl M1 := by
  unfold defG; rw [if_pos h]
theorem defG1 (fr : Bool) (m : Nat) (F : Nat → Sl → Mem → Res Flow) (a : Val) : defG fr 1 m F [a] M = (F M.length (some a :: List.replicate m none) M).bind fun fl M1 => handBack fr M.length fl M1 := defG_ap _ _ _ _ _ rfl
theorem defG2 (fr : Bool) (m : Nat) (F : Nat → Sl → Mem → Res Flow) (a b : Val) : defG fr 2 m F [a, b] M = (F M.length (some a :: some b :: List.replicate m none) M).bind fun fl M1 => handBack fr M.length fl M1 := defG_ap _ _ _ _ _ rfl
theorem defG3 (fr : Bool) (m : Nat) (F : Nat → Sl → Mem → Res Flow) (a b c : Val) : defG fr 3 m F [a, b, c] M = (F M.length (some a :: some b :: some c :: List.replicate m none) M).bind fun fl M1 => handBack fr M.length fl M1 := defG_ap _ _ _ _ _ rfl
@[simp] theorem hb_ret (b : Nat) (x : D) : handBack false b (.ret (.d x)) M = .ok (.d x) (M.take b) := eqr rfl
@[simp] theorem hb_nx (b : Nat) (s : Sl) : handBack false b (.nx s) M = .ok (.d .non) (M.take b) := eqr rfl
theorem hb_ref (b k : Nat) (h : b ≤ k) : handBack true b (.ret (.ref k)) M = (match M[k]? with | some (.lst l) => .ok (.d (.lst l)) (M.take b) | _ => .bad) := by
  show (if true = true ∧ b ≤ k then _ else _) = _
  rw [if_pos ⟨rfl, h⟩]
  all_goals rfl
@[simp] theorem bindTg_n (i : Nat) (x : D) : bindTg (.n i) x s = if i < s.length then some (s.set i (some (.d x))) else none := by unfold bindTg; rfl
@[simp] theorem bindTg_t (l : List Tg) (xs : List D) : bindTg (.t l) (.tup xs) s = bindTgs l xs s := by unfold bindTg; rfl
@[simp] theorem bindTgs_nil : bindTgs [] [] s = some s := by unfold bindTgs; rfl
@[simp] theorem bindTgs_cons (t : Tg) (ts : List Tg) (x : D) (xs : List D) : bindTgs (t :: ts) (x :: xs) s = (match bindTg t x s with | some s' => bindTgs ts xs s' | none => none) := by rw [bindTgs]; all_goals rfl
@[simp] theorem wipeS_nil : wipeS s [] = s := eqr rfl
@[simp] theorem wipeS_cons (i : Nat) (r : List Nat) : wipeS s (i :: r) = (wipeS s r).set i none := eqr rfl
@[simp] theorem setMany_nil : setMany [] [] s = some s := eqr rfl
@[simp] theorem setMany_cons (i : Nat) (is : List Nat) (v : Val) (vs : List Val) : setMany (i :: is) (v :: vs) s = if i < s.length then setMany is vs (s.set i (some v)) else none := eqr rfl
@[simp] theorem toD_lst (l : List D) : MO.toD (.lst l) = .lst l := eqr rfl
@[simp] theorem plainVs_nil : plainVs [] = some [] := eqr rfl
@[simp] theorem plainVs_cons (x : D) (r : List Val) : plainVs (.d x :: r) = (plainVs r).map (x :: ·) := eqr rfl
@[simp] theorem argsOf_append (vs : List Val) : argsOf .append M vs = plainVs vs := eqr rfl
@[simp] theorem argsOf_popAt (vs : List Val) : argsOf .popAt M vs = plainVs vs := eqr rfl
@[simp] theorem argsOf_pop (vs : List Val) : argsOf .pop M vs = plainVs vs := eqr rfl
@[simp] theorem argsOf_remove (vs : List Val) : argsOf .remove M vs = plainVs vs := eqr rfl
@[simp] theorem argsOf_extend (vs : List Val) : argsOf .extend M vs = views M vs := eqr rfl
/-! operators on data of known kinds -/
@[simp] theorem cmpV_lt_int (i j : Int) : cmpV .lt (.int i) (.int j) = some (.bl (decide (i < j))) := eqr rfl
@[simp] theorem cmpV_gt_int (i j : Int) : cmpV .gt (.int i) (.int j) = some (.bl (decide (j < i))) := eqr rfl
@[simp] theorem cmpV_le_int (i j : Int) : cmpV .le (.int i) (.int j) = some (.bl (!decide (j < i))) := eqr rfl
@[simp] theorem cmpV_ge_int (i j : Int) : cmpV .ge (.int i) (.int j) = some (.bl (!decide (i < j))) := eqr rfl
@[simp] theorem cmpV_eq_int (i j : Int) : cmpV .eq (.int i) (.int j) = some (.bl (i == j)) := eqr rfl
@[simp] theorem cmpV_ne_int (i j : Int) : cmpV .ne (.int i) (.int j) = some (.bl (!(i == j))) := eqr rfl
@[simp] theorem cmpV_eq_str (i j : List Char) : cmpV .eq (.str i) (.str j) = some (.bl (i == j)) := eqr rfl
@[simp] theorem cmpV_ne_str (i j : List Char) : cmpV .ne (.str i) (.str j) = some (.bl (!(i == j))) := eqr rfl
@[simp] theorem cmpV_eq_bl (i j : Bool) : cmpV .eq (.bl i) (.bl j) = some (.bl (i == j)) := eqr rfl
@[simp] theorem cmpV_ne_bl (i j : Bool) : cmpV .ne (.bl i) (.bl j) = some (.bl (!(i == j))) := eqr rfl
@[simp] theorem cmpV_isin_str (c : Char) (s : List Char) : cmpV .isin (.str [c]) (.str s) = some (.bl (s.contains c)) := eqr rfl
@[simp] theorem cmpV_notin_str (c : Char) (s : List Char) : cmpV .notin (.str [c]) (.str s) = some (.bl (!(s.contains c))) := eqr rfl
@[simp] theorem cmpV_lt_str (x y : List Char) : cmpV .lt (.str x) (.str y) = some (.bl (ltS x y)) := eqr rfl
@[simp] theorem cmpV_is_bl (i j : Bool) : cmpV .is (.bl i) (.bl j) = some (.bl (decide (i = j))) := eqr rfl
@[simp] theorem cmpV_isnot_bl (i j : Bool) : cmpV .isnot (.bl i) (.bl j) = some (.bl (!decide (i = j))) := eqr rfl
@[simp] theorem cmpV_isB_non (b : Bool) : cmpV .is .non (.bl b) = some (.bl false) := eqr rfl
@[simp] theorem cmpV_isB_int (i : Int) (b : Bool) : cmpV .is (.int i) (.bl b) = some (.bl false) := eqr rfl
@[simp] theorem cmpV_isB_str (s : List Char) (b : Bool) : cmpV .is (.str s) (.bl b) = some (.bl false) := eqr rfl
@[simp] theorem cmpV_isB_tup (l : List D) (b : Bool) : cmpV .is (.tup l) (.bl b) = some (.bl false) := eqr rfl
@[simp] theorem cmpV_isB_lst (l : List D) (b : Bool) : cmpV .is (.lst l) (.bl b) = some (.bl false) := eqr rfl
@[simp] theorem cmpV_isB_dic (l : List (D × D)) (b : Bool) : cmpV .is (.dic l) (.bl b) = some (.bl false) := eqr rfl
@[simp] theorem cmpV_isN_non : cmpV .is .non .non = some (.bl true) := eqr rfl
@[simp] theorem cmpV_isnotN_non : cmpV .isnot .non .non = some (.bl false) := eqr rfl
@[simp] theorem isiD_non (t : Ty) : isiD t .non = some (.bl false) := eqr rfl
@[simp] theorem cmpV_isN_bl (b : Bool) : cmpV .is (.bl b) .non = some (.bl false) := eqr rfl
@[simp] theorem cmpV_isnotN_bl (b : Bool) : cmpV .isnot (.bl b) .non = some (.bl true) := eqr rfl
@[simp] theorem isiD_bl (t : Ty) (b : Bool) : isiD t (.bl b) = some (.bl (t == .bool || t == .int)) := eqr rfl
@[simp] theorem cmpV_isN_int (i : Int) : cmpV .is (.int i) .non = some (.bl false) := eqr rfl
@[simp] theorem cmpV_isnotN_int (i : Int) : cmpV .isnot (.int i) .non = some (.bl true) := eqr rfl
@[simp] theorem isiD_int (t : Ty) (i : Int) : isiD t (.int i) = some (.bl (t == .int)) := eqr rfl
@[simp] theorem cmpV_isN_str (s : List Char) : cmpV .is (.str s) .non = some (.bl false) := eqr rfl
@[simp] theorem cmpV_isnotN_str (s : List Char) : cmpV .isnot (.str s) .non = some (.bl true) := eqr rfl
@[simp] theorem isiD_str (t : Ty) (s : List Char) : isiD t (.str s) = some (.bl (t == .str)) := eqr rfl
@[simp] theorem cmpV_isN_tup (l : List D) : cmpV .is (.tup l) .non = some (.bl false) := eqr rfl
@[simp] theorem cmpV_isnotN_tup (l : List D) : cmpV .isnot (.tup l) .non = some (.bl true) := eqr rfl
@[simp] theorem isiD_tup (t : Ty) (l : List D) : isiD t (.tup l) = some (.bl (t == .tuple)) := eqr rfl
@[simp] theorem cmpV_isN_lst (l : List D) : cmpV .is (.lst l) .non = some (.bl false) := eqr rfl
@[simp] theorem cmpV_isnotN_lst (l : List D) : cmpV .isnot (.lst l) .non = some (.bl true) := eqr rfl
@[simp] theorem cmpV_isN_dic (l : List (D × D)) : cmpV .is (.dic l) .non = some (.bl false) := eqr rfl
@[simp] theorem isiD_dic (t : Ty) (l : List (D × D)) : isiD t (.dic l) = some (.bl (t == .dict)) := eqr rfl
@[simp] theorem isiD_lst (t : Ty) (l : List D) : isiD t (.lst l) = some (.bl (t == .list)) := eqr rfl
@[simp] theorem binD_add_int (i j : Int) : binD .add (.int i) (.int j) = some (.int (i + j)) := eqr rfl
@[simp] theorem binD_sub_int (i j : Int) : binD .sub (.int i) (.int j) = some (.int (i - j)) := eqr rfl
@[simp] theorem binD_add_str (x y : List Char) : binD .add (.str x) (.str y) = if x.length + y.length ≤ big then some (.str (x ++ y)) else none := eqr rfl
@[simp] theorem binD_add_lst (x y : List D) : binD .add (.lst x) (.lst y) = if x.length + y.length ≤ big then some (.lst (x ++ y)) else none := eqr rfl
@[simp] theorem binD_add_tup (x y : List D) : binD .add (.tup x) (.tup y) = if x.length + y.length ≤ big then some (.tup (x ++ y)) else none := eqr rfl
@[simp] theorem binD_mul_int (i j : Int) : binD .mul (.int i) (.int j) = if mulOk i j then some (.int (i * j)) else none := eqr rfl
@[simp] theorem binD_mul_str (x : List Char) (j : Int) : binD .mul (.str x) (.int j) = if 0 ≤ j ∧ j < 1000 ∧ x.length ≤ 1000 then some (.str (rep j.toNat x)) else none := eqr rfl
@[simp] theorem binD_mul_lst (x : List D) (j : Int) : binD .mul (.lst x) (.int j) = if 0 ≤ j ∧ j < 1000 ∧ x.length ≤ 1000 then some (.lst (rep j.toNat x)) else none := eqr rfl
@[simp] theorem binD_fdiv_int (i j : Int) : binD .fdiv (.int i) (.int j) = if 0 < j ∧ j < 1073741824 then some (.int (i / j)) else none := eqr rfl
@[simp] theorem binD_mod_int (i j : Int) : binD .mod (.int i) (.int j) = if 0 < j then some (.int (i % j)) else none := eqr rfl
@[simp] theorem subD_lst (l : List D) (i : Int) : subD (.lst l) (.int i) = at_ l i := eqr rfl
@[simp] theorem subD_tup (l : List D) (i : Int) : subD (.tup l) (.int i) = at_ l i := eqr rfl
@[simp] theorem subD_scr (l : List D) (i : Int) : subD (.scr l) (.int i) = at_ l i := eqr rfl
@[simp] theorem subD_str (l : List Char) (i : Int) : subD (.str l) (.int i) = (at_ l i).map fun c => .str [c] := eqr rfl
@[simp] theorem negD_int (i : Int) : negD (.int i) = some (.int (-i)) := eqr rfl
@[simp] theorem revD_str (s : List Char) : revD (.str s) = some (.str s.reverse) := eqr rfl
@[simp] theorem revD_lst (s : List D) : revD (.lst s) = some (.lst s.reverse) := eqr rfl
@[simp] theorem slL_str (l : List Char) (i : Int) : sliceD (.str l) (some (.int i)) none = some (.str (cut l (some i) none)) := eqr rfl
@[simp] theorem slH_str (l : List Char) (i : Int) : sliceD (.str l) none (some (.int i)) = some (.str (cut l none (some i))) := eqr rfl
@[simp] theorem slLH_str (l : List Char) (i j : Int) : sliceD (.str l) (some (.int i)) (some (.int j)) = some (.str (cut l (some i) (some j))) := eqr rfl
@[simp] theorem len_str (l : List Char) : biD .len [.str l] = some (.int l.length) := eqr rfl
@[simp] theorem items_str (l : List Char) : items (.str l) = some (l.map fun c => .str [c]) := eqr rfl
@[simp] theorem kd_str (l : List Char) : kd (.str l) = .str := eqr rfl
@[simp] theorem itemsE_str (l : List Char) : itemsE (.str l) = some (l.map fun c => .str [c]) := eqr rfl
@[simp] theorem slL_lst (l : List D) (i : Int) : sliceD (.lst l) (some (.int i)) none = some (.lst (cut l (some i) none)) := eqr rfl
@[simp] theorem slH_lst (l : List D) (i : Int) : sliceD (.lst l) none (some (.int i)) = some (.lst (cut l none (some i))) := eqr rfl
@[simp] theorem slLH_lst (l : List D) (i j : Int) : sliceD (.lst l) (some (.int i)) (some (.int j)) = some (.lst (cut l (some i) (some j))) := eqr rfl
@[simp] theorem len_lst (l : List D) : biD .len [.lst l] = some (.int l.length) := eqr rfl
@[simp] theorem items_lst (l : List D) : items (.lst l) = some l := eqr rfl
@[simp] theorem kd_lst (l : List D) : kd (.lst l) = .lst := eqr rfl
@[simp] theorem itemsE_lst (l : List D) : itemsE (.lst l) = some l := eqr rfl
@[simp] theorem slL_tup (l : List D) (i : Int) : sliceD (.tup l) (some (.int i)) none = some (.tup (cut l (some i) none)) := eqr rfl
@[simp] theorem slH_tup (l : List D) (i : Int) : sliceD (.tup l) none (some (.int i)) = some (.tup (cut l none (some i))) := eqr rfl
@[simp] theorem slLH_tup (l : List D) (i j : Int) : sliceD (.tup l) (some (.int i)) (some (.int j)) = some (.tup (cut l (some i) (some j))) := eqr rfl
@[simp] theorem len_tup (l : List D) : biD .len [.tup l] = some (.int l.length) := eqr rfl
@[simp] theorem items_tup (l : List D) : items (.tup l) = some l := eqr rfl
@[simp] theorem kd_tup (l : List D) : kd (.tup l) = .tup := eqr rfl
@[simp] theorem slL_scr (l : List D) (i : Int) : sliceD (.scr l) (some (.int i)) none = some (.lst (cut l (some i) none)) := eqr rfl
@[simp] theorem slH_scr (l : List D) (i : Int) : sliceD (.scr l) none (some (.int i)) = some (.lst (cut l none (some i))) := eqr rfl
@[simp] theorem slLH_scr (l : List D) (i j : Int) : sliceD (.scr l) (some (.int i)) (some (.int j)) = some (.lst (cut l (some i) (some j))) := eqr rfl
@[simp] theorem len_scr (l : List D) : biD .len [.scr l] = some (.int l.length) := eqr rfl
@[simp] theorem items_scr (l : List D) : items (.scr l) = some l := eqr rfl
@[simp] theorem kd_scr (l : List D) : kd (.scr l) = .oth := eqr rfl
@[simp] theorem itemsE_scr (l : List D) : itemsE (.scr l) = some l := eqr rfl
@[simp] theorem biD_int (i : Int) : biD .int [.int i] = some (.int i) := eqr rfl
@[simp] theorem biD_intb (b : Bool) : biD .int [.bl b] = some (.int (if b then 1 else 0)) := eqr rfl
@[simp] theorem biD_abs (i : Int) : biD .abs [.int i] = some (.int (if i < 0 then -i else i)) := eqr rfl
@[simp] theorem biD_sum (l : List D) : biD .sum [.lst l] = (sumInts l).map .int := eqr rfl
@[simp] theorem biD_max2 (i j : Int) : biD .max2 [.int i, .int j] = some (.int (if j > i then j else i)) := eqr rfl
@[simp] theorem biD_min2 (i j : Int) : biD .min2 [.int i, .int j] = some (.int (if j < i then j else i)) := eqr rfl
@[simp] theorem biD_all (l : List D) : biD .all [.lst l] = (allBl l).map .bl := eqr rfl
@[simp] theorem biD_any (l : List D) : biD .any [.lst l] = (anyBl l).map .bl := eqr rfl
@[simp] theorem biD_tuple (l : List D) : biD .tuple [.lst l] = some (.tup l) := eqr rfl
@[simp] theorem biD_tupleT (l : List D) : biD .tuple [.tup l] = some (.tup l) := eqr rfl
@[simp] theorem biD_list (l : List D) : biD .list [.lst l] = some (.lst l) := eqr rfl
@[simp] theorem biD_listT (l : List D) : biD .list [.tup l] = some (.lst l) := eqr rfl
@[simp] theorem biD_listS (l : List Char) : biD .list [.str l] = some (.lst (l.map fun c => .str [c])) := eqr rfl
@[simp] theorem biD_divmod (i j : Int) : biD .divmod [.int i, .int j] = if 0 < j ∧ j < 1073741824 then some (.tup [.int (i / j), .int (i % j)]) else none := eqr rfl
@[simp] theorem meD_count (s : List Char) (c : Char) : meD .count (.str s) [.str [c]] = some (.int (s.count c)) := eqr rfl
@[simp] theorem meD_join (s : List Char) (l : List D) : meD .join (.str s) [.lst l] = joinD s l := eqr rfl
@[simp] theorem meD_index (s : List Char) (c : Char) : meD .index (.str s) [.str [c]] = (place (· == c) s).map fun (n : Nat) => .int n := eqr rfl
@[simp] theorem meD_upper (s : List Char) : meD .upper (.str s) [] = if s.length ≤ 1000 ∧ s.all (fun c => decide (c.toNat < 128)) = true then some (.str (s.map upC)) else none := eqr rfl
@[simp] theorem muD_append (l : List D) (x : D) : muD .append (.lst l) [x] = if l.length < big then some (.non, .lst (l ++ [x])) else none := eqr rfl
@[simp] theorem muD_extend (l k : List D) : muD .extend (.lst l) [.lst k] = if l.length + k.length ≤ big then some (.non, .lst (l ++ k)) else none := eqr rfl
@[simp] theorem muD_popAt (l : List D) (i : Int) : muD .popAt (.lst l) [.int i] = if 0 ≤ i ∧ i < 2 ^ 62 then (match l[i.toNat]? with | some x => some (x, .lst (l.eraseIdx i.toNat)) | none => none) else none := eqr rfl
@[simp] theorem muD_remove (l : List D) (x : D) : muD .remove (.lst l) [x] = if x.flat && l.all D.flat then (place (fun y => y.eqv x) l).map fun (n : Nat) => (.non, .lst (l.eraseIdx n)) else none := eqr rfl
@[simp] theorem setD_lst' (l : List D) (i : Int) (x : D) : setD (.lst l) (.int i) x = if 0 ≤ i ∧ i < 2 ^ 62 ∧ i.toNat < l.length then some (.lst (l.set i.toNat x)) else if i < 0 ∧ -(2 ^ 62) < i ∧ 0 ≤ i + l.length then some (.lst (l.set (i + l.length).toNat x)) else none := eqr rfl
@[simp] theorem rngD_1 (n : Int) : rngD [.int n] = if -16777216 ≤ n ∧ n ≤ 16777216 then some (upto n.toNat 0) else none := eqr rfl
@[simp] theorem rngD_2 (a b : Int) : rngD [.int a, .int b] = if -16777216 ≤ a ∧ a ≤ 16777216 ∧ -16777216 ≤ b ∧ b ≤ 16777216 ∧ b - a ≤ 16777216 then some (upto (b - a).toNat a) else none := eqr rfl
theorem mulOk_l {i : Int} (h1 : -18446744073709551616 < i) (h2 : i < 18446744073709551616) (j : Int) : mulOk i j = true := decide_eq_true (.inl ⟨h1, h2⟩)
theorem mulOk_r {j : Int} (h1 : -18446744073709551616 < j) (h2 : j < 18446744073709551616) (i : Int) : mulOk i j = true := decide_eq_true (.inr ⟨h1, h2⟩)
/-! loops -/
theorem for_nil (b : Sl → Mem → Res Flow) (t : Tg) : forLoop b t [] s M = .ok (.nx s) M := rfl
theorem for_cons (b : Sl → Mem → Res Flow) (t : Tg) (x : D) (xs : List D) : forLoop b t (x :: xs) s M = (match bindTg t x s with
    | some s1 => (b s1 M).bind fun f M2 => (match f with
      | .nx s2 => forLoop b t xs s2 M2
      | .cont s2 => forLoop b t xs s2 M2
      | .brk s2 => .ok (.nx s2) M2
      | .ret v => .ok (.ret v) M2)
    | none => .bad) := rfl
/-- a comprehension whose block leaves the store as it is -/
theorem comp_map {b : D → Mem → Res (Option D)} {h : D → D} : ∀ (xs : List D) (M : Mem), (∀ x ∈ xs, b x M = .ok (some (h x)) M) → compLoop b xs M = .ok (xs.map h) M
  | [], _, _ => rfl
  | x :: xs, M, hb => by
    unfold compLoop
    rw [hb x List.mem_cons_self, Res.bind_ok, comp_map xs M fun y hy => hb y (List.mem_cons_of_mem _ hy)]
    rfl
theorem comp_filterMap {b : D → Mem → Res (Option D)} {h : D → Option D} : ∀ (xs : List D) (M : Mem), (∀ x ∈ xs, b x M = .ok (h x) M) → compLoop b xs M = .ok (xs.filterMap h) M
  | [], _, _ => rfl
  | x :: xs, M, hb => by
    unfold compLoop
    rw [hb x List.mem_cons_self, Res.bind_ok, comp_filterMap xs M fun y hy => hb y (List.mem_cons_of_mem _ hy)]
    cases hh : h x <;> simp [List.filterMap_cons, hh]
/-- a comprehension whose block changes the store within what W says, and gives what R says of the item -/
theorem comp_inv {b : D → Mem → Res (Option D)} (W : Mem → Prop) (R : D → D → Prop) : ∀ (xs : List D) (M : Mem), W M → (∀ x ∈ xs, ∀ M, W M → ∃ y M', b x M = .ok (some y) M' ∧ W M' ∧ R x y) → ∃ ys M', compLoop b xs M = .ok ys M' ∧ W M' ∧ ys.length = xs.length ∧ ∀ p ∈ xs.zip ys, R p.1 p.2
  | [], M, hM, _ => ⟨[], M, rfl, hM, rfl, fun p hp => by cases hp⟩
  | x :: xs, M, hM, hb => by
    obtain ⟨y, M1, e1, w1, r1⟩ := hb x List.mem_cons_self M hM
    obtain ⟨ys, M2, e2, w2, l2, r2⟩ := comp_inv W R xs M1 w1 fun z hz => hb z (List.mem_cons_of_mem _ hz)
    refine ⟨y :: ys, M2, ?_, w2, by rw [List.length_cons, List.length_cons, l2], fun p hp => ?_⟩
    · unfold compLoop; rw [e1, Res.bind_ok, e2]; rfl
    · rcases List.mem_cons.mp hp with rfl | hp
      · exact r1
      · exact r2 p hp
theorem allBl_true : ∀ {l : List D}, (∀ x ∈ l, x = .bl true) → allBl l = some true
  | [], _ => rfl
  | x :: l, h => by
    rw [h x List.mem_cons_self]
    show (allBl l).map (true && ·) = some true
    rw [allBl_true fun y hy => h y (List.mem_cons_of_mem _ hy)]; rfl
/-- all([.. for ..]), each true -/
theorem comp_true {b : D → Mem → Res (Option D)} (W : Mem → Prop) (xs : List D) (M : Mem) (hM : W M) (hb : ∀ x ∈ xs, ∀ M, W M → ∃ M', b x M = .ok (some (.bl true)) M' ∧ W M') : ∃ ys M', compLoop b xs M = .ok ys M' ∧ W M' ∧ allBl ys = some true := by
  obtain ⟨ys, M', e, w, l, r⟩ := comp_inv W (fun _ y => y = .bl true) xs M hM fun x hx M hM => by
    obtain ⟨M', e, w⟩ := hb x hx M hM
    exact ⟨_, M', e, w, rfl⟩
  refine ⟨ys, M', e, w, allBl_true fun y hy => ?_⟩
  obtain ⟨i, hi, rfl⟩ := List.getElem_of_mem hy
  have hx : i < xs.length := by omega
  have := r (xs[i], ys[i]) (by rw [List.mem_iff_getElem]; exact ⟨i, by simp; omega, by simp⟩)
  exact this
theorem allBl_map {α : Type} (p : α → Bool) : ∀ l : List α, allBl (l.map fun x => D.bl (p x)) = some (l.all p)
  | [] => rfl
  | x :: l => by
    show (allBl (l.map fun x => D.bl (p x))).map (p x && ·) = some (p x && l.all p)
    rw [allBl_map p l]; rfl
/-- a loop with what holds behind each turn -/
theorem for_inv {b : Sl → Mem → Res Flow} {t : Tg} (J : List D → Sl → Mem → Prop) : ∀ (xs : List D) (s : Sl) (M : Mem), J xs s M →
    (∀ x xs s M, J (x :: xs) s M → ∃ s1 s2 M2, bindTg t x s = some s1 ∧ (b s1 M = .ok (.nx s2) M2 ∨ b s1 M = .ok (.cont s2) M2) ∧ J xs s2 M2) → ∃ s' M', forLoop b t xs s M = .ok (.nx s') M' ∧ J [] s' M'
  | [], s, M, h, _ => ⟨s, M, rfl, h⟩
  | x :: xs, s, M, h, hb => by
    obtain ⟨s1, s2, M2, e1, e2, j2⟩ := hb x xs s M h
    obtain ⟨s', M', e3, j3⟩ := for_inv J xs s2 M2 j2 hb
    refine ⟨s', M', ?_, j3⟩
    rw [for_cons, e1]
    rcases e2 with e2 | e2 <;> (simp only [e2, Res.bind_ok]; exact e3)
/-- a while that ends: k falls -/
theorem while_inv {c : Sl → Mem → Res Bool} {b : Sl → Mem → Res Flow} (J : Nat → Sl → Mem → Prop) (Post : Sl → Mem → Prop)
    (step : ∀ k s M, J k s M → (c s M = .ok false M ∧ Post s M) ∨ (c s M = .ok true M ∧ ∃ s2 M2 k', b s M = .ok (.nx s2) M2 ∧ k' < k ∧ J k' s2 M2)) :
    ∀ (fuel k : Nat) (s : Sl) (M : Mem), k < fuel → J k s M → ∃ s' M', whileLoop c b fuel s M = .ok (.nx s') M' ∧ Post s' M'
  | 0, k, _, _, hk, _ => absurd hk (Nat.not_lt_zero _)
  | fuel + 1, k, s, M, hk, hj => by
    rcases step k s M hj with ⟨e, p⟩ | ⟨e, s2, M2, k', e2, hk', j'⟩
    · exact ⟨s, M, by unfold whileLoop; rw [e]; rfl, p⟩
    · obtain ⟨s', M', e3, p⟩ := while_inv J Post step fuel k' s2 M2 (by omega) j'
      exact ⟨s', M', by unfold whileLoop; rw [e, Res.bind_ok, if_pos rfl, e2]; exact e3, p⟩
/-! slices -/
theorem cut_take {α : Type} (l : List α) {k : Int} (h : 0 ≤ k) : cut l none (some k) = l.take k.toNat := by
  show (l.drop 0).take (bound l.length k - 0) = _
  unfold bound
  rw [if_pos h, List.drop_zero, Nat.sub_zero]
  by_cases hk : k.toNat ≤ l.length
  · rw [Nat.min_eq_left hk]
  · rw [Nat.min_eq_right (by omega), List.take_length, List.take_of_length_le (by omega)]
theorem cut_drop {α : Type} (l : List α) {k : Int} (h : 0 ≤ k) : cut l (some k) none = l.drop k.toNat := by
  show (l.drop (bound l.length k)).take (l.length - bound l.length k) = _
  unfold bound
  rw [if_pos h]
  by_cases hk : k.toNat ≤ l.length
  · rw [Nat.min_eq_left hk, List.take_of_length_le (by rw [List.length_drop]; exact Nat.le_refl _)]
  · rw [Nat.min_eq_right (by omega), List.drop_length, List.drop_of_length_le (by omega)]; simp
theorem cut_mid {α : Type} (l : List α) {a b : Int} (h : 0 ≤ a) (h2 : 0 ≤ b) : cut l (some a) (some b) = (l.drop a.toNat).take (b.toNat - a.toNat) := by
  show (l.drop (bound l.length a)).take (bound l.length b - bound l.length a) = _
  unfold bound
  rw [if_pos h, if_pos h2]
  by_cases ha : a.toNat ≤ l.length
  · rw [Nat.min_eq_left ha]
    by_cases hb : b.toNat ≤ l.length
    · rw [Nat.min_eq_left hb]
    · rw [Nat.min_eq_right (by omega), List.take_of_length_le (by rw [List.length_drop]; exact Nat.le_refl _), List.take_of_length_le (by rw [List.length_drop]; omega)]
  · have e : min a.toNat l.length = l.length := Nat.min_eq_right (by omega)
    rw [e, List.drop_length, List.drop_of_length_le (show l.length ≤ a.toNat by omega)]; simp
theorem cut_map {α β : Type} (f : α → β) (l : List α) (a b : Option Int) : cut (l.map f) a b = (cut l a b).map f := by
  rw [cut_eq, cut_eq, List.length_map, List.map_take, List.map_drop]
theorem sumInts_map : ∀ l : List Int, sumInts (l.map D.int) = some l.sum
  | [] => rfl
  | x :: l => by
    show (sumInts (l.map D.int)).map (x + ·) = _
    rw [sumInts_map l]; simp
@[simp] theorem binD_pow_int (i j : Int) : binD .pow (.int i) (.int j) = if 0 ≤ j ∧ j ≤ 1000000 ∧ i.natAbs < 2 ^ 64 then some (.int (i ^ j.toNat)) else none := eqr rfl
theorem at_nat {α : Type} (l : List α) {i : Int} (h : 0 ≤ i) : at_ l i = l[i.toNat]? := by unfold at_; rw [if_pos h]
theorem at_of {α : Type} (l : List α) (n : Nat) : at_ l (n : Int) = l[n]? := by rw [at_nat _ (by omega)]; rfl
theorem upto_map (n : Nat) (i : Int) : upto n i = (List.range n).map fun k => D.int (i + (k : Nat)) := by
  refine List.ext_getElem? fun k => ?_
  by_cases h : k < n
  · rw [upto_get n i k h, List.getElem?_map, List.getElem?_range h]; rfl
  · rw [List.getElem?_eq_none (by rw [upto_length]; omega), List.getElem?_eq_none (by simp; omega)]
/-! the store: one object changed -/
theorem set_get {M : Mem} {n : Nat} {o : MO} (h : M[n]? = some o) (x : MO) : (M.set n x)[n]? = some x := List.getElem?_set_self (List.getElem?_eq_some_iff.mp h).1
theorem set_take {M : Mem} {n : Nat} (x : MO) : (M.set n x).take M.length = M.set n x := List.take_of_length_le (by rw [List.length_set]; exact Nat.le_refl _)
theorem view_big {M : Mem} {l : List D} : view M (.d (.lst l)) = some (.lst l) := rfl

/-! ### what a result is to be -/
def Ev0 {α : Type} (r : Res α) (P : α → Mem → Prop) : Prop := match r with
  | .ok a M => P a M
  | .bad => False
/-- sealed, so that the kernel does not run the program on -/
structure Ev {α : Type} (r : Res α) (P : α → Mem → Prop) : Prop where
  out : Ev0 r P
section
variable {α β : Type} {P Q : α → Mem → Prop} {r : Res α}
@[simp] theorem Ev_ok (a : α) (M : Mem) (P : α → Mem → Prop) : Ev (.ok a M) P = P a M := propext ⟨fun h => h.out, fun h => ⟨h⟩⟩
@[simp] theorem Ev_bad (P : α → Mem → Prop) : Ev (.bad : Res α) P = False := propext ⟨fun h => h.out, fun h => h.elim⟩
theorem Ev_bind (r : Res α) (f : α → Mem → Res β) (P : β → Mem → Prop) : Ev (r.bind f) P = Ev r fun a M => Ev (f a M) P := by
  cases r with
  | bad => rw [Ev_bad]; exact Ev_bad P
  | ok a M => rw [Ev_ok]; rfl
theorem Ev_of (o : Option α) (M : Mem) (P : α → Mem → Prop) : Ev (Res.of o M) P = (match o with | some a => P a M | none => False) := by
  cases o with
  | none => exact Ev_bad P
  | some a => exact Ev_ok a M P
theorem Ev_toB (r : Res Val) (P : Bool → Mem → Prop) : Ev (toB r) P = Ev r fun v M => (match v with | .d (.bl b) => P b M | _ => False) := by
  unfold toB
  rw [Ev_bind]
  cases r with
  | bad => rw [Ev_bad, Ev_bad]
  | ok v M => 
    rw [Ev_ok, Ev_ok]
    cases v with
    | ref n => exact Ev_bad P
    | d x => cases x <;> first | exact Ev_bad P | exact Ev_ok _ _ P
theorem Ev.imp (h : Ev r P) (i : ∀ a M, P a M → Q a M) : Ev r Q := by
  cases r with
  | ok a M => exact ⟨i a M h.out⟩
  | bad => exact h.out.elim
theorem Ev.mid (Q : α → Mem → Prop) (h : Ev r Q) (i : ∀ a M, Q a M → P a M) : Ev r P := h.imp i
theorem Ev.ex (h : Ev r P) : ∃ a M, r = .ok a M ∧ P a M := by
  cases r with
  | ok a M => exact ⟨a, M, rfl, h.out⟩
  | bad => exact h.out.elim
theorem Ev.eq {a : α} {M : Mem} (h : Ev r fun b M' => b = a ∧ M' = M) : r = .ok a M := by
  obtain ⟨b, M', rfl, rfl, rfl⟩ := h.ex; rfl
theorem Ev.of_eq {a : α} {M : Mem} (h : r = .ok a M) (p : P a M) : Ev r P := by rw [h]; exact ⟨p⟩
theorem Ev.ite {c : Prop} [Decidable c] {r1 r2 : Res α} (h1 : c → Ev r1 P) (h2 : ¬ c → Ev r2 P) : Ev (if c then r1 else r2) P := by
  split
  · exact h1 ‹_›
  · exact h2 ‹_›
theorem Ev.for {b : Sl → Mem → Res Flow} {t : Tg} {P : Flow → Mem → Prop} (J : List D → Sl → Mem → Prop) (xs : List D) (s : Sl) (M : Mem) (h0 : J xs s M)
    (hb : ∀ x xs s M, J (x :: xs) s M → ∃ s1, bindTg t x s = some s1 ∧ Ev (b s1 M) fun f M2 => (match f with | .nx s2 => J xs s2 M2 | .cont s2 => J xs s2 M2 | .brk s2 => P (.nx s2) M2 | .ret v => P (.ret v) M2))
    (hP : ∀ s' M', J [] s' M' → P (.nx s') M') : Ev (forLoop b t xs s M) P := by
  induction xs generalizing s M with
  | nil => exact ⟨hP s M h0⟩
  | cons x xs ih =>
    obtain ⟨s1, e1, h1⟩ := hb x xs s M h0
    rw [for_cons, e1]
    simp only [Ev_bind]
    refine h1.imp fun f M2 hf => ?_
    cases f with
    | nx s2 => exact ih s2 M2 hf
    | cont s2 => exact ih s2 M2 hf
    | brk s2 => exact ⟨hf⟩
    | ret v => exact ⟨hf⟩
theorem Ev.while {c : Sl → Mem → Res Bool} {b : Sl → Mem → Res Flow} {P : Flow → Mem → Prop} (J : Nat → Sl → Mem → Prop)
    (step : ∀ k s M, J k s M → Ev (c s M) fun t M1 => if t then Ev (b s M1) fun f M2 => (match f with | .nx s2 => ∃ k', k' < k ∧ J k' s2 M2 | .cont s2 => ∃ k', k' < k ∧ J k' s2 M2 | .brk s2 => P (.nx s2) M2 | .ret v => P (.ret v) M2) else P (.nx s) M1) :
    ∀ (fuel k : Nat) (s : Sl) (M : Mem), k < fuel → J k s M → Ev (whileLoop c b fuel s M) P
  | 0, k, _, _, hk, _ => absurd hk (Nat.not_lt_zero _)
  | fuel + 1, k, s, M, hk, hj => by
    unfold whileLoop
    rw [Ev_bind]
    refine (step k s M hj).imp fun t M1 h => ?_
    cases t with
    | false => exact ⟨h⟩
    | true =>
      rw [if_pos rfl] at h ⊢
      rw [Ev_bind]
      refine h.imp fun f M2 hf => ?_
      cases f with
      | nx s2 => obtain ⟨k', h1, h2⟩ := hf; exact Ev.while J step fuel k' s2 M2 (by omega) h2
      | cont s2 => obtain ⟨k', h1, h2⟩ := hf; exact Ev.while J step fuel k' s2 M2 (by omega) h2
      | brk s2 => exact ⟨hf⟩
      | ret v => exact ⟨hf⟩
theorem Ev.comp {b : D → Mem → Res (Option D)} {P : List D → Mem → Prop} (J : List D → List D → Mem → Prop) : ∀ (xs ys : List D) (M : Mem), J xs ys M →
    (∀ x xs ys M, J (x :: xs) ys M → Ev (b x M) fun o M2 => (match o with | some y => J xs (ys ++ [y]) M2 | none => J xs ys M2)) →
    (∀ ys M', J [] ys M' → P ys M') → Ev (compLoop b xs M) fun zs M' => P (ys ++ zs) M'
  | [], ys, M, h, _, hP => by refine ⟨?_⟩; show P (ys ++ []) M; rw [List.append_nil]; exact hP ys M h
  | x :: xs, ys, M, h, hb, hP => by
    unfold compLoop
    rw [Ev_bind]
    refine (hb x xs ys M h).imp fun o M2 ho => ?_
    rw [Ev_bind]
    cases o with
    | none => exact (Ev.comp J xs ys M2 ho hb hP).imp fun zs M3 h3 => ⟨h3⟩
    | some y => exact (Ev.comp J xs (ys ++ [y]) M2 ho hb hP).imp fun zs M3 h3 => (by
        rw [List.append_assoc] at h3
        exact ⟨h3⟩ : Ev (Res.ok (y :: zs) M3) fun zs M' => P (ys ++ zs) M')
/-- each block gives true, within what W says of the store -/
theorem Ev.compTrue {b : D → Mem → Res (Option D)} {P : List D → Mem → Prop} (W : Mem → Prop) (xs : List D) (M : Mem) (hM : W M) (hb : ∀ x ∈ xs, ∀ M, W M → Ev (b x M) fun o M2 => o = some (.bl true) ∧ W M2)
    (hP : ∀ ys M', allBl ys = some true → W M' → P ys M') : Ev (compLoop b xs M) P := by
  obtain ⟨ys, M', e, w, h⟩ := comp_true (b := b) W xs M hM fun x hx M hM => by
    obtain ⟨o, M2, e, rfl, w⟩ := (hb x hx M hM).ex
    exact ⟨M2, e, w⟩
  rw [e]; exact ⟨hP ys M' h w⟩
/-- the block leaves the store -/
theorem Ev.compMap {b : D → Mem → Res (Option D)} {P : List D → Mem → Prop} (h : D → D) (xs : List D) (M : Mem) (hb : ∀ x ∈ xs, Ev (b x M) fun o M2 => o = some (h x) ∧ M2 = M) (hP : P (xs.map h) M) : Ev (compLoop b xs M) P := by
  rw [comp_map xs M fun x hx => (hb x hx).eq]; exact ⟨hP⟩
theorem Ev.compFilter {b : D → Mem → Res (Option D)} {P : List D → Mem → Prop} (h : D → Option D) (xs : List D) (M : Mem) (hb : ∀ x ∈ xs, Ev (b x M) fun o M2 => o = h x ∧ M2 = M) (hP : P (xs.filterMap h) M) : Ev (compLoop b xs M) P := by
  rw [comp_filterMap xs M fun x hx => (hb x hx).eq]; exact ⟨hP⟩
end
theorem evBlk_ap (own : List Nat) (t : Tg) (fifs : Sl → Mem → Res Bool) (s : Sl) (x : D) (M : Mem) : evBlk own t fifs fa s x M = (match bindTg t x (wipeS s own) with
  | some s' => (fifs s' M).bind fun b M2 => if b then (fa s' M2).bind fun v M3 => (match v with | .d y => .ok (some y) M3 | _ => .bad) else .ok none M2
  | none => .bad) := rfl
@[simp] theorem hb_top (o : List D) (M : Mem) : handBack true M.length (.ret (.ref M.length)) (M ++ [.lst o]) = .ok (.d (.lst o)) M := by
  rw [hb_ref _ _ (Nat.le_refl _)]; simp

/-! ### step by step: what follows stands as a constant, so that nothing is computed ahead of its time -/
section
variable {fa fb fc : Sl → Mem → Res Val} {fl fk : Sl → Mem → Res (List Val)} {fd : Sl → Mem → Res (List D)} {fT : Sl → Mem → Res Bool} {fI : Sl → Mem → Res (List D)} {f g : Sl → Mem → Res Flow} {s : Sl} {M : Mem}
abbrev KV := Val → Mem → Prop
abbrev KF := Flow → Mem → Prop
@[simp] theorem Ev_vC (x : D) (P : KV) : Ev (vC x s M) P = P (.d x) M := Ev_ok _ _ _
@[simp] theorem Ev_vV (i : Nat) (P : KV) : Ev (vV i s M) P = (match s[i]? with | some (some v) => P v M | _ => False) := by
  show Ev (match s[i]? with | some (some v) => Res.ok v M | _ => .bad) P = _
  split
  · exact Ev_ok _ _ _
  · exact Ev_bad _
def kB (P : Bool → Mem → Prop) : KV := fun v M => match v with | .d (.bl b) => P b M | _ => False
@[simp] theorem kB_ap (P : Bool → Mem → Prop) (b : Bool) : kB P (.d (.bl b)) M = P b M := eqr rfl
@[simp] theorem Ev_tst (P : Bool → Mem → Prop) : Ev (tst fa s M) P = Ev (fa s M) (kB P) := Ev_toB _ _
def kNot (P : KV) : Bool → Mem → Prop := fun b M => P (.d (.bl (!b))) M
@[simp] theorem kNot_ap (P : KV) (b : Bool) : kNot P b M = P (.d (.bl (!b))) M := eqr rfl
@[simp] theorem Ev_not (P : KV) : Ev (evNot fa s M) P = Ev (fa s M) (kB (kNot P)) := by
  show Ev ((toB _).bind _) P = _
  rw [Ev_bind, Ev_toB]
  refine congrArg (Ev _) (funext fun v => funext fun M1 => ?_)
  cases v with
  | ref n => rfl
  | d x => cases x <;> first | exact Ev_ok _ _ P | rfl
def kAnd (fb : Sl → Mem → Res Val) (s : Sl) (P : KV) : Bool → Mem → Prop := fun b M => if b then Ev (fb s M) P else P (.d (.bl false)) M
@[simp] theorem kAnd_ap (P : KV) (b : Bool) : kAnd fb s P b M = if b then Ev (fb s M) P else P (.d (.bl false)) M := eqr rfl
theorem Ev_if {α : Type} {b : Bool} {r1 r2 : Res α} {P : α → Mem → Prop} : Ev (if b then r1 else r2) P = if b then Ev r1 P else Ev r2 P := by cases b <;> rfl
@[simp] theorem Ev_and (P : KV) : Ev (evAnd fa fb s M) P = Ev (fa s M) (kB (kAnd fb s P)) := by
  show Ev ((toB _).bind _) P = _
  rw [Ev_bind, ← Ev_tst]
  refine congrArg (Ev _) (funext fun b => funext fun M1 => ?_)
  rw [Ev_if]
  cases b
  · first | exact Ev_ok _ _ _ | rfl
  · first | exact Ev_ok _ _ _ | rfl
def kOr (fb : Sl → Mem → Res Val) (s : Sl) (P : KV) : Bool → Mem → Prop := fun b M => if b then P (.d (.bl true)) M else Ev (fb s M) P
@[simp] theorem kOr_ap (P : KV) (b : Bool) : kOr fb s P b M = if b then P (.d (.bl true)) M else Ev (fb s M) P := eqr rfl
@[simp] theorem Ev_or (P : KV) : Ev (evOr fa fb s M) P = Ev (fa s M) (kB (kOr fb s P)) := by
  show Ev ((toB _).bind _) P = _
  rw [Ev_bind, ← Ev_tst]
  refine congrArg (Ev _) (funext fun b => funext fun M1 => ?_)
  rw [Ev_if]
  cases b
  · first | exact Ev_ok _ _ _ | rfl
  · first | exact Ev_ok _ _ _ | rfl
def kIf (fa fb : Sl → Mem → Res Val) (s : Sl) (P : KV) : Bool → Mem → Prop := fun b M => if b then Ev (fa s M) P else Ev (fb s M) P
@[simp] theorem kIf_ap (P : KV) (b : Bool) : kIf fa fb s P b M = if b then Ev (fa s M) P else Ev (fb s M) P := eqr rfl
@[simp] theorem Ev_ifx (P : KV) : Ev (evIf fT fa fb s M) P = Ev (fT s M) (kIf fa fb s P) := by
  show Ev ((fT s M).bind _) P = _
  rw [Ev_bind]
  refine congrArg (Ev _) (funext fun b => funext fun M1 => ?_)
  rw [Ev_if]
  cases b
  · first | exact Ev_ok _ _ _ | rfl
  · first | exact Ev_ok _ _ _ | rfl
@[simp] theorem Ev_nil (P : List Val → Mem → Prop) : Ev (evNil s M) P = P [] M := Ev_ok _ _ _
@[simp] theorem Ev_dnil (P : List D → Mem → Prop) : Ev (evDNil s M) P = P [] M := Ev_ok _ _ _
def kCons2 (v : Val) (P : List Val → Mem → Prop) : List Val → Mem → Prop := fun vs M => P (v :: vs) M
@[simp] theorem kCons2_ap (v : Val) (P : List Val → Mem → Prop) (vs : List Val) : kCons2 v P vs M = P (v :: vs) M := eqr rfl
def kCons (fl : Sl → Mem → Res (List Val)) (s : Sl) (P : List Val → Mem → Prop) : KV := fun v M => Ev (fl s M) (kCons2 v P)
@[simp] theorem kCons_ap (v : Val) (P : List Val → Mem → Prop) : kCons fl s P v M = Ev (fl s M) (kCons2 v P) := eqr rfl
@[simp] theorem Ev_cons (P : List Val → Mem → Prop) : Ev (evCons fa fl s M) P = Ev (fa s M) (kCons fl s P) := by
  rw [evCons_ap, Ev_bind]
  refine congrArg (Ev _) (funext fun v => funext fun M1 => ?_)
  rw [Ev_bind]; (first | exact Ev_bad _ | exact Ev_ok _ _ _ | exact congrArg (Ev _) (funext fun _ => funext fun _ => Ev_ok _ _ _) | rfl)
def kConsD2 (x : D) (P : List D → Mem → Prop) : List D → Mem → Prop := fun vs M => P (x :: vs) M
@[simp] theorem kConsD2_ap (v : D) (P : List D → Mem → Prop) (vs : List D) : kConsD2 v P vs M = P (v :: vs) M := eqr rfl
def kConsD (fd : Sl → Mem → Res (List D)) (s : Sl) (P : List D → Mem → Prop) : KV := fun v M => match v with | .d x => Ev (fd s M) (kConsD2 x P) | _ => False
@[simp] theorem kConsD_ap (x : D) (P : List D → Mem → Prop) : kConsD fd s P (.d x) M = Ev (fd s M) (kConsD2 x P) := eqr rfl
@[simp] theorem Ev_dcons (P : List D → Mem → Prop) : Ev (evConsD fa fd s M) P = Ev (fa s M) (kConsD fd s P) := by
  rw [evConsD_ap, Ev_bind]
  refine congrArg (Ev _) (funext fun v => funext fun M1 => ?_)
  cases v with
  | ref n => first | exact Ev_bad _ | exact Ev_ok _ _ _ | exact congrArg (Ev _) (funext fun _ => funext fun _ => Ev_ok _ _ _) | rfl
  | d x => show Ev (Res.bind _ _) P = _; rw [Ev_bind]; (first | exact Ev_bad _ | exact Ev_ok _ _ _ | exact congrArg (Ev _) (funext fun _ => funext fun _ => Ev_ok _ _ _) | rfl)
def kTup (P : KV) : List D → Mem → Prop := fun xs M => xs.length ≤ big ∧ P (.d (.tup xs)) M
@[simp] theorem kTup_ap (P : KV) (xs : List D) : kTup P xs M = (xs.length ≤ big ∧ P (.d (.tup xs)) M) := eqr rfl
theorem Ev_guard {α : Type} {c : Prop} [Decidable c] {a : α} {P : α → Mem → Prop} : Ev (if c then Res.ok a M else .bad) P = (c ∧ P a M) := by
  by_cases h : c <;> simp [h]
@[simp] theorem Ev_tup (P : KV) : Ev (evTup fd s M) P = Ev (fd s M) (kTup P) := by
  rw [evTup_ap, Ev_bind]
  exact congrArg (Ev _) (funext fun v => funext fun M1 => Ev_guard)
def kLst (P : KV) : List D → Mem → Prop := fun xs M => xs.length ≤ big ∧ P (.d (.lst xs)) M
@[simp] theorem kLst_ap (P : KV) (xs : List D) : kLst P xs M = (xs.length ≤ big ∧ P (.d (.lst xs)) M) := eqr rfl
@[simp] theorem Ev_lst (P : KV) : Ev (evLst fd s M) P = Ev (fd s M) (kLst P) := by
  rw [evLst_ap, Ev_bind]
  exact congrArg (Ev _) (funext fun v => funext fun M1 => Ev_guard)
def kNew (P : KV) : KV := fun v M => match v with | .d (.lst l) => P (.ref M.length) (M ++ [.lst l]) | _ => False
@[simp] theorem kNew_lst (P : KV) (l : List D) : kNew P (.d (.lst l)) M = P (.ref M.length) (M ++ [.lst l]) := eqr rfl
@[simp] theorem Ev_new (P : KV) : Ev (newOf fa s M) P = Ev (fa s M) (kNew P) := by
  rw [newOf_ap, Ev_bind]
  refine congrArg (Ev _) (funext fun v => funext fun M1 => ?_)
  cases v with
  | ref n => first | exact Ev_bad _ | exact Ev_ok _ _ _ | exact congrArg (Ev _) (funext fun _ => funext fun _ => Ev_ok _ _ _) | rfl
  | d x => cases x <;> (first | exact Ev_bad _ | exact Ev_ok _ _ _ | exact congrArg (Ev _) (funext fun _ => funext fun _ => Ev_ok _ _ _) | rfl)
/-- an answer that must be there -/
def kO (P : KV) (M : Mem) : Option D → Prop := fun o => match o with | some d => P (.d d) M | none => False
@[simp] theorem kO_some (P : KV) (d : D) : kO P M (some d) = P (.d d) M := eqr rfl
@[simp] theorem kO_none (P : KV) : kO P M none = False := eqr rfl
@[simp] theorem kO_ite (P : KV) {c : Prop} [Decidable c] (o : Option D) : kO P M (if c then o else none) = (c ∧ kO P M o) := by by_cases h : c <;> simp [h]
theorem Ev_ofmap (o : Option D) (P : KV) : Ev (Res.of (o.map Val.d) M) P = kO P M o := by cases o <;> (first | exact Ev_bad _ | exact Ev_ok _ _ _ | exact congrArg (Ev _) (funext fun _ => funext fun _ => Ev_ok _ _ _) | rfl)
def k22 (p : D → D → Option D) (v : Val) (P : KV) : KV := fun w M => match view M v, view M w with | some x, some y => kO P M (p x y) | _, _ => False
@[simp] theorem k22_ap (p : D → D → Option D) (v w : Val) (P : KV) : k22 p v P w M = (match view M v, view M w with | some x, some y => kO P M (p x y) | _, _ => False) := eqr rfl
def k21 (p : D → D → Option D) (fb : Sl → Mem → Res Val) (s : Sl) (P : KV) : KV := fun v M => Ev (fb s M) (k22 p v P)
@[simp] theorem k21_ap (p : D → D → Option D) (v : Val) (P : KV) : k21 p fb s P v M = Ev (fb s M) (k22 p v P) := eqr rfl
@[simp] theorem Ev_2 (p : D → D → Option D) (P : KV) : Ev (ev2 p fa fb s M) P = Ev (fa s M) (k21 p fb s P) := by
  rw [ev2_ap, Ev_bind]
  refine congrArg (Ev _) (funext fun v => funext fun M1 => ?_)
  rw [Ev_bind]
  refine congrArg (Ev _) (funext fun w => funext fun M2 => ?_)
  unfold k22
  cases view M2 v <;> cases view M2 w <;> first | exact Ev_bad _ | exact Ev_ofmap _ _
def k1 (p : D → Option D) (P : KV) : KV := fun v M => match view M v with | some x => kO P M (p x) | none => False
@[simp] theorem k1_ap (p : D → Option D) (v : Val) (P : KV) : k1 p P v M = (match view M v with | some x => kO P M (p x) | none => False) := eqr rfl
@[simp] theorem Ev_1 (p : D → Option D) (P : KV) : Ev (ev1 p fa s M) P = Ev (fa s M) (k1 p P) := by
  rw [ev1_ap, Ev_bind]
  refine congrArg (Ev _) (funext fun v => funext fun M1 => ?_)
  unfold k1
  cases view M1 v <;> first | exact Ev_bad _ | exact Ev_ofmap _ _
def k32 (p q : D → D → Option D) (fc : Sl → Mem → Res Val) (s : Sl) (v : Val) (P : KV) : KV := fun w M => match view M v, view M w with
  | some x, some y => (match p x y with
    | some (.bl true) => Ev (fc s M) (k22 q w P)
    | some (.bl false) => P (.d (.bl false)) M
    | _ => False)
  | _, _ => False
@[simp] theorem k32_ap (p q : D → D → Option D) (v w : Val) (P : KV) : k32 p q fc s v P w M = (match view M v, view M w with
  | some x, some y => (match p x y with
    | some (.bl true) => Ev (fc s M) (k22 q w P)
    | some (.bl false) => P (.d (.bl false)) M
    | _ => False)
  | _, _ => False) := eqr rfl
def k31 (p q : D → D → Option D) (fb fc : Sl → Mem → Res Val) (s : Sl) (P : KV) : KV := fun v M => Ev (fb s M) (k32 p q fc s v P)
@[simp] theorem k31_ap (p q : D → D → Option D) (v : Val) (P : KV) : k31 p q fb fc s P v M = Ev (fb s M) (k32 p q fc s v P) := eqr rfl
@[simp] theorem Ev_3 (p q : D → D → Option D) (P : KV) : Ev (ev3 p q fa fb fc s M) P = Ev (fa s M) (k31 p q fb fc s P) := by
  rw [ev3_ap, Ev_bind]
  refine congrArg (Ev _) (funext fun v => funext fun M1 => ?_)
  rw [Ev_bind]
  refine congrArg (Ev _) (funext fun w => funext fun M2 => ?_)
  unfold k32
  cases view M2 v with
  | none => first | exact Ev_bad _ | exact Ev_ok _ _ _ | exact congrArg (Ev _) (funext fun _ => funext fun _ => Ev_ok _ _ _) | rfl
  | some x =>
    cases view M2 w with
    | none => first | exact Ev_bad _ | exact Ev_ok _ _ _ | exact congrArg (Ev _) (funext fun _ => funext fun _ => Ev_ok _ _ _) | rfl
    | some y =>
      cases h : p x y with
      | none => simp only [h]; (first | exact Ev_bad _ | exact Ev_ok _ _ _ | exact congrArg (Ev _) (funext fun _ => funext fun _ => Ev_ok _ _ _) | rfl)
      | some d =>
        cases d with
        | bl b =>
          cases b with
          | false => simp only [h]; (first | exact Ev_bad _ | exact Ev_ok _ _ _ | exact congrArg (Ev _) (funext fun _ => funext fun _ => Ev_ok _ _ _) | rfl)
          | true =>
            simp only [h]
            rw [Ev_bind]
            refine congrArg (Ev _) (funext fun u => funext fun M3 => ?_)
            unfold k22
            cases view M3 w <;> cases view M3 u <;> first | exact Ev_bad _ | exact Ev_ofmap _ _
        | _ => simp only [h]; (first | exact Ev_bad _ | exact Ev_ok _ _ _ | exact congrArg (Ev _) (funext fun _ => funext fun _ => Ev_ok _ _ _) | rfl)
def kBi (p : List D → Option D) (P : KV) : List Val → Mem → Prop := fun vs M => match views M vs with | some xs => kO P M (p xs) | none => False
@[simp] theorem kBi_ap (p : List D → Option D) (P : KV) (vs : List Val) : kBi p P vs M = (match views M vs with | some xs => kO P M (p xs) | none => False) := eqr rfl
@[simp] theorem Ev_B (p : List D → Option D) (P : KV) : Ev (evB p fl s M) P = Ev (fl s M) (kBi p P) := by
  rw [evB_ap, Ev_bind]
  refine congrArg (Ev _) (funext fun v => funext fun M1 => ?_)
  unfold kBi
  cases views M1 v <;> first | exact Ev_bad _ | exact Ev_ofmap _ _
def kM2 (p : D → List D → Option D) (x1 : D) (v : Val) (P : KV) : List Val → Mem → Prop := fun vs M => match view M v, views M vs with | some x, some xs => kd x1 = kd x ∧ kO P M (p x xs) | _, _ => False
@[simp] theorem kM2_ap (p : D → List D → Option D) (x1 : D) (v : Val) (P : KV) (vs : List Val) : kM2 p x1 v P vs M = (match view M v, views M vs with | some x, some xs => kd x1 = kd x ∧ kO P M (p x xs) | _, _ => False) := eqr rfl
def kM1 (p : D → List D → Option D) (fl : Sl → Mem → Res (List Val)) (s : Sl) (P : KV) : KV := fun v M => match view M v with | some x1 => Ev (fl s M) (kM2 p x1 v P) | none => False
@[simp] theorem kM1_ap (p : D → List D → Option D) (v : Val) (P : KV) : kM1 p fl s P v M = (match view M v with | some x1 => Ev (fl s M) (kM2 p x1 v P) | none => False) := eqr rfl
@[simp] theorem Ev_M (p : D → List D → Option D) (P : KV) : Ev (evM p fa fl s M) P = Ev (fa s M) (kM1 p fl s P) := by
  rw [evM_ap, Ev_bind]
  refine congrArg (Ev _) (funext fun v => funext fun M1 => ?_)
  unfold kM1
  cases view M1 v with
  | none => first | exact Ev_bad _ | exact Ev_ok _ _ _ | exact congrArg (Ev _) (funext fun _ => funext fun _ => Ev_ok _ _ _) | rfl
  | some x1 =>
    show Ev (Res.bind _ _) P = Ev _ _
    rw [Ev_bind]
    refine congrArg (Ev _) (funext fun w => funext fun M2 => ?_)
    unfold kM2
    cases view M2 v with
    | none => first | exact Ev_bad _ | exact Ev_ok _ _ _ | exact congrArg (Ev _) (funext fun _ => funext fun _ => Ev_ok _ _ _) | rfl
    | some x =>
      cases views M2 w with
      | none => first | exact Ev_bad _ | exact Ev_ok _ _ _ | exact congrArg (Ev _) (funext fun _ => funext fun _ => Ev_ok _ _ _) | rfl
      | some xs =>
        show Ev (if kd x1 = kd x then _ else _) P = _
        by_cases h : kd x1 = kd x
        · simp only [h, if_true, true_and]; exact Ev_ofmap _ _
        · simp only [h, if_false, false_and]; (first | exact Ev_bad _ | exact Ev_ok _ _ _ | exact congrArg (Ev _) (funext fun _ => funext fun _ => Ev_ok _ _ _) | rfl)
def kMu2 (m : Mu) (n : Nat) (P : KV) : List Val → Mem → Prop := fun vs M => match M[n]?, argsOf m M vs with
  | some o, some xs => (match muD m o xs with | some (y, o') => P (.d y) (M.set n o') | none => False)
  | _, _ => False
@[simp] theorem kMu2_ap (m : Mu) (n : Nat) (P : KV) (vs : List Val) : kMu2 m n P vs M = (match M[n]?, argsOf m M vs with
  | some o, some xs => (match muD m o xs with | some (y, o') => P (.d y) (M.set n o') | none => False)
  | _, _ => False) := eqr rfl
@[simp] theorem isDc_ap (n : Nat) : isDc M n = (match M[n]? with | some (.dct _ _) => true | _ => false) := eqr rfl
@[simp] theorem Ev_mu (m : Mu) (i : Nat) (P : KV) : Ev (evMu m i fl s M) P = (match s[i]? with | some (some (.ref n)) => isDc M n = false ∧ Ev (fl s M) (kMu2 m n P) | _ => False) := by
  rw [evMu_ap]
  split
  · rename_i n _
    cases hd : isDc M n with
    | true => rw [if_pos rfl]; rw [Ev_bad]; simp
    | false =>
    rw [if_neg Bool.false_ne_true, Ev_bind]
    simp only [true_and]
    refine congrArg (Ev _) (funext fun w => funext fun M2 => ?_)
    unfold kMu2
    split
    · cases muD m _ _ <;> (first | exact Ev_bad _ | exact Ev_ok _ _ _ | exact congrArg (Ev _) (funext fun _ => funext fun _ => Ev_ok _ _ _) | rfl)
    · first | exact Ev_bad _ | exact Ev_ok _ _ _ | exact congrArg (Ev _) (funext fun _ => funext fun _ => Ev_ok _ _ _) | rfl
  · first | exact Ev_bad _ | exact Ev_ok _ _ _ | exact congrArg (Ev _) (funext fun _ => funext fun _ => Ev_ok _ _ _) | rfl
def kSl3 (v w : Val) (P : KV) : KV := fun u M => match view M v, view M w, view M u with | some x, some y, some z => kO P M (sliceD x (some y) (some z)) | _, _, _ => False
@[simp] theorem kSl3_ap (v w u : Val) (P : KV) : kSl3 v w P u M = (match view M v, view M w, view M u with | some x, some y, some z => kO P M (sliceD x (some y) (some z)) | _, _, _ => False) := eqr rfl
def kSl2 (fc : Sl → Mem → Res Val) (s : Sl) (v : Val) (P : KV) : KV := fun w M => Ev (fc s M) (kSl3 v w P)
@[simp] theorem kSl2_ap (v w : Val) (P : KV) : kSl2 fc s v P w M = Ev (fc s M) (kSl3 v w P) := eqr rfl
def kSl1 (fb fc : Sl → Mem → Res Val) (s : Sl) (P : KV) : KV := fun v M => Ev (fb s M) (kSl2 fc s v P)
@[simp] theorem kSl1_ap (v : Val) (P : KV) : kSl1 fb fc s P v M = Ev (fb s M) (kSl2 fc s v P) := eqr rfl
@[simp] theorem Ev_sl (P : KV) : Ev (evSl fa fb fc s M) P = Ev (fa s M) (kSl1 fb fc s P) := by
  rw [evSl_ap, Ev_bind]
  refine congrArg (Ev _) (funext fun v => funext fun M1 => ?_)
  rw [Ev_bind]
  refine congrArg (Ev _) (funext fun w => funext fun M2 => ?_)
  rw [Ev_bind]
  refine congrArg (Ev _) (funext fun u => funext fun M3 => ?_)
  unfold kSl3
  cases view M3 v <;> cases view M3 w <;> cases view M3 u <;> first | exact Ev_bad _ | exact Ev_ofmap _ _
/-! walks -/
def kIt (P : List D → Mem → Prop) : KV := fun v M => match v with | .d x => (match items x with | some l => P l M | none => False) | _ => False
@[simp] theorem kIt_ap (x : D) (P : List D → Mem → Prop) : kIt P (.d x) M = (match items x with | some l => P l M | none => False) := eqr rfl
@[simp] theorem Ev_it (P : List D → Mem → Prop) : Ev (evIt fa s M) P = Ev (fa s M) (kIt P) := by
  rw [evIt_ap, Ev_bind]
  refine congrArg (Ev _) (funext fun v => funext fun M1 => ?_)
  cases v with
  | ref n => first | exact Ev_bad _ | exact Ev_ok _ _ _ | exact congrArg (Ev _) (funext fun _ => funext fun _ => Ev_ok _ _ _) | rfl
  | d x => show Ev (Res.of _ _) P = _; rw [Ev_of]; unfold kIt; cases h : items x <;> simp [h]
def kEnm (P : List D → Mem → Prop) : KV := fun v M => match v with | .d x => (match itemsE x with | some l => P (enumFrom 0 l) M | none => False) | _ => False
@[simp] theorem kEnm_ap (x : D) (P : List D → Mem → Prop) : kEnm P (.d x) M = (match itemsE x with | some l => P (enumFrom 0 l) M | none => False) := eqr rfl
@[simp] theorem Ev_enm (P : List D → Mem → Prop) : Ev (evEnm fa s M) P = Ev (fa s M) (kEnm P) := by
  rw [evEnm_ap, Ev_bind]
  refine congrArg (Ev _) (funext fun v => funext fun M1 => ?_)
  cases v with
  | ref n => first | exact Ev_bad _ | exact Ev_ok _ _ _ | exact congrArg (Ev _) (funext fun _ => funext fun _ => Ev_ok _ _ _) | rfl
  | d x => show Ev (Res.of _ _) P = _; rw [Ev_of]; unfold kEnm; cases h : itemsE x <;> simp [h]
def kRO (P : List D → Mem → Prop) (M : Mem) : Option (List D) → Prop := fun o => match o with | some l => P l M | none => False
@[simp] theorem kRO_some (P : List D → Mem → Prop) (l : List D) : kRO P M (some l) = P l M := eqr rfl
@[simp] theorem kRO_none (P : List D → Mem → Prop) : kRO P M none = False := eqr rfl
@[simp] theorem kRO_ite (P : List D → Mem → Prop) {c : Prop} [Decidable c] (o : Option (List D)) : kRO P M (if c then o else none) = (c ∧ kRO P M o) := by by_cases h : c <;> simp [h]
def kRng (P : List D → Mem → Prop) : List Val → Mem → Prop := fun vs M => match views M vs with | some xs => kRO P M (rngD xs) | none => False
@[simp] theorem kRng_ap (vs : List Val) (P : List D → Mem → Prop) : kRng P vs M = (match views M vs with | some xs => kRO P M (rngD xs) | none => False) := eqr rfl
@[simp] theorem Ev_rng (P : List D → Mem → Prop) : Ev (evRng fl s M) P = Ev (fl s M) (kRng P) := by
  rw [evRng_ap, Ev_bind]
  refine congrArg (Ev _) (funext fun v => funext fun M1 => ?_)
  unfold kRng
  cases views M1 v with
  | none => exact Ev_bad _
  | some xs => show Ev (Res.of _ _) P = kRO P M1 (rngD xs); rw [Ev_of]; cases h : rngD xs <;> simp [h]
@[simp] theorem Ev_ifs0 (P : Bool → Mem → Prop) : Ev (ifs0 s M) P = P true M := Ev_ok _ _ _
def kIfs (P : Bool → Mem → Prop) : Bool → Mem → Prop := fun b M => P b M
@[simp] theorem kIfs_ap (P : Bool → Mem → Prop) (b : Bool) : kIfs P b M = P b M := eqr rfl
@[simp] theorem Ev_ifs1 (P : Bool → Mem → Prop) : Ev (ifs1 fT s M) P = Ev (fT s M) (kIfs P) := by
  rw [ifs1_ap, Ev_bind]
  refine congrArg (Ev _) (funext fun b => funext fun M1 => ?_)
  cases b <;> (first | exact Ev_bad _ | exact Ev_ok _ _ _ | exact congrArg (Ev _) (funext fun _ => funext fun _ => Ev_ok _ _ _) | rfl)
def kLc2 (P : KV) : List D → Mem → Prop := fun ys M => P (.d (.lst ys)) M
@[simp] theorem kLc2_ap (P : KV) (ys : List D) : kLc2 P ys M = P (.d (.lst ys)) M := eqr rfl
def kLc (b : D → Mem → Res (Option D)) (P : KV) : List D → Mem → Prop := fun xs M => Ev (compLoop b xs M) (kLc2 P)
@[simp] theorem kLc_ap (b : D → Mem → Res (Option D)) (P : KV) (xs : List D) : kLc b P xs M = Ev (compLoop b xs M) (kLc2 P) := eqr rfl
@[simp] theorem Ev_lc (own : List Nat) (t : Tg) (fifs : Sl → Mem → Res Bool) (P : KV) : Ev (evLc own t fI fifs fa s M) P = Ev (fI s M) (kLc (evBlk own t fifs fa s) P) := by
  rw [evLc_ap, Ev_bind]
  refine congrArg (Ev _) (funext fun xs => funext fun M1 => ?_)
  rw [Ev_bind]; (first | exact Ev_bad _ | exact Ev_ok _ _ _ | exact congrArg (Ev _) (funext fun _ => funext fun _ => Ev_ok _ _ _) | rfl)
abbrev KO := Option D → Mem → Prop
def kBlk2 (P : KO) : KV := fun v M => match v with | .d y => P (some y) M | _ => False
@[simp] theorem kBlk2_ap (P : KO) (y : D) : kBlk2 P (.d y) M = P (some y) M := eqr rfl
def kBlk (fa : Sl → Mem → Res Val) (s : Sl) (P : KO) : Bool → Mem → Prop := fun b M => if b then Ev (fa s M) (kBlk2 P) else P none M
@[simp] theorem kBlk_ap (P : KO) (b : Bool) : kBlk fa s P b M = if b then Ev (fa s M) (kBlk2 P) else P none M := eqr rfl
@[simp] theorem Ev_blk (own : List Nat) (t : Tg) (fifs : Sl → Mem → Res Bool) (x : D) (P : KO) : Ev (evBlk own t fifs fa s x M) P = (match bindTg t x (wipeS s own) with | some s' => Ev (fifs s' M) (kBlk fa s' P) | none => False) := by
  rw [evBlk_ap]
  split
  · rw [Ev_bind]
    refine congrArg (Ev _) (funext fun b => funext fun M1 => ?_)
    cases b with
    | false => first | exact Ev_bad _ | exact Ev_ok _ _ _ | exact congrArg (Ev _) (funext fun _ => funext fun _ => Ev_ok _ _ _) | rfl
    | true =>
      show Ev (Res.bind _ _) P = Ev _ _
      rw [Ev_bind]
      refine congrArg (Ev _) (funext fun v => funext fun M2 => ?_)
      cases v <;> (first | exact Ev_bad _ | exact Ev_ok _ _ _ | exact congrArg (Ev _) (funext fun _ => funext fun _ => Ev_ok _ _ _) | rfl)
  · first | exact Ev_bad _ | exact Ev_ok _ _ _ | exact congrArg (Ev _) (funext fun _ => funext fun _ => Ev_ok _ _ _) | rfl
/-! calls -/
def kCall (g : List Val → Mem → Res Val) (P : KV) : List Val → Mem → Prop := fun vs M => Ev (g vs M) P
@[simp] theorem kCall_ap (g : List Val → Mem → Res Val) (P : KV) (vs : List Val) : kCall g P vs M = Ev (g vs M) P := eqr rfl
@[simp] theorem Ev_call (g : List Val → Mem → Res Val) (P : KV) : Ev (evCall g fl s M) P = Ev (fl s M) (kCall g P) := by rw [evCall_ap, Ev_bind]; (first | exact Ev_bad _ | exact Ev_ok _ _ _ | exact congrArg (Ev _) (funext fun _ => funext fun _ => Ev_ok _ _ _) | rfl)
def kCallN2 (n m : Nat) (ord : List Val → List Val → List Val) (g : List Val → Mem → Res Val) (vs : List Val) (P : KV) : List Val → Mem → Prop := fun ws M => (vs.length = n ∧ ws.length = m) ∧ Ev (g (ord vs ws) M) P
@[simp] theorem kCallN2_ap (n m : Nat) (ord : List Val → List Val → List Val) (g : List Val → Mem → Res Val) (vs ws : List Val) (P : KV) : kCallN2 n m ord g vs P ws M = ((vs.length = n ∧ ws.length = m) ∧ Ev (g (ord vs ws) M) P) := eqr rfl
def kCallN (n m : Nat) (ord : List Val → List Val → List Val) (g : List Val → Mem → Res Val) (fk : Sl → Mem → Res (List Val)) (s : Sl) (P : KV) : List Val → Mem → Prop := fun vs M => Ev (fk s M) (kCallN2 n m ord g vs P)
@[simp] theorem kCallN_ap (n m : Nat) (ord : List Val → List Val → List Val) (g : List Val → Mem → Res Val) (vs : List Val) (P : KV) : kCallN n m ord g fk s P vs M = Ev (fk s M) (kCallN2 n m ord g vs P) := eqr rfl
@[simp] theorem Ev_callN (n m : Nat) (ord : {α : Type} → List α → List α → List α) (g : List Val → Mem → Res Val) (P : KV) : Ev (evCallN n m ord g fl fk s M) P = Ev (fl s M) (kCallN n m (fun us ws => ord us ws) g fk s P) := by
  rw [evCallN_ap, Ev_bind]
  refine congrArg (Ev _) (funext fun vs => funext fun M1 => ?_)
  rw [Ev_bind]
  refine congrArg (Ev _) (funext fun ws => funext fun M2 => ?_)
  unfold kCallN2
  by_cases h : vs.length = n ∧ ws.length = m <;> simp [h]
@[simp] theorem pickO_nil {α : Type} (us ws : List α) : pickO [] us ws = [] := eqr rfl
@[simp] theorem pickO_t {α : Type} (j : Nat) (r : List (Bool × Nat)) (us ws : List α) : pickO ((true, j) :: r) us ws = (match ws[j]? with | some x => x :: pickO r us ws | none => pickO r us ws) := by
  unfold pickO; rw [List.filterMap_cons]; simp; cases ws[j]? <;> (first | exact Ev_bad _ | exact Ev_ok _ _ _ | exact congrArg (Ev _) (funext fun _ => funext fun _ => Ev_ok _ _ _) | rfl)
@[simp] theorem pickO_f {α : Type} (j : Nat) (r : List (Bool × Nat)) (us ws : List α) : pickO ((false, j) :: r) us ws = (match us[j]? with | some x => x :: pickO r us ws | none => pickO r us ws) := by
  unfold pickO; rw [List.filterMap_cons]; simp; cases us[j]? <;> (first | exact Ev_bad _ | exact Ev_ok _ _ _ | exact congrArg (Ev _) (funext fun _ => funext fun _ => Ev_ok _ _ _) | rfl)
/-! statements -/
def kNx (P : KF) : Sl → Mem → Prop := fun s M => P (.nx s) M
@[simp] theorem kNx_ap (P : KF) : kNx P s M = P (.nx s) M := eqr rfl
def kAsg (st : Val → Sl → Mem → Res Sl) (s : Sl) (P : KF) : KV := fun v M => Ev (st v s M) (kNx P)
@[simp] theorem kAsg_ap (st : Val → Sl → Mem → Res Sl) (P : KF) (v : Val) : kAsg st s P v M = Ev (st v s M) (kNx P) := eqr rfl
@[simp] theorem Ev_asg (st : Val → Sl → Mem → Res Sl) (P : KF) : Ev (evAsg fa st s M) P = Ev (fa s M) (kAsg st s P) := by
  rw [evAsg_ap, Ev_bind]
  refine congrArg (Ev _) (funext fun v => funext fun M1 => ?_)
  rw [Ev_bind]; (first | exact Ev_bad _ | exact Ev_ok _ _ _ | exact congrArg (Ev _) (funext fun _ => funext fun _ => Ev_ok _ _ _) | rfl)
@[simp] theorem Ev_stN (i : Nat) (v : Val) (P : Sl → Mem → Prop) : Ev (stN i v s M) P = (i < s.length ∧ P (s.set i (some v)) M) := by rw [stN_ap]; exact Ev_guard
def kStSub (n : Nat) (y : D) (s : Sl) (P : Sl → Mem → Prop) : KV := fun w M => match M[n]?, view M w with
  | some o, some k => (match setD o k y with | some o' => P s (M.set n o') | none => False)
  | _, _ => False
@[simp] theorem kStSub_ap (n : Nat) (y : D) (P : Sl → Mem → Prop) (w : Val) : kStSub n y s P w M = (match M[n]?, view M w with
  | some o, some k => (match setD o k y with | some o' => P s (M.set n o') | none => False)
  | _, _ => False) := eqr rfl
@[simp] theorem Ev_stSub (i : Nat) (y : D) (P : Sl → Mem → Prop) : Ev (stSub i fa (.d y) s M) P = (match s[i]? with | some (some (.ref n)) => Ev (fa s M) (kStSub n y s P) | _ => False) := by
  rw [stSub_ap]
  split
  · rw [Ev_bind]
    refine congrArg (Ev _) (funext fun w => funext fun M2 => ?_)
    unfold kStSub
    split
    · cases setD _ _ _ <;> (first | exact Ev_bad _ | exact Ev_ok _ _ _ | exact congrArg (Ev _) (funext fun _ => funext fun _ => Ev_ok _ _ _) | rfl)
    · first | exact Ev_bad _ | exact Ev_ok _ _ _ | exact congrArg (Ev _) (funext fun _ => funext fun _ => Ev_ok _ _ _) | rfl
  · first | exact Ev_bad _ | exact Ev_ok _ _ _ | exact congrArg (Ev _) (funext fun _ => funext fun _ => Ev_ok _ _ _) | rfl
@[simp] theorem Ev_stNil (P : Sl → Mem → Prop) : Ev (stNil [] s M) P = P s M := Ev_ok _ _ _
def kStCons (sts : List D → Sl → Mem → Res Sl) (xs : List D) (P : Sl → Mem → Prop) : Sl → Mem → Prop := fun s M => Ev (sts xs s M) P
@[simp] theorem kStCons_ap (sts : List D → Sl → Mem → Res Sl) (xs : List D) (P : Sl → Mem → Prop) : kStCons sts xs P s M = Ev (sts xs s M) P := eqr rfl
@[simp] theorem Ev_stCons (st : Val → Sl → Mem → Res Sl) (sts : List D → Sl → Mem → Res Sl) (x : D) (xs : List D) (P : Sl → Mem → Prop) : Ev (stCons st sts (x :: xs) s M) P = Ev (st (.d x) s M) (kStCons sts xs P) := by rw [stCons_ap, Ev_bind]; (first | exact Ev_bad _ | exact Ev_ok _ _ _ | exact congrArg (Ev _) (funext fun _ => funext fun _ => Ev_ok _ _ _) | rfl)
@[simp] theorem Ev_stTup (n : Nat) (sts : List D → Sl → Mem → Res Sl) (xs : List D) (P : Sl → Mem → Prop) : Ev (stTup n sts (.d (.tup xs)) s M) P = (xs.length = n ∧ Ev (sts xs s M) P) := by
  rw [stTup_ap]; by_cases h : xs.length = n <;> simp [h]
def kPar (is : List Nat) (s : Sl) (P : KF) : List Val → Mem → Prop := fun vs M => match setMany is vs s with | some s1 => P (.nx s1) M | none => False
@[simp] theorem kPar_ap (is : List Nat) (P : KF) (vs : List Val) : kPar is s P vs M = (match setMany is vs s with | some s1 => P (.nx s1) M | none => False) := eqr rfl
@[simp] theorem Ev_par (is : List Nat) (P : KF) : Ev (evPar is fl s M) P = Ev (fl s M) (kPar is s P) := by
  rw [evPar_ap, Ev_bind]
  refine congrArg (Ev _) (funext fun vs => funext fun M1 => ?_)
  unfold kPar
  cases setMany is vs s <;> (first | exact Ev_bad _ | exact Ev_ok _ _ _ | exact congrArg (Ev _) (funext fun _ => funext fun _ => Ev_ok _ _ _) | rfl)
def kEx (s : Sl) (P : KF) : KV := fun _ M => P (.nx s) M
@[simp] theorem kEx_ap (P : KF) (v : Val) : kEx s P v M = P (.nx s) M := eqr rfl
@[simp] theorem Ev_ex (P : KF) : Ev (sEx fa s M) P = Ev (fa s M) (kEx s P) := by rw [sEx_ap, Ev_bind]; (first | exact Ev_bad _ | exact Ev_ok _ _ _ | exact congrArg (Ev _) (funext fun _ => funext fun _ => Ev_ok _ _ _) | rfl)
def kRet (P : KF) : KV := fun v M => P (.ret v) M
@[simp] theorem kRet_ap (P : KF) (v : Val) : kRet P v M = P (.ret v) M := eqr rfl
@[simp] theorem Ev_ret (P : KF) : Ev (sRet fa s M) P = Ev (fa s M) (kRet P) := by rw [sRet_ap, Ev_bind]; (first | exact Ev_bad _ | exact Ev_ok _ _ _ | exact congrArg (Ev _) (funext fun _ => funext fun _ => Ev_ok _ _ _) | rfl)
@[simp] theorem Ev_retN (P : KF) : Ev (sRetN s M) P = P (.ret (.d .non)) M := Ev_ok _ _ _
@[simp] theorem Ev_pass (P : KF) : Ev (sPass s M) P = P (.nx s) M := Ev_ok _ _ _
@[simp] theorem Ev_brk (P : KF) : Ev (sBrk s M) P = P (.brk s) M := Ev_ok _ _ _
@[simp] theorem Ev_cont (P : KF) : Ev (sCont s M) P = P (.cont s) M := Ev_ok _ _ _
@[simp] theorem Ev_never (P : KF) : Ev (sNever s M) P = False := Ev_bad _
theorem Ev_whileS (P : KF) : Ev (sWhile fT f s M) P = Ev (whileLoop fT f turns s M) P := rfl
def kIte (f g : Sl → Mem → Res Flow) (s : Sl) (P : KF) : Bool → Mem → Prop := fun b M => if b then Ev (f s M) P else Ev (g s M) P
@[simp] theorem kIte_ap (P : KF) (b : Bool) : kIte f g s P b M = if b then Ev (f s M) P else Ev (g s M) P := eqr rfl
@[simp] theorem Ev_ite (P : KF) : Ev (evIte fT f g s M) P = Ev (fT s M) (kIte f g s P) := by
  rw [evIte_ap, Ev_bind]
  refine congrArg (Ev _) (funext fun b => funext fun M1 => ?_)
  rw [Ev_if]
  cases b
  · first | exact Ev_ok _ _ _ | rfl
  · first | exact Ev_ok _ _ _ | rfl
def kSeq (g : Sl → Mem → Res Flow) (P : KF) : KF := fun x M => match x with | .nx s => Ev (g s M) P | .ret v => P (.ret v) M | .brk s => P (.brk s) M | .cont s => P (.cont s) M
@[simp] theorem kSeq_nx (P : KF) : kSeq g P (.nx s) M = Ev (g s M) P := eqr rfl
@[simp] theorem kSeq_ret (P : KF) (v : Val) : kSeq g P (.ret v) M = P (.ret v) M := eqr rfl
@[simp] theorem kSeq_brk (P : KF) : kSeq g P (.brk s) M = P (.brk s) M := eqr rfl
@[simp] theorem kSeq_cont (P : KF) : kSeq g P (.cont s) M = P (.cont s) M := eqr rfl
@[simp] theorem Ev_seq (P : KF) : Ev (evSeq f g s M) P = Ev (f s M) (kSeq g P) := by
  rw [evSeq_ap, Ev_bind]
  refine congrArg (Ev _) (funext fun x => funext fun M1 => ?_)
  cases x <;> (first | exact Ev_bad _ | exact Ev_ok _ _ _ | exact congrArg (Ev _) (funext fun _ => funext fun _ => Ev_ok _ _ _) | rfl)
def kFor (t : Tg) (f : Sl → Mem → Res Flow) (s : Sl) (P : KF) : List D → Mem → Prop := fun xs M => Ev (forLoop f t xs s M) P
@[simp] theorem kFor_ap (t : Tg) (P : KF) (xs : List D) : kFor t f s P xs M = Ev (forLoop f t xs s M) P := eqr rfl
@[simp] theorem Ev_for (t : Tg) (P : KF) : Ev (evFor t fI f s M) P = Ev (fI s M) (kFor t f s P) := by rw [evFor_ap, Ev_bind]; (first | exact Ev_bad _ | exact Ev_ok _ _ _ | exact congrArg (Ev _) (funext fun _ => funext fun _ => Ev_ok _ _ _) | rfl)
@[simp] theorem Ev_mv (bs j i : Nat) (P : KF) : Ev (evMv bs j i s M) P = (match s[i]? with
  | some (some (.ref n)) => (n + 1 = M.length ∧ bs ≤ n ∧ j < s.length ∧ (s.set i none).all (notRef n) = true) ∧ (match M[n]? with
      | some o => P (.nx ((s.set i none).set j (some (.d o.toD)))) (M.take n)
      | none => False)
  | _ => False) := by
  unfold evMv
  generalize s[i]? = x
  rcases x with _ | _ | (_ | n)
  · first | exact Ev_bad _ | exact Ev_ok _ _ _ | exact congrArg (Ev _) (funext fun _ => funext fun _ => Ev_ok _ _ _) | rfl
  · first | exact Ev_bad _ | exact Ev_ok _ _ _ | exact congrArg (Ev _) (funext fun _ => funext fun _ => Ev_ok _ _ _) | rfl
  · first | exact Ev_bad _ | exact Ev_ok _ _ _ | exact congrArg (Ev _) (funext fun _ => funext fun _ => Ev_ok _ _ _) | rfl
  · show Ev (if _ then _ else _) P = (_ ∧ _)
    by_cases hc : n + 1 = M.length ∧ bs ≤ n ∧ j < s.length ∧ (s.set i none).all (notRef n) = true
    · rw [if_pos hc, eq_true hc, true_and]
      cases M[n]? <;> (first | exact Ev_bad _ | exact Ev_ok _ _ _ | exact congrArg (Ev _) (funext fun _ => funext fun _ => Ev_ok _ _ _) | rfl)
    · rw [if_neg hc, eq_false hc, false_and]; (first | exact Ev_bad _ | exact Ev_ok _ _ _ | exact congrArg (Ev _) (funext fun _ => funext fun _ => Ev_ok _ _ _) | rfl)
@[simp] theorem notRef_none (n : Nat) : notRef n none = true := eqr rfl
@[simp] theorem notRef_d (n : Nat) (x : D) : notRef n (some (.d x)) = true := eqr rfl
@[simp] theorem notRef_ref (n k : Nat) : notRef n (some (.ref k)) = (k != n) := eqr rfl
/-! defs -/
def kHB (fr : Bool) (b : Nat) (P : KV) : KF := fun f M => Ev (handBack fr b f M) P
@[simp] theorem kHB_d (b : Nat) (P : KV) (x : D) : kHB false b P (.ret (.d x)) M = P (.d x) (M.take b) := Ev_ok _ _ _
@[simp] theorem kHB_nx (b : Nat) (P : KV) : kHB false b P (.nx s) M = P (.d .non) (M.take b) := Ev_ok _ _ _
@[simp] theorem kHB_ref (b k : Nat) (P : KV) : kHB true b P (.ret (.ref k)) M = (b ≤ k ∧ (match M[k]? with | some (.lst l) => P (.d (.lst l)) (M.take b) | _ => False)) := by
  show Ev (if true = true ∧ b ≤ k then (match M[k]? with | some (.lst l) => Res.ok (Val.d (.lst l)) (M.take b) | _ => .bad) else .bad) P = _
  by_cases h : b ≤ k
  · rw [if_pos ⟨rfl, h⟩]; simp only [h, true_and]; cases M[k]? <;> first | exact Ev_bad _ | (rename_i o; cases o <;> (first | exact Ev_bad _ | exact Ev_ok _ _ _)) | (first | exact Ev_bad _ | exact Ev_ok _ _ _ | exact congrArg (Ev _) (funext fun _ => funext fun _ => Ev_ok _ _ _) | rfl)
  · rw [if_neg (fun z => h z.2)]; simp only [h, false_and]; (first | exact Ev_bad _ | exact Ev_ok _ _ _ | exact congrArg (Ev _) (funext fun _ => funext fun _ => Ev_ok _ _ _) | rfl)
theorem Ev_G1 (fr : Bool) (m : Nat) (F : Nat → Sl → Mem → Res Flow) (a : Val) (P : KV) : Ev (defG fr 1 m F [a] M) P = Ev (F M.length (some a :: List.replicate m none) M) (kHB fr M.length P) := by rw [defG1, Ev_bind]; (first | exact Ev_bad _ | exact Ev_ok _ _ _ | exact congrArg (Ev _) (funext fun _ => funext fun _ => Ev_ok _ _ _) | rfl)
theorem Ev_G2 (fr : Bool) (m : Nat) (F : Nat → Sl → Mem → Res Flow) (a b : Val) (P : KV) : Ev (defG fr 2 m F [a, b] M) P = Ev (F M.length (some a :: some b :: List.replicate m none) M) (kHB fr M.length P) := by rw [defG2, Ev_bind]; (first | exact Ev_bad _ | exact Ev_ok _ _ _ | exact congrArg (Ev _) (funext fun _ => funext fun _ => Ev_ok _ _ _) | rfl)
theorem Ev_G3 (fr : Bool) (m : Nat) (F : Nat → Sl → Mem → Res Flow) (a b c : Val) (P : KV) : Ev (defG fr 3 m F [a, b, c] M) P = Ev (F M.length (some a :: some b :: some c :: List.replicate m none) M) (kHB fr M.length P) := by rw [defG3, Ev_bind]; (first | exact Ev_bad _ | exact Ev_ok _ _ _ | exact congrArg (Ev _) (funext fun _ => funext fun _ => Ev_ok _ _ _) | rfl)
end
end DL
end P_DL12
section P_DL12j
set_option Elab.async false
set_option linter.all false
set_option maxRecDepth 100000
/-! what joins of unlike keys and min, max with a default come to. -/
namespace DL
variable {fI : Sl → Mem → Res (List D)} {fifs : Sl → Mem → Res Bool} {fk : Sl → Mem → Res Val} {s : Sl} {M : Mem}
def kJd2 (sep : List Char) (P : KV) : List D → Mem → Prop := fun ys M => kO P M (joinKeys sep ys)
@[simp] theorem kJd2_ap (sep : List Char) (P : KV) (ys : List D) : kJd2 sep P ys M = kO P M (joinKeys sep ys) := eqr rfl
def kJd (sep : List Char) (own : List Nat) (t : Tg) (fifs : Sl → Mem → Res Bool) (fk : Sl → Mem → Res Val) (s : Sl) (P : KV) : List D → Mem → Prop := fun xs M => Ev (compLoop (evBlk own t fifs fk s) xs M) (kJd2 sep P)
@[simp] theorem kJd_ap (sep : List Char) (own : List Nat) (t : Tg) (P : KV) (xs : List D) : kJd sep own t fifs fk s P xs M = Ev (compLoop (evBlk own t fifs fk s) xs M) (kJd2 sep P) := eqr rfl
@[simp] theorem Ev_jd (sep : List Char) (own : List Nat) (t : Tg) (P : KV) : Ev (evJd sep own t fI fifs fk s M) P = Ev (fI s M) (kJd sep own t fifs fk s P) := by
  unfold evJd
  rw [Ev_bind]
  refine congrArg (Ev _) (funext fun xs => funext fun M1 => ?_)
  rw [Ev_bind]
  refine congrArg (Ev _) (funext fun ys => funext fun M2 => ?_)
  exact Ev_ofmap _ _
variable {fl fkl : Sl → Mem → Res (List Val)}
def kBK2 (p : List D → List D → Option D) (vs : List Val) (P : KV) : List Val → Mem → Prop := fun ws M => match views M vs, views M ws with | some xs, some ys => kO P M (p xs ys) | _, _ => False
@[simp] theorem kBK2_ap (p : List D → List D → Option D) (vs ws : List Val) (P : KV) : kBK2 p vs P ws M = (match views M vs, views M ws with | some xs, some ys => kO P M (p xs ys) | _, _ => False) := eqr rfl
def kBK (p : List D → List D → Option D) (fkl : Sl → Mem → Res (List Val)) (s : Sl) (P : KV) : List Val → Mem → Prop := fun vs M => Ev (fkl s M) (kBK2 p vs P)
@[simp] theorem kBK_ap (p : List D → List D → Option D) (vs : List Val) (P : KV) : kBK p fkl s P vs M = Ev (fkl s M) (kBK2 p vs P) := eqr rfl
@[simp] theorem Ev_BK (p : List D → List D → Option D) (P : KV) : Ev (evBK p fl fkl s M) P = Ev (fl s M) (kBK p fkl s P) := by
  unfold evBK
  rw [Ev_bind]
  refine congrArg (Ev _) (funext fun vs => funext fun M1 => ?_)
  rw [Ev_bind]
  refine congrArg (Ev _) (funext fun ws => funext fun M2 => ?_)
  unfold kBK2
  cases views M2 vs with
  | none => exact Ev_bad _
  | some xs =>
    cases views M2 ws with
    | none => exact Ev_bad _
    | some ys => exact Ev_ofmap _ _
end DL
end P_DL12j
section P_DLm
set_option Elab.async false
set_option linter.all false
set_option maxRecDepth 100000
set_option maxHeartbeats 1000000
/-! gcd, comb; displays with a star; zip of two lists. -/
namespace DL
open PySem PySem.Spec PyProof.Rows L2
def gcdD : List D → Option D
  | [.int a, .int b] => some (.int ((Nat.gcd a.natAbs b.natAbs : Nat) : Int))
  | _ => none
def combD : List D → Option D
  | [.int a, .int b] => if 0 ≤ a ∧ a ≤ 18000 ∧ 0 ≤ b then some (.int (PySem.W.mcComb a b)) else none
  | _ => none
def evStarD (fa : Sl → Mem → Res Val) (fd : Sl → Mem → Res (List D)) : Sl → Mem → Res (List D) := fun s M => (fa s M).bind fun v M1 => match v with
  | .d (.lst xs) => (fd s M1).bind fun ys M2 => .ok (xs ++ ys) M2
  | .d (.tup xs) => (fd s M1).bind fun ys M2 => .ok (xs ++ ys) M2
  | _ => .bad
def zipD : List D → List D → List D
  | x :: xs, y :: ys => .tup [x, y] :: zipD xs ys
  | _, _ => []
def evZip (fa fb : Sl → Mem → Res Val) : Sl → Mem → Res (List D) := fun s M => (fa s M).bind fun v M1 => (fb s M1).bind fun w M2 => match v, w with
  | .d (.lst xs), .d (.lst ys) => .ok (zipD xs ys) M2
  | .d (.tup xs), .d (.tup ys) => .ok (zipD xs ys) M2
  | _, _ => .bad
section
variable {X : Cx} {e e2 : Expr} {es : List Expr} {fa fb : Sl → Mem → Res Val} {fl : Sl → Mem → Res (List Val)} {fd : Sl → Mem → Res (List D)} {pos p tpos : Pos} {elts : List Expr} {kk : Nat}
theorem bb_gcd : CallR X (.builtin "math.gcd") (rLD false X.K gcdD) := by
  intro pins s σ H vs us Q I r ⟨F, xs, d, sb, tx, e, q⟩
  match xs, e, tx with
  | [.int i, .int j], e, tx =>
    obtain ⟨v, w, rfl, rx, ry⟩ := repTs_2 tx
    cases repT_int rx; cases repT_int ry
    cases e
    exact cr_gcd pins s σ H _ us Q I r ⟨i, j, rfl, postSame sb q (.int _)⟩
theorem bb_comb : CallR X (.builtin "math.comb") (rLD false X.K combD) := by
  intro pins s σ H vs us Q I r ⟨F, xs, d, sb, tx, e, q⟩
  match xs, e, tx with
  | [.int i, .int j], e, tx =>
    obtain ⟨v, w, rfl, rx, ry⟩ := repTs_2 tx
    cases repT_int rx; cases repT_int ry
    simp only [combD] at e
    split at e
    case isFalse => cases e
    rename_i h
    cases e
    obtain ⟨t, u, rfl⟩ := Vals.int2 r
    have g := PySem.W.mc_gives_comb (a := i) (b := j) t u h.1 h.2.2 (by have := h.2.1; omega) (.inr h.2.1)
    refine PySem.call_function_meets PySem.W.MGF.kind_comb PySem.W.MGF.plain_comb PySem.W.MGF.entry_comb (PySem.W.MGF.args_comb _ _) g.meets ?_
    exact ⟨.int _, H, I.tok _, ⟨_, rfl⟩, postSame sb q (.int _)⟩
theorem p_callM {id : String} {x : Str} {pn : Pos} {pf : List D → Option D} (hc : CallR X (.builtin id) (rLD false X.K pf)) (hm : X.mg x = some (.builtin id)) (ha : PA X (e :: es) (LA X.K fl)) (hg : Gl X x := by rfl) (hpl : (e :: es).all plainArg = true := by rfl) (hdb : (x == ("__debug__" : Str)) = false := by decide +kernel) :
    PE X (.Call (.Name x pn) (e :: es) [] pos) (LE false X.K (evB pf fl)) := by
  rw [List.all_cons, Bool.and_eq_true] at hpl
  exact (pe_callBfun hc hg hm ha hdb (star_plain hpl.1 es X.env) (star_any hpl.2)).imp fun _ _ _ h => liftB h
theorem mk_blt {K : Fr} {h : Heap} {mg : Str → Option Value} {x : Str} {id : String} (X : K.In h) (G : h.Ns mainGlobals mg) (a : PySem.W.nsIn K mainGlobals x = some (some (.builtin id))) : mg x = some (.builtin id) := PySem.W.mg_of X G a
/-! a star in a display -/
theorem p_dstar {sp : Pos} (he : PE X e (LE false X.K fa)) (hr : PA X es (LDs X.K fd)) (hs : starEach (.Starred e sp :: es) X.env = (true, eval e X.env) :: starEach es X.env := by rfl) : PA X (.Starred e sp :: es) (LDs X.K (evStarD fa fd)) := by
  refine (StX.pa_star he hr hs).imp fun σ H Q ⟨δ, M, F, μ, x, M', S, R, e0, k⟩ => ?_
  obtain ⟨v, M1, e1, e0⟩ := bind_ok e0
  cases v with
  | ref n => cases e0
  | d y =>
    cases y <;> first | (cases e0; done) | skip
    · rename_i xs
      obtain ⟨ys, M2, e2, e0⟩ := bind_ok e0
      cases e0
      refine ⟨δ, M, F, μ, .d (.tup xs), M1, S, R, e1, fun F1 μ1 H1 v1 st1 S1 r1 => ?_⟩
      have r1' : Rep X.K F1 (.tup xs) v1 := r1
      cases r1' with
      | tup hz h r =>
        refine ⟨_, _, rfl, .inl (S1.sub.sqT (SqT.of h)), δ, M1, F1, μ1, ys, _, S1, R.mono st1.fr st1.whole, e2, fun F2 μ2 H2 vs2 st2 S2 r2 => ?_⟩
        exact k F2 μ2 H2 _ (st1.transE st2) S2 ((Reps.mono st2.fr r).append r2)
    · rename_i xs
      obtain ⟨ys, M2, e2, e0⟩ := bind_ok e0
      cases e0
      refine ⟨δ, M, F, μ, .d (.lst xs), M1, S, R, e1, fun F1 μ1 H1 v1 st1 S1 r1 => ?_⟩
      have r1' : Rep X.K F1 (.lst xs) v1 := r1
      cases r1' with
      | lst hz h r =>
        refine ⟨_, _, rfl, .inr (S1.sub.sqL (SqL.of h)), δ, M1, F1, μ1, ys, _, S1, R.mono st1.fr st1.whole, e2, fun F2 μ2 H2 vs2 st2 S2 r2 => ?_⟩
        exact k F2 μ2 H2 _ (st1.transE st2) S2 ((Reps.mono st2.fr r).append r2)
/-! zip -/
theorem zipD_len : ∀ xs ys : List D, (zipD xs ys).length = min xs.length ys.length
  | [], ys => by simp [zipD]
  | x :: xs, [] => by simp [zipD]
  | x :: xs, y :: ys => by
    show (zipD xs ys).length + 1 = _
    rw [zipD_len xs ys, List.length_cons, List.length_cons]; omega
theorem zipD_get : ∀ (xs ys : List D) (i : Nat) (d : D), (zipD xs ys)[i]? = some d → ∃ x y, xs[i]? = some x ∧ ys[i]? = some y ∧ d = .tup [x, y]
  | [], ys, i, d, h => by simp [zipD] at h
  | x :: xs, [], i, d, h => by simp [zipD] at h
  | x :: xs, y :: ys, 0, d, h => by
    have h : some (D.tup [x, y]) = some d := h
    cases h; exact ⟨x, y, rfl, rfl, rfl⟩
  | x :: xs, y :: ys, i + 1, d, h => zipD_get xs ys i d h
theorem its_zip {K : Fr} {F : Hp} {a b : Addr} {vs ws : List V} {xs ys : List D} (hl : xs.length ≤ big) (h : SqL K F a vs) (h2 : SqL K F b ws) (r : Reps K F xs vs) (r2 : Reps K F ys ws) : Its K F (zipD xs ys) (Itz K a b) where
  few := by rw [zipD_len]; exact Nat.le_trans (Nat.min_le_left _ _) hl
  goes := fun i H hi s => by
    rw [zipD_len, r.length, r2.length] at hi
    exact ⟨vs, ws, vs[i]'(by omega), ws[i]'(by omega), s.sqL h, s.sqL h2, by simp, by simp⟩
  stops := fun H s => ⟨vs, ws, s.sqL h, s.sqL h2, by rw [zipD_len, r.length, r2.length]; omega⟩
  yields := fun i H x H' d F0 hd s0 s1 ⟨T, y, z, ex, hT, eH, hy, hz⟩ => by
    obtain ⟨dx, dy, g1, g2, rfl⟩ := zipD_get xs ys i d hd
    obtain ⟨v, hv, rv⟩ := r.get g1
    obtain ⟨w, hw, rw'⟩ := r2.get g2
    have q1 := hy vs ((s0.trans s1).sqL h)
    have q2 := hz ws ((s0.trans s1).sqL h2)
    rw [hv] at q1
    rw [hw] at q2
    obtain rfl := Option.some.inj q1
    obtain rfl := Option.some.inj q2
    subst ex eH
    have n := NewF.alloc s1 hT (.tup [v, w])
    exact ⟨_, n, Rep.tup (by show 2 ≤ big; decide) upd_same (.cons (rv.mono (s0.trans n.fr)) (.cons (rw'.mono (s0.trans n.fr)) .nil))⟩
theorem its_zipT {K : Fr} {F : Hp} {a b : Addr} {vs ws : List V} {xs ys : List D} (hl : xs.length ≤ big) (h : SqT K F a vs) (h2 : SqT K F b ws) (r : Reps K F xs vs) (r2 : Reps K F ys ws) : Its K F (zipD xs ys) (RZ.ItzT K a b) where
  few := by rw [zipD_len]; exact Nat.le_trans (Nat.min_le_left _ _) hl
  goes := fun i H hi s => by
    rw [zipD_len, r.length, r2.length] at hi
    exact ⟨vs, ws, vs[i]'(by omega), ws[i]'(by omega), s.sqT h, s.sqT h2, by simp, by simp⟩
  stops := fun H s => ⟨vs, ws, s.sqT h, s.sqT h2, by rw [zipD_len, r.length, r2.length]; omega⟩
  yields := fun i H x H' d F0 hd s0 s1 ⟨T, y, z, ex, hT, eH, hy, hz⟩ => by
    obtain ⟨dx, dy, g1, g2, rfl⟩ := zipD_get xs ys i d hd
    obtain ⟨v, hv, rv⟩ := r.get g1
    obtain ⟨w, hw, rw'⟩ := r2.get g2
    have q1 := hy vs ((s0.trans s1).sqT h)
    have q2 := hz ws ((s0.trans s1).sqT h2)
    rw [hv] at q1
    rw [hw] at q2
    obtain rfl := Option.some.inj q1
    obtain rfl := Option.some.inj q2
    subst ex eH
    have n := NewF.alloc s1 hT (.tup [v, w])
    exact ⟨_, n, Rep.tup (by show 2 ≤ big; decide) upd_same (.cons (rv.mono (s0.trans n.fr)) (.cons (rw'.mono (s0.trans n.fr)) .nil))⟩
theorem p_zip (hm : X.mg "zip" = none) (ha : PE X e (LE false X.K fa)) (hb : PE X e2 (LE false X.K fb)) (hg : Gl X "zip" := by rfl) (hp : plainArg e = true := by rfl) (hp2 : plainArg e2 = true := by rfl) :
    PI X (.Tuple elts kk tpos) (.Call (.Name "zip" p) [e, e2] [] pos) (LI X.K (evZip fa fb)) := by
  refine (RZ.pi_zipA hg hm (q_cons hp ha (q_cons hp2 hb q_nil)) (star_plain hp [e2] X.env) (star_any (by simp [hp2]))).imp fun σ H R ⟨δ, M, F, μ, xs, M', S, RS, e0, k⟩ => ?_
  obtain ⟨v, M1, e1, e0⟩ := bind_ok e0
  obtain ⟨w, M2, e2', e0⟩ := bind_ok e0
  cases v with
  | ref n => cases e0
  | d y =>
    cases w with
    | ref n => cases y <;> cases e0
    | d y2 =>
      have mk : ∀ (u v : D), (fa δ M = .ok (.d u) M1) → (fb δ M1 = .ok (.d v) M2) → evCons fa (evCons fb evNil) δ M = .ok [.d u, .d v] M2 := fun u v h1 h2 => by
        show (fa δ M).bind _ = _
        rw [h1]
        show ((fb δ M1).bind _).bind _ = _
        rw [h2]
        rfl
      cases y <;> first | (cases e0; done) | skip
      · rename_i l1 e0
        cases y2 <;> first | (cases e0; done) | skip
        rename_i e0 l2
        cases e0
        refine ⟨δ, M, F, μ, [.d (.tup l1), .d (.tup l2)], M', S, RS, mk _ _ e1 e2', fun F1 μ1 H1 v1 st1 S1 r1 => ?_⟩
        cases r1 with
        | cons ra rr =>
          cases rr with
          | cons rb rr =>
            cases rr
            have ra' : Rep X.K F1 (.tup l1) _ := ra
            have rb' : Rep X.K F1 (.tup l2) _ := rb
            cases ra' with
            | tup hz h r =>
              cases rb' with
              | tup hz2 h2 r2 =>
                exact ⟨_, _, _, _, rfl, .inr ⟨S1.sub.sqT (SqT.of h), S1.sub.sqT (SqT.of h2), k F1 μ1 H1 _ st1 S1 (its_zipT hz (SqT.of h) (SqT.of h2) r r2)⟩⟩
      · rename_i l1 e0
        cases y2 <;> first | (cases e0; done) | skip
        rename_i e0 l2
        cases e0
        refine ⟨δ, M, F, μ, [.d (.lst l1), .d (.lst l2)], M', S, RS, mk _ _ e1 e2', fun F1 μ1 H1 v1 st1 S1 r1 => ?_⟩
        cases r1 with
        | cons ra rr =>
          cases rr with
          | cons rb rr =>
            cases rr
            have ra' : Rep X.K F1 (.lst l1) _ := ra
            have rb' : Rep X.K F1 (.lst l2) _ := rb
            cases ra' with
            | lst hz h r =>
              cases rb' with
              | lst hz2 h2 r2 =>
                exact ⟨_, _, _, _, rfl, .inl ⟨S1.sub.sqL (SqL.of h), S1.sub.sqL (SqL.of h2), k F1 μ1 H1 _ st1 S1 (its_zip hz (SqL.of h) (SqL.of h2) r r2)⟩⟩
end
end DL
end P_DLm
section P_DLr
set_option Elab.async false
set_option linter.all false
set_option maxRecDepth 100000
set_option maxHeartbeats 1000000
/-! t[::-1] of a tuple. -/
namespace HT
open PySem PySem.Spec PyProof.Rows
section
variable {prog : Program} {w : World} {A : Around} {E : Value → Shared → Prop} {s : Shared}
theorem adjust_rev (n : Nat) : Builtin.Slice.sliceAdjust none none (-1) (n : Int) = ((n : Int) - 1, -1) := by
  unfold Builtin.Slice.sliceAdjust
  simp
theorem places_rev (n : Nat) : Builtin.Slice.slicePlaces ((n : Int) - 1) (-1) (-1) = n := by
  unfold Builtin.Slice.slicePlaces
  rw [if_neg (by decide)]
  by_cases h : n = 0
  · subst h; simp
  · rw [if_pos (by omega)]
    show (((n : Int) - 1 - -1 - 1) / 1 + 1).toNat = n
    rw [Int.ediv_one]; omega
theorem sliceApplied_rev {sl : Addr} {vl vu vs : Value} {n : Nat} {Q : Int × Int × Nat → Shared → Prop} (hs : s.heap.IsSliceOf sl vl vu vs) (pl : IsPart vl none) (pu : IsPart vu none) (ps : IsPart vs (some (-1)))
    (h : Q ((n : Int) - 1, -1, n) s) : wpAny (model prog w) A (Builtin.Slice.sliceApplied (.ref sl) (pure (n : Int))) Q E s := by
  obtain ⟨os, hos, hcs, hds⟩ := id hs
  unfold Builtin.Slice.sliceApplied Builtin.Slice.sliceFields
  refine wpAny_bind (wpAny_bind (wpAny_field hos hds (x := vl) rfl (wpAny_bind (wpAny_field hos hds (x := vu) rfl (wpAny_bind (wpAny_field hos hds (x := vs) rfl (wpAny_pure ?_)))))))
  refine wpAny_bind (slicePart_ ps ?_)
  show wpAny _ _ (if ((-1 : Int) == 0) = true then _ else _) _ _ s
  rw [if_neg (by decide)]
  refine wpAny_bind (slicePart_ pl (wpAny_bind (slicePart_ pu (wpAny_bind (wpAny_pure ?_)))))
  show wpAny _ _ (match Builtin.Slice.sliceAdjust none none (-1) (n : Int) with | (lo, hi) => pure (lo, (-1 : Int), Builtin.Slice.slicePlaces lo hi (-1))) _ _ s
  rw [adjust_rev n]
  show wpAny _ _ (pure ((n : Int) - 1, (-1 : Int), Builtin.Slice.slicePlaces ((n : Int) - 1) (-1) (-1))) _ _ s
  rw [places_rev]
  exact wpAny_pure h
theorem fm_congr {α β : Type} {f g : α → Option β} : ∀ {l : List α}, (∀ x ∈ l, f x = g x) → l.filterMap f = l.filterMap g
  | [], _ => rfl
  | x :: l, h => by rw [List.filterMap_cons, List.filterMap_cons, h x (List.mem_cons_self ..), fm_congr fun y hy => h y (List.mem_cons_of_mem _ hy)]
theorem pick_rev (xs : Array Value) : ((List.range xs.size).filterMap fun (m : Nat) => xs[(((xs.size : Nat) : Int) - 1 + (m : Int) * -1).toNat]?).toArray = xs.toList.reverse.toArray := by
  congr 1
  have e : ((List.range xs.size).filterMap fun (m : Nat) => xs[(((xs.size : Nat) : Int) - 1 + (m : Int) * -1).toNat]?) = (List.range xs.size).reverse.filterMap (xs[·]?) := by
    have : (List.range xs.size).reverse = (List.range xs.size).map fun m => xs.size - 1 - m := by
      refine List.ext_getElem (by simp) fun i h1 h2 => ?_
      simp
    rw [this, List.filterMap_map]
    refine fm_congr fun m hm => ?_
    have := List.mem_range.mp hm
    show xs[_]? = xs[xs.size - 1 - m]?
    congr 1
    omega
  rw [e, List.filterMap_reverse, PySem.W.krv_all]
theorem getItem_tuple_rev {t sl : Addr} {items : Array Value} {vl vu vs : Value} {Q : Value → Shared → Prop} (ht : IsTup s.heap t items) (hs : s.heap.IsSliceOf sl vl vu vs) (pl : IsPart vl none) (pu : IsPart vu none) (ps : IsPart vs (some (-1)))
    (h : Q (.ref s.heap.objs.size) { s with heap := s.heap.push { cls := .type "tuple", data := .seq items.toList.reverse.toArray } })
    (hsz : items.size ≤ sizeLine) : wpAny (model prog w) A (getItem (.ref t) (.ref sl)) Q E s := by
  have htake : sizeOk (.seq items.toList.reverse.toArray) := by
    show items.toList.reverse.toArray.size ≤ sizeLine
    rw [List.size_toArray, List.length_reverse, Array.length_toList]
    exact hsz
  obtain ⟨os, hos, hcs, hds⟩ := id hs
  have hTs : s.TypeIs (.ref sl) "slice" := ⟨os, hos, hcs⟩
  unfold getItem
  try with_reducible refine wpAny_holding ?_
  first | refine wpAny_bind (wpAny_pure ?_) | skip
  refine wpAny_bind (wpAny_sequenceKey ht.typeIs (by decide) ?_)
  refine wpAny_bind (wpAny_callSpecial?_slot (name := Str.ofString "__getitem__") ht.typeIs PyProof.Rows.slot_tuple_getitem
    (wpAny_call_entry PyProof.Rows.slot_tuple_getitem ht.typeIs entry_tuple_getitem ?_ (args_tuple_getitem _ _)))
  show wpAny _ _ (Builtin.Tuple.tupleItemsOf (.ref t) >>= _) _ _ s
  refine wpAny_bind (tupleItemsOf_ ht ?_)
  refine wpAny_bind (wpAny_typeOf hTs ?_)
  rw [if_pos (by decide)]
  refine wpAny_bind (sliceApplied_rev hs pl pu ps ?_)
  show wpAny _ _ (if ((((items.size : Nat) : Int) - 1) == 0 && (-1 : Int) == 1 && items.size == items.size) = true then _ else _) _ _ s
  rw [if_neg (by simp), pick_rev]
  first
    | exact wpAny_bind (m := Builtin.Tuple.tupleExact _) (wpAny_newObj_type (wpAny_pure ⟨_, rfl, wpAny_pure h⟩) htake)
    | exact wpAny_bind (m := Builtin.Tuple.tupleExact _) (wpAny_newObj_type (wpAny_bind (wpAny_pure (wpAny_pure ⟨_, rfl, wpAny_pure h⟩))) htake)
    | exact wpAny_bind (wpAny_bind (m := Builtin.Tuple.tupleExact _) (wpAny_newObj_type (wpAny_pure (wpAny_pure ⟨_, rfl, wpAny_pure h⟩)) htake))
    | exact wpAny_bind (wpAny_bind (m := Builtin.Tuple.tupleExact _) (wpAny_newObj_type (wpAny_pure ⟨_, rfl, wpAny_pure h⟩) htake))
end
end HT
namespace DL
open PySem PySem.Spec PyProof.Rows L2
section
variable {X : Cx} {fa : Sl → Mem → Res Val} {e a tg : Expr} {pos : Pos}
def revT : D → Option D
  | .tup l => some (.tup l.reverse)
  | x => revD x
def rRevB (K : Fr) : V → Hp → VK → Prop := fun x H Q => (∃ a xs, x = .ref a ∧ SqL K H a xs ∧ ∀ p, H p = none → Q (.ref p) (upd H p (.lst xs.reverse))) ∨ (∃ t : List Char, x = .str (enc t) ∧ t.length ≤ big ∧ Q (.str (enc t.reverse)) H) ∨ ∃ a xs, x = .ref a ∧ SqT K H a xs ∧ ∀ p, H p = none → Q (.ref p) (upd H p (.tup xs.reverse))
theorem pe_revB {te : TE} {k : Nat} {p1 p2 p3 : Pos} (he : PE X e te) : PE X (.Subscript e (.Slice none none (some (.UnaryOp .USub (.Constant (.int 1) k p1) p2)) p3) pos) (tUn (rRevB X.K) te) := by
  refine ⟨fun pins s σ H Q I h => ?_⟩
  refine Subscript_ (thn (he.run pins s σ H _ I h) fun v s1 ⟨x, H1, I1, r1, q1⟩ => ?_)
  have hst : PO X (some (.UnaryOp .USub (.Constant (.int 1) k p1) p2)) (tPart (tUn (rU fun i => .int (-i)) (tC (.int 1)))) := po_some (pe_un un_neg pe_int)
  refine wpAny_Slice (thn (po_none.run pins s1 σ H1 (fun o H2 => o = none ∧ H2 = H1) I1 ⟨rfl, rfl⟩) fun vl s2 ⟨l, H2, I2, pl, el, e2⟩ => ?_)
  subst el e2
  refine thn (po_none.run pins s2 σ H2 (fun o H3 => o = none ∧ H3 = H2) I2 ⟨rfl, rfl⟩) fun vu s3 ⟨u, H3, I3, pu, eu, e3⟩ => ?_
  subst eu e3
  refine thn (hst.run pins s3 σ H3 (fun o H4 => o = some (-1) ∧ H4 = H3) I3 ⟨1, rfl, -1, rfl, rfl, rfl⟩) fun vs s4 ⟨o, H4, I4, ps, eo, e4⟩ => ?_
  subst eo e4
  have I5 : L2.Inv X pins σ H4 { s4 with heap := s4.heap.push { cls := .type "slice", data := .fields #[vl, vu, vs] } } := I4.kept (t' := s4.toks) fun b ob q => Heap.get?_push_of_some _ q
  rcases q1 with ⟨a, xs, ex, hx, q⟩ | ⟨t, ex, hz, q⟩ | ⟨a, xs, ex, hx, q⟩
  rotate_left 2
  · subst ex
    cases r1
    obtain ⟨its, r, ht, hz⟩ := I5.tuple hx
    have hlen := r.length
    show wpAny (model X.prog X.w) X.A (subscriptTail e (.Slice none none (some (.UnaryOp .USub (.Constant (.int 1) k p1) p2)) p3) (.ref a) (.ref s4.heap.objs.size)) (EP X pins σ Q) X.xe { s4 with heap := s4.heap.push { cls := .type "slice", data := .fields #[vl, vu, vs] } }
    refine tail_any (ops := [.ref a, .ref s4.heap.objs.size]) ht.typeIs (PyProof.Rows.slot_tuple_getitem.lookup) ?_ (by with_unfolding_all rfl)
    refine HT.getItem_tuple_rev ht (Heap.IsSliceOf.new _ vl vu vs) pl pu ps ?_ (by rw [List.size_toArray]; omega)
    refine ⟨.ref _, _, I5.laid (t' := s4.toks) (o := .tup xs.reverse) (fun b ob q => Heap.get?_push_of_some _ q) (Nat.le_refl _) ?_, rfl, q _ (I5.hok.fresh (Nat.le_refl _))⟩
    exact ⟨by rw [List.length_reverse]; exact hz, _, r.reverse, IsTup.new _ _⟩
  · subst ex
    cases r1
    obtain ⟨its, r, ht, hz⟩ := I5.list hx
    have hlen := r.length
    show wpAny (model X.prog X.w) X.A (subscriptTail e (.Slice none none (some (.UnaryOp .USub (.Constant (.int 1) k p1) p2)) p3) (.ref a) (.ref s4.heap.objs.size)) (EP X pins σ Q) X.xe { s4 with heap := s4.heap.push { cls := .type "slice", data := .fields #[vl, vu, vs] } }
    refine tail_any (ops := [.ref a, .ref s4.heap.objs.size]) ht.isList.typeIs (PySem.slot_list_getitem.lookup) ?_ (by with_unfolding_all rfl)
    refine wpAny_getItem_list_slice ht.isList (Heap.IsSliceOf.new _ vl vu vs) pl pu ps (by decide) ?_ (by rw [List.size_toArray]; omega)
    rw [PySem.W.krv_pick]
    refine ⟨.ref _, _, I5.laid (t' := s4.toks) (o := .lst xs.reverse) (fun b ob q => Heap.get?_push_of_some _ q) (Nat.le_refl _) ?_, rfl, q _ (I5.hok.fresh (Nat.le_refl _))⟩
    exact ⟨by rw [List.length_reverse]; exact hz, _, 0, r.reverse, Heap.get?_push_size _ rfl⟩
  · subst ex
    obtain ⟨tk, rfl⟩ := r1
    obtain ⟨l, rfl, hl⟩ := IsPart.raw pl
    obtain ⟨u, rfl, hu⟩ := IsPart.raw pu
    obtain ⟨st, rfl, hs⟩ := IsPart.raw ps
    have el : l = none := by cases l <;> first | rfl | cases hl
    have eu : u = none := by cases u <;> first | rfl | cases hu
    subst el eu
    show wpAny (model X.prog X.w) X.A (subscriptTail e (.Slice none none (some (.UnaryOp .USub (.Constant (.int 1) k p1) p2)) p3) (.str (enc t) tk) (.ref s4.heap.objs.size)) (EP X pins σ Q) X.xe { s4 with heap := s4.heap.push { cls := .type "slice", data := .fields #[partValue none, partValue none, partValue st] } }
    refine tail_any (ops := [.str (enc t) tk, .ref s4.heap.objs.size]) (typeIs_str _ _ _) (F.slot_str_getitem.lookup) ?_ (by with_unfolding_all rfl)
    refine wpAny_getItem_str_slice (l := none) (u := none) (st := st) ⟨_, Heap.get?_push_size _ rfl, rfl, rfl⟩ (by rw [hs]; rfl) ?_
    unfold sliceMade slicePicked
    rw [hs]
    show Made.post (if ((-1 : Int) == 1 && _) = true then _ else Made.str ⟨((Builtin.Str.strSliceIndices none none (-1) (enc t).length).filterMap ((enc t).cps[·]?)).toArray⟩) _ _
    rw [if_neg (by simp), str_rev]
    exact ⟨by show (enc t.reverse).length ≤ sizeLine; rw [enc_length, List.length_reverse]; exact big_ge hz, .str _, H4, I5.tok _, ⟨_, rfl⟩, q⟩
theorem p_revT {k : Nat} {p1 p2 p3 : Pos} (he : PE X e (LE false X.K fa)) : PE X (.Subscript e (.Slice none none (some (.UnaryOp .USub (.Constant (.int 1) k p1) p2)) p3) pos) (LE false X.K (ev1 revT fa)) := by
  refine (pe_revB he).imp fun σ H Q h => ?_
  have z := lift1 h
  obtain ⟨δ, M, F, μ, x, M', S, R, e0, k⟩ := z
  refine ⟨δ, M, F, μ, x, M', S, R, e0, fun F1 μ1 H1 v1 st1 S1 r1 => ?_⟩
  obtain ⟨F3, x3, d, sb, rx, hp3, q⟩ := k F1 μ1 H1 v1 st1 S1 r1
  cases x3 with
  | str t =>
    cases hp3
    obtain ⟨rfl, hl⟩ := repT_str rx
    exact .inr (.inl ⟨t, rfl, hl, postSame sb q (.str _ (by rw [List.length_reverse]; exact hl))⟩)
  | lst l =>
    cases hp3
    obtain ⟨a, as, rfl, ha, ra, la⟩ := repT_lst sb rx
    exact .inl ⟨a, as, rfl, SqL.of ha, fun p hp => postLst sb q (by rw [List.length_reverse]; exact la) ra.reverse hp⟩
  | tup l =>
    cases hp3
    obtain ⟨_, a, as, rfl, ha, ra, la⟩ := repT_tup rx
    exact .inr (.inr ⟨a, as, rfl, sb.sqT ha, fun p hp => postTup sb q (by rw [List.length_reverse]; exact la) ra.reverse hp⟩)
  | _ => cases hp3
end
end DL
end P_DLr
section P_DLw
set_option Elab.async false
set_option linter.all false
set_option maxRecDepth 100000
set_option maxHeartbeats 4000000
/-! a list comprehension of two fors. -/
namespace DL
open PySem PySem.Spec PyProof.Rows L2
def compLoop2 (b : D → Mem → Res (List D)) : List D → Mem → Res (List D)
  | [], M => .ok [] M
  | x :: xs, M => (b x M).bind fun ys M1 => (compLoop2 b xs M1).bind fun zs M2 => .ok (ys ++ zs) M2
def evBlk2 (own own1 : List Nat) (t : Tg) (fifs : Sl → Mem → Res Bool) (fI1 : Sl → Mem → Res (List D)) (t1 : Tg) (fifs1 : Sl → Mem → Res Bool) (fa : Sl → Mem → Res Val) (s : Sl) : D → Mem → Res (List D) := fun x M' => match bindTg t x (wipeS s own) with
  | some s' => (fifs s' M').bind fun b M2 => if b then (fI1 s' M2).bind fun ys M3 => compLoop (evBlk own1 t1 fifs1 fa s') ys M3 else .ok [] M2
  | none => .bad
def evLc2 (own own1 : List Nat) (t : Tg) (fI : Sl → Mem → Res (List D)) (fifs : Sl → Mem → Res Bool) (t1 : Tg) (fI1 : Sl → Mem → Res (List D)) (fifs1 : Sl → Mem → Res Bool) (fa : Sl → Mem → Res Val) : Sl → Mem → Res Val := fun s M => (fI s M).bind fun xs M1 =>
  (compLoop2 (evBlk2 own own1 t fifs fI1 t1 fifs1 fa s) xs M1).bind fun ys M2 => if ys.length ≤ big then .ok (.d (.lst ys)) M2 else .bad
section
variable {fa : Sl → Mem → Res Val}
theorem liftLc2 {K : Fr} {own own1 o o1 : List Nat} {t t1 : Tg} {fI fI1 : Sl → Mem → Res (List D)} {fifs fifs1 : Sl → Mem → Res Bool} {σ : L2.St} {H : Hp} {Q : VK} (ho : ∀ i ∈ o, i ∈ own) (ho1 : ∀ i ∈ o1, i ∈ own1) (h : LE true K (evLc2 own own1 t fI fifs t1 fI1 fifs1 fa) σ H Q) :
    tLc2 (LI K fI) (LG K t o) (LT K fifs) (LI K fI1) (LG K t1 o1) (LT K fifs1) (LE false K fa) own own1 σ H Q := by
  obtain ⟨δ, M, F, μ, x, M', S, R, e0, k⟩ := h
  obtain ⟨xs, M1, e1, e0⟩ := bind_ok e0
  obtain ⟨rs, M2', e2, e0⟩ := bind_ok e0
  split at e0
  case isFalse => cases e0
  rename_i hbig
  cases e0
  have hbig : rs.length ≤ 16777216 := hbig
  refine ⟨δ, M, F, μ, xs, M1, S, R, e1, fun F1 μ1 H1 J st1 S1 its D hD => ?_⟩
  have R1 := R.mono st1.fr st1.whole
  have F1D : F1 D = none := by
    cases q : F1 D with
    | none => rfl
    | some u => rw [S1.sub D u q] at hD; cases hD
  refine ⟨fun i m Hi => m = xs.length - i ∧ i ≤ xs.length ∧ ∃ Fi μi Mi ys zs acc, StepE F1 μ1 H1 Fi μi Hi ∧ Sim K Fi μi Mi Hi ∧ Hi D = some (.lst acc) ∧ Fi D = none ∧ D ∉ μi ∧ Reps K Fi ys acc ∧ rs = ys ++ zs ∧ compLoop2 (evBlk2 own own1 t fifs fI1 t1 fifs1 fa δ) (xs.drop i) Mi = .ok zs M',
    ⟨xs.length, rfl, Nat.zero_le _, F1, μ1, M1, [], rs, [], (Step.refl _ _ _ _).updNew hD _, S1.updNew F1D (fun z => S1.tracked z hD) _, upd_same, F1D, fun z => S1.tracked z hD, .nil, rfl, e2⟩, ?_⟩
  rintro i m Hi ⟨rfl, hi, Fi, μi, Mi, ys, zs, acc, st, Si, hacc, FD, mD, ra, hrs, hrun⟩
  by_cases hlt : i < xs.length
  · refine .inr ⟨its.goes i Hi hlt (st.fr.trans Si.sub), fun H' => ∃ Fi μi Mi ys zs acc, StepE F1 μ1 H1 Fi μi H' ∧ Sim K Fi μi Mi H' ∧ H' D = some (.lst acc) ∧ Fi D = none ∧ D ∉ μi ∧ Reps K Fi ys acc ∧ rs = ys ++ zs ∧ compLoop2 (evBlk2 own own1 t fifs fI1 t1 fifs1 fa δ) (xs.drop (i + 1)) Mi = .ok zs M', fun H' p' => ⟨xs.length - (i + 1), by omega, rfl, hlt, p'⟩, fun v H2 hy => ?_⟩
    have hx : xs[i]? = some xs[i] := List.getElem?_eq_getElem hlt
    rw [List.drop_eq_getElem_cons hlt] at hrun
    unfold compLoop2 at hrun
    obtain ⟨oy, M3, e3, hrun⟩ := bind_ok hrun
    obtain ⟨zs', M4, e4, hrun⟩ := bind_ok hrun
    cases hrun
    obtain ⟨F2, nf, rx⟩ := its.yields i Hi v H2 xs[i] Fi hx st.fr Si.sub hy
    have st2 : StepE Fi μi Hi F2 μi H2 := nf.step
    have S2 := nf.sim Si
    obtain ⟨hacc2, FD2, mD2⟩ := st2.apart S2.sub hacc FD mD
    unfold evBlk2 at e3
    cases hb : bindTg t xs[i] (wipeS δ own) with
    | none => simp only [hb] at e3; cases e3
    | some δ' =>
      simp only [hb] at e3
      obtain ⟨b, M5, e5, e3⟩ := bind_ok e3
      have Rw : RepS K F2 μi (wipeS δ own) (wipe σ own) := ((R1.mono st.fr st.whole).mono st2.fr st2.whole).wipe own
      refine ⟨wipeS δ own, F2, μi, xs[i], δ', Rw, rx, S2.sub, hb, fun σ2 R2 l2 s2 => ⟨wipe_same (by rw [l2, wipe_length]) fun j hj => s2 j fun z => hj (ho j z), ?_⟩⟩
      refine ⟨δ', Mi, F2, μi, b, M5, S2, R2, e5, fun F5 μ5 H5 st5 S5 => ?_⟩
      obtain ⟨hacc5, FD5, mD5⟩ := st5.apart S5.sub hacc2 FD2 mD2
      have r5 : Reps K F5 ys acc := Reps.mono (st2.fr.trans st5.fr) ra
      have stt := (Step.transE st (Step.transE st2 st5))
      have R5 := R2.mono st5.fr st5.whole
      cases b with
      | false =>
        rw [if_neg Bool.false_ne_true] at e3 ⊢
        cases e3
        exact ⟨F5, μ5, _, ys, zs', acc, stt, S5, hacc5, FD5, mD5, r5, hrs, e4⟩
      | true =>
        rw [if_pos rfl] at e3 ⊢
        obtain ⟨us, M6, e6, e3⟩ := bind_ok e3
        refine ⟨δ', M5, F5, μ5, us, M6, S5, R5, e6, fun F6 μ6 H6 J1 st6 S6 its1 => ?_⟩
        obtain ⟨hacc6, FD6, mD6⟩ := st6.apart S6.sub hacc5 FD5 mD5
        have R6 := R5.mono st6.fr st6.whole
        refine ⟨fun j k Hj => k = us.length - j ∧ j ≤ us.length ∧ ∃ Fj μj Mj ys1 zs1 acc1, (Sub F6 Fj ∧ RepS K Fj μj δ' σ2) ∧ Sim K Fj μj Mj Hj ∧ Hj D = some (.lst acc1) ∧ Fj D = none ∧ D ∉ μj ∧ Reps K Fj (ys ++ ys1) acc1 ∧ oy = ys1 ++ zs1 ∧ compLoop (evBlk own1 t1 fifs1 fa δ') (us.drop j) Mj = .ok zs1 M3 ∧ StepE F1 μ1 H1 Fj μj Hj,
          ⟨us.length, rfl, Nat.zero_le _, F6, μ6, M6, [], oy, acc, ⟨Sub.refl _, R6⟩, S6, hacc6, FD6, mD6, by rw [List.append_nil]; exact Reps.mono st6.fr r5, rfl, e3, stt.transE st6⟩, ?_⟩
        rintro j kk Hj ⟨rfl, hj, Fj, μj, Mj, ys1, zs1, acc1, ⟨frj, Rj⟩, Sj, haccj, FDj, mDj, rj, hoy, hrunj, sttj⟩
        by_cases hltj : j < us.length
        · refine .inr ⟨its1.goes j Hj hltj (frj.trans Sj.sub), fun H' => ∃ Fj μj Mj ys1 zs1 acc1, (Sub F6 Fj ∧ RepS K Fj μj δ' σ2) ∧ Sim K Fj μj Mj H' ∧ H' D = some (.lst acc1) ∧ Fj D = none ∧ D ∉ μj ∧ Reps K Fj (ys ++ ys1) acc1 ∧ oy = ys1 ++ zs1 ∧ compLoop (evBlk own1 t1 fifs1 fa δ') (us.drop (j + 1)) Mj = .ok zs1 M3 ∧ StepE F1 μ1 H1 Fj μj H', fun H' p' => ⟨us.length - (j + 1), by omega, rfl, hltj, p'⟩, fun v1 H7 hy1 => ?_⟩
          have hx1 : us[j]? = some us[j] := List.getElem?_eq_getElem hltj
          rw [List.drop_eq_getElem_cons hltj] at hrunj
          unfold compLoop at hrunj
          obtain ⟨oz, M8, e8, hrunj⟩ := bind_ok hrunj
          obtain ⟨zs2, M9, e9, hrunj⟩ := bind_ok hrunj
          obtain ⟨F7, nf7, rx7⟩ := its1.yields j Hj v1 H7 us[j] Fj hx1 frj Sj.sub hy1
          have st7 : StepE Fj μj Hj F7 μj H7 := nf7.step
          have S7 := nf7.sim Sj
          obtain ⟨hacc7, FD7, mD7⟩ := st7.apart S7.sub haccj FDj mDj
          unfold evBlk at e8
          cases hb1 : bindTg t1 us[j] (wipeS δ' own1) with
          | none => simp only [hb1] at e8; cases e8
          | some δ'' =>
            simp only [hb1] at e8
            obtain ⟨b1, M10, e10, e8⟩ := bind_ok e8
            have Rw1 : RepS K F7 μj (wipeS δ' own1) (wipe σ2 own1) := (Rj.mono st7.fr st7.whole).wipe own1
            refine ⟨wipeS δ' own1, F7, μj, us[j], δ'', Rw1, rx7, S7.sub, hb1, fun σ3 R3 l3 s3 => ⟨wipe_same (by rw [l3, wipe_length]) fun a ha => s3 a fun z => ha (ho1 a z), ?_⟩⟩
            refine ⟨δ'', Mj, F7, μj, b1, M10, S7, R3, e10, fun F8 μ8 H8 st8 S8 => ?_⟩
            obtain ⟨hacc8, FD8, mD8⟩ := st8.apart S8.sub hacc7 FD7 mD7
            have r8 : Reps K F8 (ys ++ ys1) acc1 := Reps.mono (st7.fr.trans st8.fr) rj
            have fr8 := frj.trans (st7.fr.trans st8.fr)
            have R8 := (Rj.mono st7.fr st7.whole).mono st8.fr st8.whole
            have st18 := (Step.transE sttj (Step.transE st7 st8))
            cases b1 with
            | false =>
              rw [if_neg Bool.false_ne_true] at e8 ⊢
              cases e8
              cases hrunj
              exact ⟨F8, μ8, _, ys1, _, acc1, ⟨fr8, R8⟩, S8, hacc8, FD8, mD8, r8, hoy, e9, st18⟩
            | true =>
              rw [if_pos rfl] at e8 ⊢
              obtain ⟨w, M11, e11, e8⟩ := bind_ok e8
              cases w with
              | ref n => cases e8
              | d y =>
                cases e8
                cases hrunj
                refine ⟨δ'', M10, F8, μ8, .d y, _, S8, R3.mono st8.fr st8.whole, e11, fun F9 μ9 H9 w st9 S9 r9 => ?_⟩
                obtain ⟨hacc9, FD9, mD9⟩ := st9.apart S9.sub hacc8 FD8 mD8
                have hlen : (ys ++ ys1).length < 16777216 := by
                  rw [hrs, hoy] at hbig
                  simp only [List.length_append, List.length_cons] at hbig ⊢
                  omega
                refine ⟨acc1, hacc9, by rw [← r8.length, sizeLine_eq]; exact hlen, F9, μ9, _, ys1 ++ [y], zs2, acc1 ++ [w], ⟨fr8.trans st9.fr, R8.mono st9.fr st9.whole⟩, S9.updNew FD9 mD9 _, upd_same, FD9, mD9, by rw [← List.append_assoc]; exact (Reps.mono st9.fr r8).append (.cons r9 .nil), by rw [hoy, List.append_assoc]; rfl, e9, (st18.transE st9).updNew hD _⟩
        · have e : j = us.length := by omega
          subst e
          rw [List.drop_length] at hrunj
          cases hrunj
          rw [List.append_nil] at hoy
          subst hoy
          refine .inl ⟨its1.stops Hj (frj.trans Sj.sub), Fj, μj, _, ys ++ oy, zs', acc1, sttj, Sj, haccj, FDj, mDj, rj, by rw [hrs, List.append_assoc], e4⟩
  · have e : i = xs.length := by omega
    subst e
    rw [List.drop_length] at hrun
    cases hrun
    rw [List.append_nil] at hrs
    subst hrs
    exact .inl ⟨its.stops Hi (st.fr.trans Si.sub), k Fi μi Hi _ (st1.transE st) Si ⟨D, rs, acc, rfl, rfl, hacc, FD, mD, st1.up D hD, hbig, ra⟩⟩
theorem p_lc2 {X : Cx} {elt tg iter tg1 iter1 : Expr} {pos : Pos} {scope : Scope} {own : List (Str × Nat)} {own1 : List Nat} {ifs ifs1 : List Expr} {o o1 : List Nat} {t t1 : Tg} {fI fI1 : Sl → Mem → Res (List D)} {fifs fifs1 : Sl → Mem → Res Bool}
    (ho : ∀ i ∈ o, i ∈ own.map (·.2)) (ho1 : ∀ i ∈ o1, i ∈ own1) (hv : ∀ i ∈ own1, i ∈ own.map (·.2)) (hN : X.N.Nodup) (hi : PI X tg iter (LI X.K fI)) (ok : BlkOk X.N X.env.scope scope own)
    (hg : ∀ (s : Shared) (H : Hp) (C : Addr) (cl : List (Str × Addr)) (fp : List Addr), PG (X.blk s H scope (compEnvC scope cl C X.env) fp) tg (LG X.K t o)) (ht : ∀ (s : Shared) (H : Hp) (C : Addr) (cl : List (Str × Addr)) (fp : List Addr), PTs (X.blk s H scope (compEnvC scope cl C X.env) fp) ifs (LT X.K fifs))
    (hi1 : ∀ (s : Shared) (H : Hp) (C : Addr) (cl : List (Str × Addr)) (fp : List Addr), PI (X.blk s H scope (compEnvC scope cl C X.env) fp) tg1 iter1 (LI X.K fI1))
    (hg1 : ∀ (s : Shared) (H : Hp) (C : Addr) (cl : List (Str × Addr)) (fp : List Addr), PG (X.blk s H scope (compEnvC scope cl C X.env) fp) tg1 (LG X.K t1 o1)) (ht1 : ∀ (s : Shared) (H : Hp) (C : Addr) (cl : List (Str × Addr)) (fp : List Addr), PTs (X.blk s H scope (compEnvC scope cl C X.env) fp) ifs1 (LT X.K fifs1))
    (he : ∀ (s : Shared) (H : Hp) (C : Addr) (cl : List (Str × Addr)) (fp : List Addr), PE (X.blk s H scope (compEnvC scope cl C X.env) fp) elt (LE false X.K fa)) (hc : X.calm = true := by rfl) (hs : ∀ x, foldedSetIterable iter X.env x = pure x := by intro _; rfl) (hs1 : ∀ env x, foldedSetIterable iter1 env x = pure x := by intro _ _; rfl) :
    PE X (.ListComp elt [⟨tg, iter, ifs, 0⟩, ⟨tg1, iter1, ifs1, 0⟩] scope pos) (LE true X.K (evLc2 (own.map (·.2)) own1 t fI fifs t1 fI1 fifs1 fa)) :=
  (pe_lc2 hc hN hi ok hv hg ht hi1 hg1 ht1 he hs hs1).imp fun _ _ _ h => liftLc2 ho ho1 h
theorem p_setLc2 {X : Cx} {elt tg iter tg1 iter1 : Expr} {pos : Pos} {scope : Scope} {own : List (Str × Nat)} {own1 : List Nat} {bs : Nat} {i : Nat} {y : Str} {py spos : Pos} {ifs ifs1 : List Expr} {o o1 : List Nat} {t t1 : Tg} {fI fI1 : Sl → Mem → Res (List D)} {fifs fifs1 : Sl → Mem → Res Bool}
    (ho : ∀ i ∈ o, i ∈ own.map (·.2)) (ho1 : ∀ i ∈ o1, i ∈ own1) (hv : ∀ i ∈ own1, i ∈ own.map (·.2)) (hN : X.N.Nodup) (hi : PI X tg iter (LI X.K fI)) (ok : BlkOk X.N X.env.scope scope own)
    (hg : ∀ (s : Shared) (H : Hp) (C : Addr) (cl : List (Str × Addr)) (fp : List Addr), PG (X.blk s H scope (compEnvC scope cl C X.env) fp) tg (LG X.K t o)) (ht : ∀ (s : Shared) (H : Hp) (C : Addr) (cl : List (Str × Addr)) (fp : List Addr), PTs (X.blk s H scope (compEnvC scope cl C X.env) fp) ifs (LT X.K fifs))
    (hi1 : ∀ (s : Shared) (H : Hp) (C : Addr) (cl : List (Str × Addr)) (fp : List Addr), PI (X.blk s H scope (compEnvC scope cl C X.env) fp) tg1 iter1 (LI X.K fI1))
    (hg1 : ∀ (s : Shared) (H : Hp) (C : Addr) (cl : List (Str × Addr)) (fp : List Addr), PG (X.blk s H scope (compEnvC scope cl C X.env) fp) tg1 (LG X.K t1 o1)) (ht1 : ∀ (s : Shared) (H : Hp) (C : Addr) (cl : List (Str × Addr)) (fp : List Addr), PTs (X.blk s H scope (compEnvC scope cl C X.env) fp) ifs1 (LT X.K fifs1))
    (he : ∀ (s : Shared) (H : Hp) (C : Addr) (cl : List (Str × Addr)) (fp : List Addr), PE (X.blk s H scope (compEnvC scope cl C X.env) fp) elt (LE false X.K fa)) (hy : X.N[i]? = some y := by rfl) (hyl : X.env.scope.names.lookup y = some .local := by rfl)
    (hsw : swapsWith (.ListComp elt [⟨tg, iter, ifs, 0⟩, ⟨tg1, iter1, ifs1, 0⟩] scope pos) (some (.Name y py)) spos.line X.env = pure true := by rfl) (hc : X.calm = true := by rfl) (hs : ∀ x, foldedSetIterable iter X.env x = pure x := by intro _; rfl) (hs1 : ∀ env x, foldedSetIterable iter1 env x = pure x := by intro _ _; rfl) :
    PS X (.Assign [.Name y py] (.ListComp elt [⟨tg, iter, ifs, 0⟩, ⟨tg1, iter1, ifs1, 0⟩] scope pos) spos) (LS bs X.K (evAsg (evLc2 (own.map (·.2)) own1 t fI fifs t1 fI1 fifs1 fa) (stN i))) :=
  (ps_setLc2 hc hN hy hyl hsw hi ok hv hg ht hi1 hg1 ht1 he hs hs1).imp fun _ _ _ h => liftLc2 ho ho1 (LE_frozen (liftAsgN h))
theorem p_setLc2N {X : Cx} {elt tg iter tg1 iter1 : Expr} {pos : Pos} {scope : Scope} {own : List (Str × Nat)} {own1 : List Nat} {bs : Nat} {i : Nat} {y : Str} {py spos : Pos} {ifs ifs1 : List Expr} {o o1 : List Nat} {t t1 : Tg} {fI fI1 : Sl → Mem → Res (List D)} {fifs fifs1 : Sl → Mem → Res Bool}
    (ho : ∀ i ∈ o, i ∈ own.map (·.2)) (ho1 : ∀ i ∈ o1, i ∈ own1) (hv : ∀ i ∈ own1, i ∈ own.map (·.2)) (hN : X.N.Nodup) (hi : PI X tg iter (LI X.K fI)) (ok : BlkOk X.N X.env.scope scope own)
    (hg : ∀ (s : Shared) (H : Hp) (C : Addr) (cl : List (Str × Addr)) (fp : List Addr), PG (X.blk s H scope (compEnvC scope cl C X.env) fp) tg (LG X.K t o)) (ht : ∀ (s : Shared) (H : Hp) (C : Addr) (cl : List (Str × Addr)) (fp : List Addr), PTs (X.blk s H scope (compEnvC scope cl C X.env) fp) ifs (LT X.K fifs))
    (hi1 : ∀ (s : Shared) (H : Hp) (C : Addr) (cl : List (Str × Addr)) (fp : List Addr), PI (X.blk s H scope (compEnvC scope cl C X.env) fp) tg1 iter1 (LI X.K fI1))
    (hg1 : ∀ (s : Shared) (H : Hp) (C : Addr) (cl : List (Str × Addr)) (fp : List Addr), PG (X.blk s H scope (compEnvC scope cl C X.env) fp) tg1 (LG X.K t1 o1)) (ht1 : ∀ (s : Shared) (H : Hp) (C : Addr) (cl : List (Str × Addr)) (fp : List Addr), PTs (X.blk s H scope (compEnvC scope cl C X.env) fp) ifs1 (LT X.K fifs1))
    (he : ∀ (s : Shared) (H : Hp) (C : Addr) (cl : List (Str × Addr)) (fp : List Addr), PE (X.blk s H scope (compEnvC scope cl C X.env) fp) elt (LE false X.K fa)) (hy : X.N[i]? = some y := by rfl) (hyl : X.env.scope.names.lookup y = some .local := by rfl)
    (hsw : swapsWith (.ListComp elt [⟨tg, iter, ifs, 0⟩, ⟨tg1, iter1, ifs1, 0⟩] scope pos) (some (.Name y py)) spos.line X.env = pure true := by rfl) (hc : X.calm = true := by rfl) (hs : ∀ x, foldedSetIterable iter X.env x = pure x := by intro _; rfl) (hs1 : ∀ env x, foldedSetIterable iter1 env x = pure x := by intro _ _; rfl) :
    PS X (.Assign [.Name y py] (.ListComp elt [⟨tg, iter, ifs, 0⟩, ⟨tg1, iter1, ifs1, 0⟩] scope pos) spos) (LS bs X.K (evAsg (newOf (evLc2 (own.map (·.2)) own1 t fI fifs t1 fI1 fifs1 fa)) (stN i))) :=
  (ps_setLc2 hc hN hy hyl hsw hi ok hv hg ht hi1 hg1 ht1 he hs hs1).imp fun _ _ _ h => liftLc2 ho ho1 (LE_newed (liftAsgN h))
end
end DL
end P_DLw
section P_DL12z
set_option Elab.async false
set_option linter.all false
set_option maxRecDepth 100000
/-! rules for zip, enumerate of a tuple, a tuple the other way round. -/
namespace DL
variable {fa fb : Sl → Mem → Res Val} {s : Sl} {M : Mem}
@[simp] theorem revT_tup (l : List D) : revT (.tup l) = some (.tup l.reverse) := eqr rfl
@[simp] theorem itemsT_tup (l : List D) : itemsT (.tup l) = some l := eqr rfl
theorem evEnmT_ap : evEnmT fa s M = (fa s M).bind fun v M1 => (match v with
  | .d x => Res.of ((itemsT x).map (enumFrom 0)) M1
  | _ => .bad) := rfl
def kEnmT (P : List D → Mem → Prop) : KV := fun v M => match v with | .d x => (match itemsT x with | some l => P (enumFrom 0 l) M | none => False) | _ => False
@[simp] theorem kEnmT_tup (l : List D) (P : List D → Mem → Prop) : kEnmT P (.d (.tup l)) M = P (enumFrom 0 l) M := eqr rfl
@[simp] theorem Ev_enmT (P : List D → Mem → Prop) : Ev (evEnmT fa s M) P = Ev (fa s M) (kEnmT P) := by
  rw [evEnmT_ap, Ev_bind]
  refine congrArg (Ev _) (funext fun v => funext fun M => ?_)
  cases v with
  | ref n => exact Ev_bad _
  | d x => show Ev (Res.of _ _) P = _; rw [Ev_of]; unfold kEnmT; cases h : itemsT x <;> simp [h]
def kZip2 (v : Val) (P : List D → Mem → Prop) : KV := fun w M => match v, w with
  | .d (.lst xs), .d (.lst ys) => P (zipD xs ys) M
  | .d (.tup xs), .d (.tup ys) => P (zipD xs ys) M
  | _, _ => False
@[simp] theorem kZip2_tup (xs ys : List D) (P : List D → Mem → Prop) : kZip2 (.d (.tup xs)) P (.d (.tup ys)) M = P (zipD xs ys) M := eqr rfl
@[simp] theorem kZip2_lst (xs ys : List D) (P : List D → Mem → Prop) : kZip2 (.d (.lst xs)) P (.d (.lst ys)) M = P (zipD xs ys) M := eqr rfl
def kZip (fb : Sl → Mem → Res Val) (s : Sl) (P : List D → Mem → Prop) : KV := fun v M => Ev (fb s M) (kZip2 v P)
@[simp] theorem kZip_ap (v : Val) (P : List D → Mem → Prop) : kZip fb s P v M = Ev (fb s M) (kZip2 v P) := eqr rfl
@[simp] theorem Ev_zip (P : List D → Mem → Prop) : Ev (evZip fa fb s M) P = Ev (fa s M) (kZip fb s P) := by
  unfold evZip
  rw [Ev_bind]
  refine congrArg (Ev _) (funext fun v => funext fun M1 => ?_)
  rw [Ev_bind]
  refine congrArg (Ev _) (funext fun w => funext fun M2 => ?_)
  unfold kZip2
  split <;> simp
end DL
end P_DL12z
section P_DL12c
set_option Elab.async false
set_option linter.all false
set_option maxRecDepth 100000
/-! The rules for DLdc's forms. -/
namespace DL
section
variable {fk fv : Sl → Mem → Res Val} {s : Sl} {M : Mem}
@[simp] theorem eqC_int (i j : Int) : eqC (.int i) (.int j) = some (.bl (i == j)) := eqr rfl
@[simp] theorem eqC_str (i j : List Char) : eqC (.str i) (.str j) = some (.bl (i == j)) := eqr rfl
@[simp] theorem tupSD_str (t : List Char) : tupSD [.str t] = some (.tup (t.map fun c => .str [c])) := eqr rfl
def kDi2 (u : Val) (P : KV) : KV := fun w M => match u, w with
  | .d (.str k), .d (.int i) => P (.d (.dic [(.str k, .int i)])) M
  | _, _ => False
@[simp] theorem kDi2_ap (t : List Char) (i : Int) (P : KV) : kDi2 (.d (.str t)) P (.d (.int i)) M = P (.d (.dic [(.str t, .int i)])) M := eqr rfl
def kDi (fv : Sl → Mem → Res Val) (s : Sl) (P : KV) : KV := fun u M => Ev (fv s M) (kDi2 u P)
@[simp] theorem kDi_ap (u : Val) (P : KV) : kDi fv s P u M = Ev (fv s M) (kDi2 u P) := eqr rfl
@[simp] theorem Ev_dic1 (P : KV) : Ev (evDic1 fk fv s M) P = Ev (fk s M) (kDi fv s P) := by
  show Ev ((fk s M).bind fun u M1 => (fv s M1).bind fun w M2 => match u, w with
    | .d (.str k), .d (.int i) => .ok (.d (.dic [(.str k, .int i)])) M2
    | _, _ => .bad) P = _
  rw [Ev_bind]
  refine congrArg (Ev _) (funext fun u => funext fun M1 => ?_)
  rw [Ev_bind]
  refine congrArg (Ev _) (funext fun w => funext fun M2 => ?_)
  unfold kDi2
  split
  · exact Ev_ok _ _ _
  · exact Ev_bad _
end
end DL
end P_DL12c
section P_K02M
set_option Elab.async false
set_option linter.all false
set_option maxRecDepth 100000
namespace K02
open DL
def ch (c : Char) : D := .str [c]
def Well (M : Mem) (n : Nat) : Prop := ∃ a b c : Int, M[n]? = some (.lst [.int a, .int b, .int c])
theorem take_ok {M : Mem} {n : Nat} (w : Well M n) {many : Int} (h1 : 0 < many) (h2 : many < 1073741824) {P : KV}
    (k : ∀ (d : Int) (o : MO), 0 ≤ d → d < many → Well (M.set n o) n → P (.d (.int d)) (M.set n o)) : Ev (g__law_take [.ref n, .d (.int many)] M) P := by
  obtain ⟨a, b, c, hM⟩ := w
  have hs := set_get hM
  have ht := @set_take M n
  unfold g__law_take
  rw [Ev_G2]
  by_cases h : 0 < a
  · simp [hM, hs, ht, at_, h, h1, h2]
    exact k _ _ (Int.emod_nonneg _ (by omega)) (Int.emod_lt_of_pos _ h1) ⟨_, _, _, hs _⟩
  · have m1 : mulOk b (b % 28657 + 40009) = true := mulOk_r (by omega) (by omega) _
    have m2 : mulOk 50023 (c + 1) = true := mulOk_l (by omega) (by omega) _
    simp [hM, hs, ht, at_, h, h1, h2, m1, m2]
    exact k _ _ (Int.emod_nonneg _ (by omega)) (Int.emod_lt_of_pos _ h1) ⟨_, _, _, hs _⟩
theorem well_loop (S T O : Option Val) (M : Mem) (xs : List Int) (stir : Int) (z : Option Val) {P : KF} (k : ∀ (st : Int) (z' : Option Val), P (.nx [S, T, O, some (.d (.int st)), z']) M) :
    Ev (forLoop l__law_well_1 (.n 4) (xs.map D.int) [S, T, O, some (.d (.int stir)), z] M) P := by
  refine Ev.for (fun xs s M' => (∃ l : List Int, xs = l.map D.int) ∧ ∃ (st : Int) (z' : Option Val), s = [S, T, O, some (.d (.int st)), z'] ∧ M' = M) _ _ _ ⟨⟨xs, rfl⟩, _, _, rfl, rfl⟩ ?_ ?_
  · rintro x xs s M' ⟨⟨l, hl⟩, st, z', rfl, rfl⟩
    cases l with
    | nil => cases hl
    | cons i l =>
      rw [List.map_cons] at hl
      cases hl
      have m3 : mulOk st 45013 = true := mulOk_r (by omega) (by omega) _
      refine ⟨[S, T, O, some (.d (.int st)), some (.d (.int i))], rfl, ?_⟩
      simp [l__law_well_1, m3]
      exact ⟨l, rfl⟩
  · rintro s M' ⟨_, st, z', rfl, rfl⟩
    exact k st z'
theorem well_ok (ns : List Int) {turn : Int} (h0 : 0 ≤ turn) (M : Mem) {P : KV} (k : ∀ a b c : Int, P (.d (.lst [.int a, .int b, .int c])) M) : Ev (g__law_well [.d (.scr (ns.map D.int)), .d (.int turn)] M) P := by
  unfold g__law_well
  rw [Ev_G2]
  have m1 : mulOk 9311 turn = true := mulOk_l (by omega) (by omega) _
  have m2 : mulOk 1013 turn = true := mulOk_l (by omega) (by omega) _
  have c6 : cut (ns.map D.int) none (some 5) = (ns.map D.int).take 5 := cut_take _ (by decide)
  have c3 : sumInts (cut (ns.map D.int) none (some 2)) = some (ns.take 2).sum := by rw [cut_take _ (by decide), ← List.map_take, sumInts_map]; rfl
  have l6 : min 5 ns.length + 1 ≤ big := Nat.le_trans (Nat.succ_le_succ (Nat.min_le_left _ _)) (by decide)
  have big1 : 1 ≤ big := by decide
  have big3 : 3 ≤ big := by decide
  rw [Ev_seq, Ev_asg]
  refine Ev.mid (fun v M' => ∃ own : Int, v = .d (.int own) ∧ M' = M) ?_ ?_
  · by_cases h : turn < ns.length
    · have e : at_ (ns.map D.int) turn = some (.int ns[turn.toNat]) := by
        rw [at_nat _ h0, List.getElem?_map, List.getElem?_eq_getElem (by omega)]; rfl
      simp [h, e]
    · simp [h, m1, c3]
  · rintro _ _ ⟨own, rfl, rfl⟩
    have e6 : (ns.map D.int).take 5 ++ [.int own] = (ns.take 5 ++ [own]).map D.int := by simp
    simp [m2, c6, l6, big1]
    rw [e6]
    refine well_loop _ _ _ _ _ _ _ fun st z' => ?_
    by_cases h2 : own < 0 <;> by_cases h3 : own < 100000000000000000 <;> simp [h2, h3, big3] <;> exact k _ _ _
theorem set2 {M : Mem} {n m : Nat} {o x : MO} (h : M[m]? = some x) (hne : n ≠ m) : (M.set n o)[m]? = some x := by rw [List.getElem?_set_ne hne]; exact h
theorem Well.set {M : Mem} {n m : Nat} {o : MO} (w : Well M n) (h : m ≠ n) : Well (M.set m o) n := by
  obtain ⟨a, b, c, e⟩ := w
  exact ⟨a, b, c, by rw [List.getElem?_set_ne h]; exact e⟩
theorem Well.lt {M : Mem} {n : Nat} (w : Well M n) : n < M.length := by
  obtain ⟨a, b, c, e⟩ := w
  exact (List.getElem?_eq_some_iff.mp e).1
theorem Well.app {M : Mem} {n : Nat} (w : Well M n) (l : Mem) : Well (M ++ l) n := by
  obtain ⟨a, b, c, e⟩ := w
  exact ⟨a, b, c, by rw [List.getElem?_append_left (List.getElem?_eq_some_iff.mp e).1]; exact e⟩
abbrev cols : List Char := ['a', 'b', 'c', 'd', 'e', 'f']
structure Row (r : List Char) : Prop where
  len : r.length ≤ 12
  mem : ∀ c ∈ r, c ∈ cols
theorem text_ok {r : List Char} (h : ∀ c ∈ r, c ∈ cols) (M : Mem) {P : KV} (k : P (.d (.bl true)) M) : Ev (g_is_text_of [.d (.str r), .d (.str ['a', 'b', 'c', 'd', 'e', 'f'])] M) P := by
  unfold g_is_text_of
  rw [Ev_G2]
  simp
  refine Ev.compTrue (fun M' => M' = M) _ _ rfl (fun x hx M' e => ?_) fun ys M' hy e => ?_
  · subst e
    obtain ⟨c, hc, rfl⟩ := List.mem_map.mp hx
    have := h c hc
    simp [e_is_text_of_1]
    simpa using this
  · subst e
    simp [hy]; simpa using k
theorem rowed_ok {r : List Char} (h : Row r) (M : Mem) {P : KV} (k : P (.d (.bl true)) M) : Ev (g_is_rowed [.d (.str r)] M) P := by
  unfold g_is_rowed
  rw [Ev_G1]
  simp
  refine text_ok h.mem M ?_
  have h1 : ¬ ((12 : Int) < r.length) := by have := h.len; omega
  simp [h1]; exact k
theorem check_row_ok {r : List Char} (h : Row r) (M : Mem) {P : KV} (k : P (.d .non) M) : Ev (g_check_row [.d (.str r)] M) P := by
  unfold g_check_row
  rw [Ev_G1]
  simp
  refine rowed_ok h M ?_
  simp; exact k
theorem at_map {α β : Type} (f : α → β) (l : List α) (i : Int) : at_ (l.map f) i = (at_ l i).map f := by
  unfold at_
  rw [List.length_map]
  split
  · rw [List.getElem?_map]
  · split
    · rw [List.getElem?_map]
    · rfl
theorem at_last {α : Type} (l : List α) (x : α) : at_ (l ++ [x]) (-1) = some x := by
  unfold at_
  rw [if_neg (by decide), if_pos (by rw [List.length_append]; simp; omega)]
  have e : (-1 + ((l ++ [x]).length : Int)).toNat = l.length := by rw [List.length_append]; simp; omega
  rw [e]; simp
theorem at_end {α : Type} {l : List α} (h : l ≠ []) : ∃ x, x ∈ l ∧ at_ l (-1) = some x := by
  refine ⟨l.getLast h, List.getLast_mem h, ?_⟩
  have := at_last l.dropLast (l.getLast h)
  rwa [List.dropLast_concat_getLast h] at this

/-! ### the same -/
def Same1 (n : Nat) (x : D) : Prop := ∀ (M : Mem) (P : KV), P (.d (.bl true)) M → Ev (g__law_is n [.d x, .d x] M) P
theorem is_int (n : Nat) (a : Int) : Same1 (n + 1) (.int a) := by
  intro M P k
  rw [g__law_is, Ev_G2]
  simp
  simpa using k
theorem is_str (n : Nat) (a : List Char) : Same1 (n + 1) (.str a) := by
  intro M P k
  rw [g__law_is, Ev_G2]
  simp
  simpa using k
theorem is_non (n : Nat) : Same1 (n + 1) .non := by
  intro M P k
  rw [g__law_is, Ev_G2]
  simp
  simpa using k
theorem is_bl (n : Nat) (b : Bool) : Same1 (n + 1) (.bl b) := by
  intro M P k
  rw [g__law_is, Ev_G2]
  cases b <;> simp <;> simpa using k
theorem is_dic1 (n : Nat) (t : List Char) (i : Int) : Same1 (n + 1) (.dic [(.str t, .int i)]) := by
  intro M P k
  have e : eqC (.dic [(.str t, .int i)]) (.dic [(.str t, .int i)]) = some (.bl true) := by
    show (if dicS _ _ = true then some (D.bl true) else none) = _
    rw [if_pos]
    simp [dicS]
  rw [g__law_is, Ev_G2]
  simp [e]
  simpa using k
theorem mem_enumF {x : D} : ∀ (l : List D) (i : Int), x ∈ enumFrom i l → ∃ (k : Nat) (y : D), x = .tup [.int (i + (k : Int)), y] ∧ l[k]? = some y
  | [], _, h => by cases h
  | y :: l, i, h => by
    rcases List.mem_cons.mp (show x ∈ D.tup [.int i, y] :: enumFrom (i + 1) l from h) with rfl | h
    · exact ⟨0, y, by simp, rfl⟩
    · obtain ⟨k, z, rfl, hz⟩ := mem_enumF l (i + 1) h
      exact ⟨k + 1, z, by rw [show i + 1 + (k : Int) = i + ((k + 1 : Nat) : Int) by omega], hz⟩
theorem mem_enum {x : D} {l : List D} (h : x ∈ enumFrom 0 l) : ∃ (k : Nat) (y : D), x = .tup [.int (k : Int), y] ∧ l[k]? = some y := by
  obtain ⟨k, y, rfl, hy⟩ := mem_enumF l 0 h
  exact ⟨k, y, by rw [Int.zero_add], hy⟩
theorem is_tup (n : Nat) (l : List D) (hs : ∀ x ∈ l, Same1 n x) : Same1 (n + 1) (.tup l) := by
  intro M P k
  rw [g__law_is, Ev_G2]
  simp
  refine Ev.compTrue (fun M' => M' = M) _ _ rfl (fun x hx M' hM' => ?_) ?_
  · subst hM'
    obtain ⟨i, y, rfl, hy⟩ := mem_enum hx
    obtain ⟨hi, rfl⟩ := List.getElem?_eq_some_iff.mp hy
    have e : at_ l (i : Int) = some l[i] := by rw [at_of, List.getElem?_eq_getElem hi]
    simp [e]
    refine hs _ (List.getElem_mem hi) _ _ ?_
    simp
  · rintro ys M' hy rfl
    simp [hy]
    simpa using k
theorem is_lst (n : Nat) (l : List D) (hs : ∀ x ∈ l, Same1 n x) : Same1 (n + 2) (.lst l) := by
  intro M P k
  rw [g__law_is, Ev_G2]
  simp
  refine is_tup n l hs M _ ?_
  simpa using k
theorem Well.self {M : Mem} {n : Nat} (w : Well M n) : ∃ o, M = M.set n o := by
  obtain ⟨a, b, c, e⟩ := w
  obtain ⟨h, e'⟩ := List.getElem?_eq_some_iff.mp e
  exact ⟨.lst [.int a, .int b, .int c], by rw [← e', List.set_getElem_self]⟩
end K02
end P_K02M
section P_K02B
set_option Elab.async false
set_option linter.all false
set_option maxRecDepth 100000
namespace K02
open DL
theorem nd_dups : ∀ l : List Char, l.eraseDups.Nodup
  | [] => by simp
  | c :: l => by
    rw [List.eraseDups_cons, List.nodup_cons]
    refine ⟨fun h => ?_, nd_dups _⟩
    have := (List.mem_filter.mp (List.mem_eraseDups.mp h)).2
    simp at this
termination_by l => l.length
decreasing_by
  have h1 := List.length_filter_le (fun b => !b == c) l
  simp only [List.length_cons]
  omega
theorem dups_in {β : Type} [BEq β] [LawfulBEq β] {m : List β} {x : β} (hx : x ∈ m) : (m ++ [x]).eraseDups = m.eraseDups := by
  rw [List.eraseDups_append]
  have : [x].removeAll m = [] := by show List.filter _ [x] = []; simp [hx]
  rw [this]; simp
theorem dups_out {β : Type} [BEq β] [LawfulBEq β] {m : List β} {x : β} (hx : x ∉ m) : (m ++ [x]).eraseDups = m.eraseDups ++ [x] := by
  rw [List.eraseDups_append]
  have : [x].removeAll m = [x] := by show List.filter _ [x] = [x]; simp [hx]
  rw [this]; rfl
theorem dups_map {β : Type} [BEq β] [LawfulBEq β] {f : Char → β} : ∀ n (l : List Char), l.length = n → (∀ a ∈ l, ∀ b ∈ l, f a = f b → a = b) → (l.map f).eraseDups = l.eraseDups.map f
  | 0, l, h, _ => by rw [List.eq_nil_of_length_eq_zero h]; rfl
  | n + 1, l, h, hf => by
    have hne : l ≠ [] := fun e => by rw [e] at h; cases h
    have e := List.dropLast_concat_getLast hne
    have hm : ∀ a ∈ l.dropLast, a ∈ l := fun a ha => by rw [← e]; exact List.mem_append_left _ ha
    have ih := dups_map n l.dropLast (by rw [List.length_dropLast, h]; rfl) fun a ha b hb => hf a (hm a ha) b (hm b hb)
    rw [← e, List.map_append, List.map_cons, List.map_nil]
    by_cases hx : l.getLast hne ∈ l.dropLast
    · rw [dups_in hx, dups_in (List.mem_map.mpr ⟨_, hx, rfl⟩), ih]
    · rw [dups_out hx, dups_out, ih, List.map_append]
      · rfl
      · intro z
        obtain ⟨y, hy, ey⟩ := List.mem_map.mp z
        exact hx (by rw [← hf y (hm y hy) _ (List.getLast_mem hne) ey]; exact hy)
theorem texts_ch : ∀ l : List Char, texts (l.map ch) = some (l.map fun c => [c])
  | [] => rfl
  | c :: l => by show (texts (l.map ch)).map ([c] :: ·) = _; rw [texts_ch l]; rfl
theorem lens_ch : ∀ l : List Char, lens (l.map fun c => [c]) = l.length
  | [] => rfl
  | c :: l => by show 1 + lens (l.map fun c => [c]) = _; rw [lens_ch l, List.length_cons]; omega
theorem glue_ch : ∀ l : List Char, glue [] (l.map fun c => [c]) = l
  | [] => rfl
  | [c] => rfl
  | c :: d :: l => by show [c] ++ [] ++ glue [] ((d :: l).map fun c => [c]) = _; rw [glue_ch (d :: l)]; rfl
theorem join_ch (l : List Char) (h : l.length ≤ 1000) : joinD [] (l.map ch) = some (.str l) := by
  unfold joinD
  rw [texts_ch]
  show (if lens _ + _ * 0 ≤ big then some (D.str (glue [] _)) else none) = _
  rw [lens_ch, glue_ch, Nat.mul_zero, Nat.add_zero, if_pos (Nat.le_trans h (by decide))]
theorem place_some {α : Type} {p : α → Bool} : ∀ {l : List α}, (∃ x ∈ l, p x = true) → ∃ n, place p l = some n
  | [], ⟨x, hx, _⟩ => by cases hx
  | a :: l, ⟨x, hx, hp⟩ => by
    unfold place
    by_cases ha : p a = true
    · exact ⟨0, by rw [if_pos ha]⟩
    · rw [if_neg ha]
      rcases List.mem_cons.mp hx with rfl | hx
      · exact absurd hp ha
      · obtain ⟨n, e⟩ := place_some ⟨x, hx, hp⟩
        exact ⟨n + 1, by rw [e]; rfl⟩
def fs (row : List Char) (c : Char) : Nat := (place (· == c) row).getD 0
theorem fs_ok {row : List Char} {c : Char} (h : c ∈ row) : place (· == c) row = some (fs row c) ∧ row[fs row c]? = some c ∧ ∀ m, m < fs row c → row[m]? ≠ some c := by
  obtain ⟨n, e⟩ := place_some (p := (· == c)) ⟨c, h, beq_self_eq_true c⟩
  have ef : fs row c = n := by unfold fs; rw [e]; rfl
  rw [ef]
  obtain ⟨h1, h2, h3⟩ := place_spec e
  refine ⟨e, by rw [List.getElem?_eq_getElem h1, eq_of_beq h2], fun m hm hc => ?_⟩
  have hm' : m < row.length := by omega
  rw [List.getElem?_eq_getElem hm'] at hc
  injection hc with hc
  have := h3 m hm' hm
  rw [hc] at this
  simp at this
theorem max_ints : ∀ (x : Nat) (l : List Nat), ∃ m : Nat, bestD (fun a b => ltFlat b a) (.int (x : Int)) (l.map fun (n : Nat) => D.int (n : Int)) = some (.int (m : Int)) ∧ m ∈ x :: l ∧ ∀ y ∈ x :: l, y ≤ m
  | x, [] => ⟨x, rfl, List.mem_cons_self .., fun y hy => by rw [List.mem_singleton.mp hy]; exact Nat.le_refl _⟩
  | x, z :: l => by
    have e : bestD (fun a b => ltFlat b a) (.int (x : Int)) ((z :: l).map fun (n : Nat) => D.int (n : Int)) = if x < z then bestD (fun a b => ltFlat b a) (.int (z : Int)) (l.map fun (n : Nat) => D.int (n : Int)) else bestD (fun a b => ltFlat b a) (.int (x : Int)) (l.map fun (n : Nat) => D.int (n : Int)) := by
      show (match ltFlat (.int (x : Int)) (.int (z : Int)) with | some true => bestD (fun a b => ltFlat b a) (.int (z : Int)) (l.map fun (n : Nat) => D.int (n : Int)) | some false => bestD (fun a b => ltFlat b a) (.int (x : Int)) (l.map fun (n : Nat) => D.int (n : Int)) | none => none) = _
      have e2 : ltFlat (.int (x : Int)) (.int (z : Int)) = some (decide ((x : Int) < z)) := rfl
      rw [e2]
      by_cases h : x < z
      · rw [decide_eq_true (by omega), if_pos h]
      · rw [decide_eq_false (by omega), if_neg h]
    rw [e]
    by_cases h : x < z
    · rw [if_pos h]
      obtain ⟨m, e1, e2, e3⟩ := max_ints z l
      exact ⟨m, e1, List.mem_cons_of_mem _ e2, fun y hy => by
        rcases List.mem_cons.mp hy with rfl | hy
        · have := e3 z (List.mem_cons_self ..); omega
        · exact e3 y hy⟩
    · rw [if_neg h]
      obtain ⟨m, e1, e2, e3⟩ := max_ints x l
      refine ⟨m, e1, ?_, fun y hy => ?_⟩
      · rcases List.mem_cons.mp e2 with rfl | e2
        · exact List.mem_cons_self ..
        · exact List.mem_cons_of_mem _ (List.mem_cons_of_mem _ e2)
      · rcases List.mem_cons.mp hy with rfl | hy
        · exact e3 y (List.mem_cons_self ..)
        · rcases List.mem_cons.mp hy with rfl | hy
          · have := e3 x (List.mem_cons_self ..); omega
          · exact e3 y (List.mem_cons_of_mem _ hy)
theorem dups_len (l : List Char) : l.eraseDups.length ≤ l.length := (nd_dups l).length_le_of_subset fun c hc => List.mem_eraseDups.mp hc
theorem joinKeys_ch (l : List Char) (h : l.length ≤ 1000) : joinKeys [] (l.map ch) = some (.str l.eraseDups) := by
  unfold joinKeys
  rw [texts_ch]
  show (if lens (l.map fun c => [c]).eraseDups + (l.map fun c => [c]).eraseDups.length * 0 ≤ big then some (D.str (glue [] (l.map fun c => [c]).eraseDups)) else none) = _
  rw [dups_map (f := fun c => [c]) _ l rfl (fun a _ b _ e => by simpa using e), lens_ch, glue_ch, Nat.mul_zero, Nat.add_zero, if_pos (Nat.le_trans (Nat.le_trans (dups_len l) h) (by decide))]
theorem colours_by_ok (row : List Char) (h : row.length ≤ 1000) (M : Mem) {P : KV} (k : P (.d (.str row.eraseDups)) M) : Ev (g_colours_by [.d (.str row)] M) P := by
  unfold g_colours_by
  rw [Ev_G1]
  have e := joinKeys_ch row h
  unfold ch at e
  simp
  refine Ev.compMap id _ _ (fun x hx => ?_) ?_
  · obtain ⟨c, _, rfl⟩ := List.mem_map.mp hx
    simp
  · simp [e]; exact k
def nmC (row : List Char) (c : Char) : Char := cols[fs row.eraseDups c]?.getD 'a'
theorem fs_six {row : List Char} (hr : Row row) {c : Char} (hc : c ∈ row) : fs row.eraseDups c < 6 := by
  obtain ⟨_, h, _⟩ := fs_ok (List.mem_eraseDups.mpr hc)
  have h1 := (List.getElem?_eq_some_iff.mp h).1
  have h2 : row.eraseDups.length ≤ cols.length := (nd_dups row).length_le_of_subset fun c hc => hr.mem c (List.mem_eraseDups.mp hc)
  exact Nat.lt_of_lt_of_le h1 h2
theorem nmC_at {row : List Char} (hr : Row row) {c : Char} (hc : c ∈ row) : at_ cols (fs row.eraseDups c : Int) = some (nmC row c) := by
  have h := fs_six hr hc
  rw [at_of]
  unfold nmC
  rw [List.getElem?_eq_getElem (show _ < cols.length from h)]; rfl
theorem nmC_inj {row : List Char} (hr : Row row) : ∀ a ∈ row, ∀ b ∈ row, nmC row a = nmC row b → a = b := by
  intro a ha b hb e
  have h1 := fs_six hr ha
  have h2 := fs_six hr hb
  have key : ∀ i, i < 6 → ∀ j, j < 6 → cols[i]?.getD 'a' = cols[j]?.getD 'a' → i = j := by decide
  have e2 : fs row.eraseDups a = fs row.eraseDups b := key _ h1 _ h2 e
  obtain ⟨_, g1, _⟩ := fs_ok (List.mem_eraseDups.mpr ha)
  obtain ⟨_, g2, _⟩ := fs_ok (List.mem_eraseDups.mpr hb)
  rw [e2, g2] at g1
  exact (Option.some.inj g1).symm
theorem nm_row {row : List Char} (hr : Row row) : Row (row.map (nmC row)) := ⟨by rw [List.length_map]; exact hr.len, fun c hc => by
  obtain ⟨a, ha, rfl⟩ := List.mem_map.mp hc
  have := nmC_at hr ha
  rw [at_of] at this
  exact List.mem_of_getElem? this⟩
def nmD (row : List Char) : D → D
  | .str [c] => .str [nmC row c]
  | y => y
theorem named_ok {row : List Char} (hr : Row row) (M : Mem) {P : KV} (k : P (.d (.str (row.map (nmC row)))) M) : Ev (g_named [.d (.str row)] M) P := by
  unfold g_named
  rw [Ev_G1]
  have hl := hr.len
  simp
  refine check_row_ok hr M ?_
  simp
  unfold g_named_by
  rw [Ev_G1]
  simp
  refine colours_by_ok row (by omega) M ?_
  simp
  refine Ev.compMap (nmD row) _ _ (fun x hx => ?_) ?_
  · obtain ⟨c, hc, rfl⟩ := List.mem_map.mp hx
    obtain ⟨h1, _, _⟩ := fs_ok (List.mem_eraseDups.mpr hc)
    have h2 := nmC_at hr hc
    simp [e_named_by_1, h1]
    have h2' : at_ ['a', 'b', 'c', 'd', 'e', 'f'] (fs row.eraseDups c : Int) = some (nmC row c) := h2
    simp [h2', nmD]
  · have e : (row.map fun c => D.str [c]).map (nmD row) = (row.map (nmC row)).map ch := by rw [List.map_map, List.map_map]; rfl
    have j := join_ch (row.map (nmC row)) (by rw [List.length_map]; omega)
    rw [e]
    simp only [kLc2_ap, kCons_ap, Ev_nil, kCons2_ap]
    simp [-List.map_map, j]; exact k
end K02
end P_K02B
section P_K02N
set_option Elab.async false
set_option linter.all false
set_option maxRecDepth 100000
namespace K02
open DL
def lmD (p : Char × Nat) : D := .tup [.str [p.1], .int (p.2 : Int)]
def lmL (row : List Char) : List D := (rle row).map lmD
theorem lmL_len (row : List Char) : (lmL row).length = L row := by unfold lmL; rw [List.length_map]; exact (rle_len row).1
theorem lmL_le (row : List Char) : (lmL row).length ≤ row.length := by unfold lmL; rw [List.length_map]; exact (rle_le row).1
theorem shal_lm : ∀ l : List (Char × Nat), D.shals 59 (l.map lmD) = true
  | [] => rfl
  | p :: l => by show (true && D.shals 59 (l.map lmD)) = true; rw [shal_lm l]; rfl
theorem ne_nil_lm (l : List (Char × Nat)) : cmpV .ne (.lst (l.map lmD)) (.lst []) = some (.bl (!l.isEmpty)) := by
  show ((if ((false && false) || (D.shals 59 (l.map lmD) && D.shals 59 [])) = true then some (D.eqvs (l.map lmD) []) else none).map (!·)).map D.bl = _
  rw [shal_lm, if_pos (show (false && false || true && D.shals 59 []) = true from rfl)]
  cases l <;> rfl
theorem putLast {α : Type} (a : List α) (x y : α) : (a ++ [x]).set a.length y = a ++ [y] := by simp
theorem sub_lm0 (p : Char × Nat) : subD (lmD p) (.int 0) = some (.str [p.1]) := rfl
theorem sub_lm1 (p : Char × Nat) : subD (lmD p) (.int 1) = some (.int (p.2 : Int)) := rfl
theorem setLast (a : List D) (x y : D) : setD (.lst (a ++ [x])) (.int (-1)) y = some (.lst (a ++ [y])) := by
  show (if 0 ≤ (-1 : Int) ∧ (-1 : Int) < 2 ^ 62 ∧ (-1 : Int).toNat < (a ++ [x]).length then some (MO.lst ((a ++ [x]).set (-1 : Int).toNat y)) else if (-1 : Int) < 0 ∧ -(2 ^ 62) < (-1 : Int) ∧ 0 ≤ -1 + ((a ++ [x]).length : Int) then some (MO.lst ((a ++ [x]).set (-1 + ((a ++ [x]).length : Int)).toNat y)) else none) = _
  rw [if_neg (by omega), if_pos (by rw [List.length_append]; simp; omega)]
  have e : (-1 + ((a ++ [x]).length : Int)).toNat = a.length := by rw [List.length_append]; simp; omega
  rw [e, putLast]
theorem lump_step (S : Option Val) {n : Nat} {M : Mem} {dn : List Char} (hd : dn.length ≤ 12) (c : Char) (hM : M[n]? = some (.lst (lmL dn))) {P : KF} (k : P (.nx [S, some (.ref n), some (.d (.str [c]))]) (M.set n (.lst (lmL (dn ++ [c]))))) :
    Ev (l_lumps_of_1 [S, some (.ref n), some (.d (.str [c]))] M) P := by
  have hb : 2 ≤ big := by decide
  have hb3 : 1000 ≤ big := by decide
  have hl := lmL_le dn
  unfold l_lumps_of_1
  rcases List.eq_nil_or_concat (rle dn) with e | ⟨a, p, e⟩
  · have e2 : lmL dn = [] := by unfold lmL; rw [e]; rfl
    have e3 : lmL (dn ++ [c]) = [lmD (c, 1)] := by unfold lmL; rw [rle_snoc, e]; rfl
    have z : cmpV .ne (.lst []) (.lst []) = some (.bl false) := rfl
    rw [e2] at hM
    rw [e3] at k
    simp [hM, z, hb]
    exact k
  · obtain ⟨d, m⟩ := p
    have e2 : lmL dn = a.map lmD ++ [lmD (d, m)] := by unfold lmL; rw [e]; simp
    have e3 : lmL (dn ++ [c]) = if d = c then a.map lmD ++ [lmD (c, m + 1)] else (a.map lmD ++ [lmD (d, m)]) ++ [lmD (c, 1)] := by
      unfold lmL; rw [rle_snoc, e, List.concat_eq_append, stp_snoc]; split <;> simp
    have z := ne_nil_lm (rle dn)
    have z2 : ((rle dn).map lmD) = a.map lmD ++ [lmD (d, m)] := e2
    rw [z2, e] at z
    have z3 : (!(a.concat (d, m)).isEmpty) = true := by simp
    rw [z3] at z
    rw [e2] at hM hl
    have l1 := at_last (a.map lmD) (lmD (d, m))
    have hle : a.length + 1 ≤ 12 := by simp at hl; omega
    by_cases h : d = c
    · rw [if_pos h] at e3
      subst h
      rw [e3] at k
      have sl := setLast (a.map lmD) (lmD (d, m)) (lmD (d, m + 1))
      have el : D.tup [.str [d], .int ((m : Int) + 1)] = lmD (d, m + 1) := rfl
      simp [hM, z, l1, hb, sub_lm0, sub_lm1, el, sl]
      exact k
    · rw [if_neg h] at e3
      rw [e3] at k
      have el : D.tup [.str [c], .int 1] = lmD (c, 1) := rfl
      simp [hM, z, l1, hb, sub_lm0, sub_lm1, el, h]
      rw [if_pos (by omega)]
      simpa using k
theorem set_top (M : Mem) (x y : MO) : (M ++ [x]).set M.length y = M ++ [y] := by simp
theorem lumps_loop (row : List Char) (h : row.length ≤ 12) (M : Mem) {P : KF} (k : ∀ z, P (.nx [some (.d (.str row)), some (.ref M.length), z]) (M ++ [.lst (lmL row)])) :
    Ev (forLoop l_lumps_of_1 (.n 2) (row.map ch) [some (.d (.str row)), some (.ref M.length), none] (M ++ [.lst []])) P := by
  refine Ev.for (fun xs s M' => ∃ (dn rest : List Char) (z : Option Val), row = dn ++ rest ∧ xs = rest.map ch ∧ s = [some (.d (.str row)), some (.ref M.length), z] ∧ M' = M ++ [.lst (lmL dn)]) _ _ _ ⟨[], row, none, rfl, rfl, rfl, rfl⟩ ?_ ?_
  · rintro x xs s M' ⟨dn, rest, z, hr, hx, rfl, rfl⟩
    cases rest with
    | nil => cases hx
    | cons c rest =>
      cases hx
      refine ⟨[some (.d (.str row)), some (.ref M.length), some (.d (.str [c]))], rfl, ?_⟩
      refine lump_step (dn := dn) _ (by rw [hr, List.length_append] at h; omega) c (by simp) ?_
      exact ⟨dn ++ [c], rest, _, by simp [hr], rfl, rfl, set_top _ _ _⟩
  · rintro s M' ⟨dn, rest, z, hr, hx, rfl, rfl⟩
    cases rest with
    | cons c rest => cases hx
    | nil => rw [List.append_nil] at hr; subst hr; exact k _
theorem lumps_of_ok {row : List Char} (h : row.length ≤ 12) (M : Mem) {P : KV} (k : P (.d (.lst (lmL row))) M) : Ev (g_lumps_of [.d (.str row)] M) P := by
  unfold g_lumps_of
  rw [Ev_G1]
  simp
  refine lumps_loop row h M fun z => ?_
  simp
  exact k
theorem law_lumps_ok {row : List Char} (h : row.length ≤ 12) (M : Mem) {P : KV} (k : P (.d (.tup (lmL row))) M) : Ev (g__law_lumps [.d (.str row)] M) P := by
  unfold g__law_lumps
  rw [Ev_G1]
  simp
  refine lumps_loop row h M fun z => ?_
  simp
  exact k
theorem lumps_ok {row : List Char} (h : Row row) (M : Mem) {P : KV} (k : P (.d (.tup (lmL row))) M) : Ev (g_lumps [.d (.str row)] M) P := by
  unfold g_lumps
  rw [Ev_G1]
  simp
  refine check_row_ok h M ?_
  simp
  refine lumps_of_ok h.len M ?_
  simp
  exact k
theorem count_by_ok {row : List Char} (h : row.length ≤ 12) (M : Mem) {P : KV} (k : P (.d (.int (L row : Nat))) M) : Ev (g_lump_count_by [.d (.str row)] M) P := by
  unfold g_lump_count_by
  rw [Ev_G1]
  simp
  refine lumps_of_ok h M ?_
  simp [lmL_len]
  exact k
theorem count_ok {row : List Char} (h : Row row) (M : Mem) {P : KV} (k : P (.d (.int (L row : Nat))) M) : Ev (g_lump_count [.d (.str row)] M) P := by
  unfold g_lump_count
  rw [Ev_G1]
  simp
  refine check_row_ok h M ?_
  simp
  refine count_by_ok h.len M ?_
  simp
  exact k
end K02
end P_K02N
section P_K02R
set_option Elab.async false
set_option linter.all false
set_option maxRecDepth 100000
namespace K02
open DL
/-! ### drawn rows -/
def un : D → Char
  | .str [c] => c
  | _ => 'a'
theorem un_ch : ∀ s : List Char, (s.map ch).map un = s
  | [] => rfl
  | c :: s => by show c :: (s.map ch).map un = _; rw [un_ch s]
theorem sorted_ch (s : List Char) : ∃ l : List Char, l.Perm s ∧ (s.map ch).mergeSort leP = l.map ch := by
  have p := List.mergeSort_perm (s.map ch) leP
  refine ⟨((s.map ch).mergeSort leP).map un, ?_, ?_⟩
  · have := p.map un
    rwa [un_ch] at this
  · rw [List.map_map]
    symm
    have : ∀ x ∈ (s.map ch).mergeSort leP, (ch ∘ un) x = x := fun x hx => by
      obtain ⟨c, _, rfl⟩ := List.mem_map.mp (p.mem_iff.mp hx)
      rfl
    rw [List.map_congr_left this]; exact List.map_id' _
theorem sorted_ok {s : List Char} (h : s.length ≤ 1000) : ∃ l : List Char, l.Perm s ∧ sortedSx [.str s] = some (.lst (l.map ch)) := by
  obtain ⟨l, p, e⟩ := sorted_ch s
  exact ⟨l, p, by
    show (if s.length ≤ 1000 then some (D.lst ((s.map ch).mergeSort leP)) else none) = _
    rw [if_pos h, e]⟩
theorem Well.self' {M : Mem} {n : Nat} (w : Well M n) : ∃ o, M = M.set n o ∧ Well (M.set n o) n := by
  obtain ⟨o, e⟩ := w.self
  exact ⟨o, e, by rw [← e]; exact w⟩
theorem cols_comp {n : Nat} {many : Int} (h1 : 1 ≤ many) (h6 : many ≤ 6) (s1 s2 s3 s5 s6 : Option Val) (xs : List D) {M : Mem} (w : Well M n) {P : List D → Mem → Prop}
    (k : ∀ (cs : List Char) (o : MO), cs.length = xs.length → (∀ c ∈ cs, c ∈ cols) → Well (M.set n o) n → P (cs.map ch) (M.set n o)) :
    Ev (compLoop (evBlk [6] (.n 6) ifs0 e__law_drawn_row_1 [some (.ref n), s1, s2, s3, some (.d (.int many)), s5, s6]) xs M) P := by
  refine (Ev.comp (P := P) (fun ys zs M' => ∃ (cs : List Char) (o : MO), zs = cs.map ch ∧ cs.length + ys.length = xs.length ∧ (∀ c ∈ cs, c ∈ cols) ∧ M' = M.set n o ∧ Well (M.set n o) n) xs [] M ?_ ?_ ?_)
  · obtain ⟨o, e, w'⟩ := w.self'
    exact ⟨[], o, rfl, by simp, by simp, e, w'⟩
  · rintro x ys zs M' ⟨cs, o, rfl, hl, hc, rfl, w'⟩
    simp [e__law_drawn_row_1]
    refine take_ok w' (by omega) (by omega) fun d o2 d0 d1 w2 => ?_
    have dl : d.toNat < cols.length := by show _ < 6; omega
    have e : at_ cols d = some cols[d.toNat] := by rw [at_nat _ d0, List.getElem?_eq_getElem dl]
    have e' : at_ ['a', 'b', 'c', 'd', 'e', 'f'] d = some cols[d.toNat] := e
    simp at w2
    simp [e']
    refine ⟨cs ++ [cols[d.toNat]], by simp [ch], by simp at hl ⊢; omega, fun c hc' => ?_, o2, rfl, w2⟩
    have key : c ∈ cols := by
      rcases List.mem_append.mp hc' with hc' | hc'
      · simpa using hc c hc'
      · rw [List.mem_singleton.mp hc']; exact List.getElem_mem _
    simpa using key
  · rintro zs M' ⟨cs, o, rfl, hl, hc, rfl, w'⟩
    exact k cs o (by simpa using hl) hc w'
theorem rng_len (m : Int) (h0 : 0 ≤ m) (h1 : m ≤ 1000) : ∃ l, rngD [.int m] = some l ∧ l.length = m.toNat := by
  rw [rngD_1, if_pos (by omega)]
  exact ⟨_, rfl, by rw [upto_map, List.length_map, List.length_range]⟩
theorem drawn_row_ok {n : Nat} {M : Mem} (w : Well M n) {most : Int} (h0 : 0 ≤ most) (h1 : most ≤ 12) {P : KV} (k : ∀ (row : List Char) (o : MO), Row row → (row.length : Int) ≤ most → Well (M.set n o) n → P (.d (.str row)) (M.set n o)) :
    Ev (g__law_drawn_row [.ref n, .d (.int most)] M) P := by
  unfold g__law_drawn_row
  rw [Ev_G2]
  have ht := @set_take M n
  have hb : 1000 ≤ big := by decide
  simp
  refine take_ok (many := 6) w (by decide) (by decide) fun way o1 a0 a1 w => ?_
  simp
  refine take_ok (many := most + 1) w (by omega) (by omega) fun size o2 b0 b1 w => ?_
  simp at w
  simp
  refine take_ok (many := 6) w (by decide) (by decide) fun many o3 c0 c1 w => ?_
  simp at w
  obtain ⟨rl, hr, hrl⟩ := rng_len size b0 (by omega)
  simp [-rngD_1, hr]
  refine cols_comp (by omega) (by omega) _ _ _ _ _ rl w fun cs o4 hl hm w => ?_
  simp at w
  have hlen : cs.length = size.toNat := by omega
  have j := join_ch cs (by omega)
  obtain ⟨l, hp, hs⟩ := sorted_ok (s := cs) (by omega)
  have jl := join_ch l (by rw [hp.length_eq]; omega)
  have lm : ∀ c ∈ l, c ∈ cols := fun c hc => hm c (hp.mem_iff.mp hc)
  have ll : l.length = size.toNat := by rw [hp.length_eq]; exact hlen
  simp [j]
  have rr : Row cs := ⟨by omega, hm⟩
  have rl' : Row l := ⟨by omega, lm⟩
  by_cases hw0 : way = 0
  · subst hw0
    simp [hs, jl, ht]
    exact k l o4 rl' (by omega) w
  · by_cases hw1 : way = 1 ∧ 1 < size
    · obtain ⟨rfl, hs1⟩ := hw1
      simp [hs, jl, hs1]
      refine take_ok (many := size) w (by omega) (by omega) fun at' o5 d0 d1 w => ?_
      simp at w
      have rr2 : Row (l.drop at'.toNat ++ l.take at'.toNat) := ⟨by rw [List.length_append, List.length_drop, List.length_take]; omega, fun c hc => by
        rcases List.mem_append.mp hc with hc | hc
        · exact lm c (List.mem_of_mem_drop hc)
        · exact lm c (List.mem_of_mem_take hc)⟩
      simp [cut_take _ d0, cut_drop _ d0, ht]
      exact ⟨by omega, k _ o5 rr2 (by rw [List.length_append, List.length_drop, List.length_take]; omega) w⟩
    · by_cases hw2 : way = 1
      · have hs2 : ¬ 1 < size := fun z => hw1 ⟨hw2, z⟩
        simp [hw0, hw2, hs2, ht]
        exact k cs o4 rr (by omega) w
      · simp [hw0, hw2, ht]
        exact k cs o4 rr (by omega) w
end K02
end P_K02R
section P_K02S
set_option Elab.async false
set_option linter.all false
set_option maxRecDepth 100000
namespace K02
open DL
/-! ### values near to a row -/
inductive Bv : D → Prop
  | str (t : List Char) : Bv (.str t)
  | tup (l : List (List Char)) : Bv (.tup (l.map D.str))
  | lst (l : List (List Char)) : Bv (.lst (l.map D.str))
  | dic (t : List Char) (i : Int) : Bv (.dic [(.str t, .int i)])
  | non : Bv .non
  | int (i : Int) : Bv (.int i)
  | bl (b : Bool) : Bv (.bl b)
  | d0 : Bv (.dic [])
  | t1 : Bv (.tup [.int 1, .non])
  | l1 (i : Int) : Bv (.lst [.int i])
  | t2 (i : Int) : Bv (.tup [.tup [], .lst [.int i]])
theorem same_strs (n : Nat) (l : List (List Char)) : ∀ x ∈ l.map D.str, Same1 (n + 1) x := fun x hx => by
  obtain ⟨t, _, rfl⟩ := List.mem_map.mp hx
  exact is_str n t
theorem is_dic0 (n : Nat) : Same1 (n + 1) (.dic []) := by
  intro M P k
  have e : eqC (.dic []) (.dic []) = some (.bl true) := rfl
  rw [g__law_is, Ev_G2]
  simp [e]
  simpa using k
theorem same_bv {x : D} (h : Bv x) (n : Nat) : Same1 (n + 4) x := by
  cases h with
  | str t => exact is_str _ t
  | tup l => exact is_tup (n + 3) _ (same_strs (n + 2) l)
  | lst l => exact is_lst (n + 2) _ (same_strs (n + 1) l)
  | dic t i => exact is_dic1 _ t i
  | non => exact is_non _
  | int i => exact is_int _ i
  | bl b => exact is_bl _ b
  | d0 => exact is_dic0 _
  | t1 =>
    refine is_tup (n + 3) _ fun x hx => ?_
    simp at hx
    rcases hx with rfl | rfl
    · exact is_int _ 1
    · exact is_non _
  | l1 i =>
    refine is_lst (n + 2) _ fun x hx => ?_
    rw [List.mem_singleton.mp hx]; exact is_int _ i
  | t2 i =>
    refine is_tup (n + 3) _ fun x hx => ?_
    simp at hx
    rcases hx with rfl | rfl
    · exact is_tup (n + 2) _ fun x hx => nomatch hx
    · refine is_lst (n + 1) _ fun x hx => ?_
      rw [List.mem_singleton.mp hx]; exact is_int _ i
def inB (c : Char) : Bool := cols.contains c
def rowedB (s : List Char) : Bool := s.all inB && decide (s.length ≤ 12)
def rowedD : D → Bool
  | .str s => rowedB s
  | _ => false
theorem allBl_map {α : Type} (p : α → Bool) : ∀ l : List α, allBl (l.map fun c => D.bl (p c)) = some (l.all p)
  | [] => rfl
  | c :: l => by
    have ih := allBl_map p l
    simp [allBl, ih]
def inF : D → D
  | .str [c] => .bl (inB c)
  | x => x
theorem is_rowed_bv {x : D} (h : Bv x) (M : Mem) {P : KV} (k : P (.d (.bl (rowedD x))) M) : Ev (g_is_rowed [.d x] M) P := by
  unfold g_is_rowed
  rw [Ev_G1]
  simp
  unfold g_is_text_of
  rw [Ev_G2]
  cases h with
  | str t =>
    simp
    refine Ev.compMap inF _ _ (fun x hx => ?_) ?_
    · obtain ⟨c, _, rfl⟩ := List.mem_map.mp hx
      simp [e_is_text_of_1, inF]
      simp [inB]
    · have e : (t.map fun c => D.str [c]).map inF = t.map fun c => D.bl (inB c) := by rw [List.map_map]; rfl
      have e2 := allBl_map inB t
      rw [e]
      simp [-List.map_map, e2]
      have rd : rowedD (.str t) = (t.all inB && decide (t.length ≤ 12)) := rfl
      by_cases ha : t.all inB = true
      · rw [if_pos (by simpa using ha)]
        rw [rd, ha, Bool.true_and] at k
        have : (!decide ((12 : Int) < (t.length : Int))) = decide (t.length ≤ 12) := by
          rw [Bool.eq_iff_iff]; simp; omega
        rw [this]; exact k
      · rw [if_neg (by simpa using ha)]
        rw [rd, (Bool.not_eq_true _).mp ha, Bool.false_and] at k
        exact k
  | tup l => simp; exact k
  | lst l => simp; exact k
  | dic t i => simp; exact k
  | non => simp; exact k
  | int i => simp; exact k
  | bl b => simp; exact k
  | d0 => simp; exact k
  | t1 => simp; exact k
  | l1 i => simp; exact k
  | t2 i => simp; exact k
def outQ (x : D) : Option D := match x with
  | .str [c] => if inB c then none else some x
  | _ => some x
theorem outQ_map : ∀ t : List Char, (t.map fun c => D.str [c]).filterMap outQ = (t.filter fun c => !inB c).map fun c => D.str [c]
  | [] => rfl
  | c :: t => by
    rw [List.map_cons, List.filterMap_cons, List.filter_cons]
    cases h : inB c with
    | true => rw [show outQ (.str [c]) = none from if_pos h, outQ_map t]; rfl
    | false => rw [show outQ (.str [c]) = some (.str [c]) from if_neg (by rw [h]; decide), outQ_map t]; rfl
theorem eq_nil_strs (l : List Char) : cmpV .eq (.lst (l.map fun c => D.str [c])) (.lst []) = some (.bl l.isEmpty) := by
  have sh : ∀ l : List Char, D.shals 59 (l.map fun c => D.str [c]) = true := fun l => by
    induction l with
    | nil => rfl
    | cons x l ih => show (true && D.shals 59 (l.map fun c => D.str [c])) = true; rw [ih]; rfl
  show (if ((false && false) || (D.shals 59 (l.map fun c => D.str [c]) && D.shals 59 [])) = true then some (D.eqvs (l.map fun c => D.str [c]) []) else none).map D.bl = _
  rw [sh, if_pos (show (false && false || true && D.shals 59 []) = true from rfl)]
  cases l <;> rfl
theorem is_row_bv {x : D} (h : Bv x) (M : Mem) {P : KV} (k : P (.d (.bl (rowedD x))) M) : Ev (g__law_is_row [.d x] M) P := by
  unfold g__law_is_row
  rw [Ev_G1]
  cases h with
  | str t =>
    simp
    by_cases hl : t.length < 13
    · have hl' : ((t.length : Nat) : Int) < 13 := by omega
      simp [hl']
      refine Ev.compFilter outQ _ _ (fun x hx => ?_) ?_
      · obtain ⟨c, _, rfl⟩ := List.mem_map.mp hx
        have q : outQ (.str [c]) = if inB c then none else some (.str [c]) := rfl
        rw [q]
        have e : inB c = cols.contains c := rfl
        cases h : inB c with
        | true =>
          rw [h] at e
          simp [i__law_is_row_1]
          simp at e
          rcases e with rfl | rfl | rfl | rfl | rfl | rfl <;> simp
        | false =>
          rw [h] at e
          simp [i__law_is_row_1]
          simpa using e
      · rw [outQ_map]
        simp [-List.map_map, eq_nil_strs]
        have rd : rowedD (.str t) = (t.filter fun c => !inB c).isEmpty := by
          show (t.all inB && decide (t.length ≤ 12)) = _
          rw [decide_eq_true (show t.length ≤ 12 by omega), Bool.and_true, Bool.eq_iff_iff]
          simp
        rw [rd] at k
        exact k
    · have hl' : ¬ ((t.length : Nat) : Int) < 13 := by omega
      simp [hl']
      have : rowedD (.str t) = false := by show (t.all inB && decide (t.length ≤ 12)) = false; rw [show decide (t.length ≤ 12) = false from decide_eq_false (by omega), Bool.and_false]
      rw [this] at k
      exact k
  | tup l => simp; exact k
  | lst l => simp; exact k
  | dic t i => simp; exact k
  | non => simp; exact k
  | int i => simp; exact k
  | bl b => simp; exact k
  | d0 => simp; exact k
  | t1 => simp; exact k
  | l1 i => simp; exact k
  | t2 i => simp; exact k
theorem pick_ok {M : Mem} {n : Nat} (w : Well M n) {l : List D} (h1 : 0 < l.length) (h2 : l.length < 1000) {P : KV}
    (k : ∀ (x : D) (o : MO), x ∈ l → Well (M.set n o) n → P (.d x) (M.set n o)) : Ev (g__law_pick [.ref n, .d (.lst l)] M) P := by
  unfold g__law_pick
  rw [Ev_G2]
  have ht := @set_take M n
  simp
  refine take_ok w (by omega) (by omega) fun d o d0 d1 w' => ?_
  have e : at_ l d = some l[d.toNat] := by rw [at_nat _ d0, List.getElem?_eq_getElem (by omega)]
  simp [e, ht]
  exact k _ _ (List.getElem_mem _) w'
theorem bent_ok {n : Nat} {M : Mem} (w : Well M n) {row : List Char} (h : Row row) {P : KV} (k : ∀ (x : D) (o : MO), Bv x → Well (M.set n o) n → P (.d x) (M.set n o)) : Ev (g__law_bent_row [.ref n, .d (.str row)] M) P := by
  unfold g__law_bent_row
  rw [Ev_G2]
  have ht := @set_take M n
  have hb : 1000 ≤ big := by decide
  have hl := h.len
  simp
  refine take_ok (many := (row.length : Int) + 1) w (by omega) (by omega) fun at' o1 a0 a1 w => ?_
  have hb7 : 7 ≤ big := by decide
  simp [hb7]
  refine pick_ok w (by simp) (by simp) fun sign o2 hsign w => ?_
  simp at w
  obtain ⟨sg, rfl, hsl⟩ : ∃ sg, sign = .str sg ∧ sg.length ≤ 2 := by
    simp at hsign
    rcases hsign with rfl | rfl | rfl | rfl | rfl | rfl | rfl <;> exact ⟨_, rfl, by decide⟩
  have c128 : ∀ c ∈ row, c.toNat < 128 := fun c hc => (show ∀ c ∈ cols, c.toNat < 128 by decide) c (h.mem c hc)
  have hb8 : 8 ≤ big := by decide
  simp [cut_take _ a0, cut_drop _ a0]
  refine ⟨by omega, by omega, by omega, ⟨by omega, c128⟩, by omega, by omega, by omega, hb8, by omega, hb7, by omega, ?_⟩
  refine pick_ok w (by simp) (by simp) fun x o3 hx w => ?_
  simp at w
  have bx : Bv x := by
    have e1 : (row.map fun c => D.str [c]) = (row.map fun c => [c]).map D.str := by rw [List.map_map]; rfl
    rw [e1] at hx
    simp only [List.mem_cons, List.not_mem_nil, or_false] at hx
    rcases hx with rfl | rfl | rfl | rfl | rfl | rfl | rfl | rfl | rfl | rfl | rfl | rfl | rfl | rfl | rfl
    · exact .str _
    · exact .str _
    · exact .str _
    · exact .tup _
    · exact .lst _
    · exact .tup [row]
    · exact .dic _ _
    · exact .str _
    · exact .non
    · exact .int _
    · exact .bl _
    · exact .str _
    · exact .str _
    · exact .lst [row]
    · exact .int _
  simp [ht]
  exact k x o3 bx w
theorem odd_ok {n : Nat} {M : Mem} (w : Well M n) {P : KV} (k : ∀ (x : D) (o : MO), Bv x → Well (M.set n o) n → P (.d x) (M.set n o)) : Ev (g__law_odd [.ref n] M) P := by
  unfold g__law_odd
  rw [Ev_G1]
  have ht := @set_take M n
  have b16 : 16 ≤ big := by decide
  have b2 : 2 ≤ big := by decide
  have b1 : 1 ≤ big := by decide
  have b0 : 0 ≤ big := by decide
  have d0 : ∀ (s : Sl) (M : Mem), evDic0 s M = .ok (.d (.dic [])) M := fun _ _ => rfl
  simp
  refine take_ok w (by decide) (by decide) fun d o d0' d1 w => ?_
  simp [b16, b2, b1, b0, d0]
  refine ⟨mulOk_l (by decide) (by decide) _, ?_⟩
  refine pick_ok w (by simp) (by simp) fun x o3 hx w => ?_
  have bx : Bv x := by
    simp only [List.mem_cons, List.not_mem_nil, or_false] at hx
    rcases hx with rfl | rfl | rfl | rfl | rfl | rfl | rfl | rfl | rfl | rfl | rfl | rfl | rfl | rfl | rfl | rfl
    · exact .non
    · exact .bl _
    · exact .bl _
    · exact .str _
    · exact .str _
    · exact .tup []
    · exact .t1
    · exact .lst []
    · exact .l1 _
    · exact .d0
    · exact .dic _ _
    · exact .int _
    · exact .int _
    · exact .int _
    · exact .int _
    · exact .t2 _
  simp [ht]
  rw [List.set_set] at w
  exact k x o3 bx w
def Wl (M : Mem) (n : Nat) (M' : Mem) : Prop := Well M' n ∧ ∃ o, M' = M.set n o
theorem Wl.set {M M' : Mem} {n : Nat} (h : Wl M n M') {o : MO} (w : Well (M'.set n o) n) : Wl M n (M'.set n o) := by
  obtain ⟨_, o2, rfl⟩ := h
  exact ⟨w, o, by rw [List.set_set]⟩
end K02
end P_K02S
section P_K02T
set_option Elab.async false
set_option linter.all false
set_option maxRecDepth 100000
namespace K02
open DL
abbrev digs : List Char := ['0', '1', '2', '3', '4', '5', '6', '7', '8', '9']
structure Dg (n : Nat) : Prop where
  ne : decs (n : Int) ≠ []
  blank : ' ' ∉ decs (n : Int)
  dig : ∀ c ∈ decs (n : Int), c ∈ digs
  hd : at_ (decs (n : Int)) 0 ≠ some '0'
  int : PySem.intText? (enc (decs (n : Int))) = some (n : Int)
  len : (decs (n : Int)).length ≤ 2
theorem dg {n : Nat} (h1 : 1 ≤ n) (h : n ≤ 12) : Dg n := by
  have : n = 1 ∨ n = 2 ∨ n = 3 ∨ n = 4 ∨ n = 5 ∨ n = 6 ∨ n = 7 ∨ n = 8 ∨ n = 9 ∨ n = 10 ∨ n = 11 ∨ n = 12 := by omega
  rcases this with rfl | rfl | rfl | rfl | rfl | rfl | rfl | rfl | rfl | rfl | rfl | rfl <;>
    exact ⟨by decide +kernel, by decide +kernel, by decide +kernel, by decide +kernel, by decide +kernel, by decide +kernel⟩
/-! ### words, their text, its parts -/
def word (p : Char × Nat) : List Char := decs (p.2 : Int) ++ [p.1]
def words (row : List Char) : List (List Char) := (rle row).map word
def txt (row : List Char) : List Char := if row = [] then ['n', 'o', 'n', 'e'] else glue [' '] (words row)
theorem spl_word (c : Char) : ∀ (w acc r : List Char), c ∉ w → splG c acc (w ++ r) = splG c (acc ++ w) r
  | [], acc, r, _ => by rw [List.append_nil, List.nil_append]
  | x :: w, acc, r, h => by
    show (if x = c then _ else splG c (acc ++ [x]) (w ++ r)) = _
    rw [if_neg (fun e => h (by rw [e]; exact List.mem_cons_self ..)), spl_word c w _ r fun z => h (List.mem_cons_of_mem _ z), List.append_assoc]; rfl
theorem spl_glue (c : Char) : ∀ (ws : List (List Char)), ws ≠ [] → (∀ w ∈ ws, c ∉ w) → splG c [] (glue [c] ws) = ws
  | [], h, _ => absurd rfl h
  | [w], _, h => by
    show splG c [] w = [w]
    have := spl_word c w [] [] (h w (List.mem_cons_self ..))
    rw [List.append_nil, List.nil_append] at this
    rw [this]; rfl
  | w :: v :: ws, _, h => by
    show splG c [] (w ++ [c] ++ glue [c] (v :: ws)) = _
    rw [List.append_assoc, spl_word c w [] _ (h w (List.mem_cons_self ..)), List.nil_append]
    show (if c = c then w :: splG c [] (glue [c] (v :: ws)) else _) = _
    rw [if_pos rfl, spl_glue c (v :: ws) (by simp) fun u hu => h u (List.mem_cons_of_mem _ hu)]
theorem texts_of : ∀ l : List (List Char), texts (l.map D.str) = some l
  | [] => rfl
  | t :: l => by show (texts (l.map D.str)).map (t :: ·) = _; rw [texts_of l]; rfl
theorem lens_le {m : Nat} : ∀ l : List (List Char), (∀ t ∈ l, t.length ≤ m) → lens l ≤ m * l.length
  | [], _ => Nat.zero_le _
  | t :: l, h => by
    have h1 := h t (List.mem_cons_self ..)
    have h2 := lens_le l fun u hu => h u (List.mem_cons_of_mem _ hu)
    show t.length + lens l ≤ m * (l.length + 1)
    rw [Nat.mul_add, Nat.mul_one]; omega
theorem join_of (sep : List Char) (l : List (List Char)) (hs : sep.length ≤ 1) (hl : l.length ≤ 100) (h : ∀ t ∈ l, t.length ≤ 100) : joinD sep (l.map D.str) = some (.str (glue sep l)) := by
  unfold joinD
  rw [texts_of]
  show (if lens l + l.length * sep.length ≤ big then some (D.str (glue sep l)) else none) = _
  have h1 := lens_le l h
  have h2 : l.length * sep.length ≤ l.length * 1 := Nat.mul_le_mul_left _ hs
  rw [if_pos (Nat.le_trans (show lens l + l.length * sep.length ≤ 20000 by omega) (by decide))]
theorem word_ok {row : List Char} (h : row.length ≤ 12) {p : Char × Nat} (hp : p ∈ rle row) : Dg p.2 ∧ p.1 ∈ row ∧ p.2 ≤ 12 := by
  have := (rle_le row).2 p hp
  exact ⟨dg (by omega) (by omega), rle_mem row p hp, by omega⟩
theorem glue_len : ∀ l : List (List Char), (glue [' '] l).length ≤ lens l + l.length
  | [] => Nat.zero_le _
  | [t] => by show t.length ≤ t.length + 0 + 1; omega
  | t :: u :: l => by
    have := glue_len (u :: l)
    show (t ++ [' '] ++ glue [' '] (u :: l)).length ≤ t.length + lens (u :: l) + (u :: l).length.succ
    rw [List.length_append, List.length_append]
    show t.length + 1 + _ ≤ _
    omega
theorem glue_head {c : Char} : ∀ l : List (List Char), l ≠ [] → (∀ t ∈ l, t ≠ []) → ∃ x r, glue [c] l = x :: r ∧ ∃ t ∈ l, t.head? = some x
  | [], h, _ => absurd rfl h
  | [t], _, h => by
    cases t with
    | nil => exact absurd rfl (h [] (List.mem_cons_self ..))
    | cons x r => exact ⟨x, r, rfl, _, List.mem_cons_self .., rfl⟩
  | t :: u :: l, _, h => by
    cases t with
    | nil => exact absurd rfl (h [] (List.mem_cons_self ..))
    | cons x r => exact ⟨x, r ++ [c] ++ glue [c] (u :: l), rfl, _, List.mem_cons_self .., rfl⟩
theorem words_ok {row : List Char} (h : Row row) : (words row).length ≤ 12 ∧ ∀ t ∈ words row, t.length ≤ 3 ∧ ' ' ∉ t ∧ t ≠ [] := by
  have hl := h.len
  refine ⟨by unfold words; rw [List.length_map]; have := (rle_le row).1; omega, fun t ht => ?_⟩
  obtain ⟨p, hp, rfl⟩ := List.mem_map.mp ht
  obtain ⟨d, hm, _⟩ := word_ok hl hp
  refine ⟨by unfold word; rw [List.length_append]; have := d.len; show _ + 1 ≤ 3; omega, fun z => ?_, by unfold word; simp⟩
  rcases List.mem_append.mp z with z | z
  · exact d.blank z
  · rw [List.mem_singleton] at z
    have := h.mem p.1 hm
    rw [← z] at this
    exact absurd this (by decide)
theorem words_ne {row : List Char} (h : row ≠ []) : words row ≠ [] := by
  unfold words
  intro e
  have e2 : rle row = [] := List.map_eq_nil_iff.mp e
  cases row with
  | nil => exact h rfl
  | cons c r =>
    rw [rle_cons] at e2
    cases q : rle r with
    | nil => rw [q] at e2; cases e2
    | cons p t =>
      obtain ⟨d, n⟩ := p
      rw [q, pre_cons] at e2
      split at e2 <;> cases e2
theorem txt_len {row : List Char} (h : Row row) : (txt row).length ≤ 100 := by
  unfold txt
  split
  · show 4 ≤ 100; omega
  · have h1 := glue_len (words row)
    obtain ⟨h2, h3⟩ := words_ok h
    have h4 := lens_le (words row) fun t ht => (h3 t ht).1
    omega
theorem txt_ne {row : List Char} (h : Row row) (hne : row ≠ []) : txt row ≠ ['n', 'o', 'n', 'e'] ∧ splG ' ' [] (txt row) = words row := by
  have e : txt row = glue [' '] (words row) := if_neg hne
  obtain ⟨h2, h3⟩ := words_ok h
  refine ⟨fun z => ?_, by rw [e]; exact spl_glue ' ' _ (words_ne hne) fun w hw => (h3 w hw).2.1⟩
  obtain ⟨x, r, hx, t, ht, hh⟩ := glue_head (c := ' ') (words row) (words_ne hne) fun t ht => (h3 t ht).2.2
  rw [e, hx] at z
  have ex : x = 'n' := (List.cons.inj z).1
  obtain ⟨p, hp, rfl⟩ := List.mem_map.mp ht
  obtain ⟨d, hm, _⟩ := word_ok h.len hp
  unfold word at hh
  cases q : decs (p.2 : Int) with
  | nil => exact d.ne q
  | cons y u =>
    rw [q] at hh
    have : y = x := Option.some.inj hh
    have hy := d.dig y (by rw [q]; exact List.mem_cons_self ..)
    rw [this, ex] at hy
    exact absurd hy (by decide)
theorem rep_flat : ∀ row : List Char, (rle row).flatMap (fun p => rep p.2 [p.1]) = row
  | [] => rfl
  | c :: r => by
    have ih := rep_flat r
    rw [rle_cons]
    cases q : rle r with
    | nil => rw [q] at ih; rw [← ih]; rfl
    | cons p t =>
      obtain ⟨d, n⟩ := p
      rw [q] at ih
      rw [pre_cons]
      by_cases e : d = c
      · subst e
        rw [if_pos rfl]
        show ([d] ++ rep n [d]) ++ _ = _
        rw [← ih]; rfl
      · rw [if_neg e]
        show [c] ++ _ = _
        rw [← ih]; rfl
theorem glue_nil : ∀ l : List (List Char), glue [] l = l.flatten
  | [] => rfl
  | [t] => by show t = t ++ []; rw [List.append_nil]
  | t :: u :: l => by show t ++ [] ++ glue [] (u :: l) = t ++ (u :: l).flatten; rw [glue_nil (u :: l), List.append_nil]
end K02
end P_K02T
section P_K02V
set_option Elab.async false
set_option linter.all false
set_option maxRecDepth 100000
namespace K02
open DL
theorem lms_words (row : List Char) : (rle row).map (fun p => D.str (word p)) = (words row).map D.str := by unfold words; rw [List.map_map]; rfl
def wd : D → D
  | .tup [.str [c], .int n] => .str (decs n ++ [c])
  | x => x
theorem wd_map (row : List Char) : (lmL row).map wd = (words row).map D.str := by
  rw [← lms_words]
  unfold lmL
  rw [List.map_map]
  rfl
theorem join_words {row : List Char} (h : Row row) : joinD [' '] ((words row).map D.str) = some (.str (glue [' '] (words row))) := by
  obtain ⟨h2, h3⟩ := words_ok h
  exact join_of _ _ (Nat.le_refl _) (by omega) fun t ht => by have := (h3 t ht).1; omega
theorem fmt_ok {n : Nat} (h : n ≤ 12) (c : Char) (s0 : Option Val) (M : Mem) : e_text_of_lumps_1 [s0, some (.d (.str [c])), some (.d (.int (n : Int)))] M = .ok (.d (.str (decs (n : Int) ++ [c]))) M := by
  have f : fmtD (.int (n : Int)) = some (decs (n : Int)) := if_pos (show ((n : Int)).natAbs < 1000000 by omega)
  unfold e_text_of_lumps_1 evJoined
  have e : evJFmt (vV 2) (evJFmt (vV 1) evJNil) [s0, some (.d (.str [c])), some (.d (.int (n : Int)))] M = .ok (decs (n : Int) ++ [c]) M := by
    show (match fmtD (.int (n : Int)) with | some t => Res.ok (t ++ ([c] ++ [])) M | none => .bad) = _
    rw [f]; rfl
  rw [e]
  have hl : (decs (n : Int) ++ [c]).length ≤ big := by
    rw [List.length_append]
    by_cases h1 : 1 ≤ n
    · have := (dg h1 h).len; exact Nat.le_trans (show _ + 1 ≤ 3 by omega) (by decide)
    · have : n = 0 := by omega
      subst this
      show (decs ((0 : Nat) : Int)).length + 1 ≤ big
      decide +kernel
  show (if (decs (n : Int) ++ [c]).length ≤ big then _ else _) = _
  rw [if_pos hl]
theorem text_ok' {row : List Char} (h : Row row) (M : Mem) {P : KV} (k : P (.d (.str (txt row))) M) : Ev (g_text_of_lumps [.d (.str row)] M) P := by
  unfold g_text_of_lumps
  rw [Ev_G1]
  by_cases hne : row = []
  · subst hne
    simp
    exact k
  · have e : txt row = glue [' '] (words row) := if_neg hne
    have j := join_words h
    rw [e] at k
    simp [hne]
    refine lumps_of_ok h.len M ?_
    simp
    refine Ev.compMap wd _ _ (fun x hx => ?_) ?_
    · obtain ⟨p, hp, rfl⟩ := List.mem_map.mp hx
      obtain ⟨d, hm, hl⟩ := word_ok h.len hp
      unfold lmD
      simp
      refine Ev.of_eq (fmt_ok hl p.1 _ M) ?_
      simp [wd]
    · rw [wd_map]
      simp [j]
      exact k
theorem lumps_text_ok {row : List Char} (h : Row row) (M : Mem) {P : KV} (k : P (.d (.str (txt row))) M) : Ev (g_lumps_text [.d (.str row)] M) P := by
  unfold g_lumps_text
  rw [Ev_G1]
  simp
  refine check_row_ok h M ?_
  simp
  refine text_ok' h M ?_
  simp
  exact k
theorem digits_ok {t : List Char} (h : ∀ c ∈ t, c ∈ digs) (M : Mem) {P : KV} (k : P (.d (.bl true)) M) : Ev (g_is_text_of [.d (.str t), .d (.str ['0', '1', '2', '3', '4', '5', '6', '7', '8', '9'])] M) P := by
  unfold g_is_text_of
  rw [Ev_G2]
  simp
  refine Ev.compTrue (fun M' => M' = M) _ _ rfl (fun x hx M' e => ?_) fun ys M' hy e => ?_
  · subst e
    obtain ⟨c, hc, rfl⟩ := List.mem_map.mp hx
    have := h c hc
    simp [e_is_text_of_1]
    simpa using this
  · subst e
    simp [hy]; simpa using k
theorem count_told_ok {n : Nat} (d : Dg n) (M : Mem) {P : KV} (k : P (.d (.int (n : Int))) M) : Ev (g_count_told [.d (.str (decs (n : Int)))] M) P := by
  unfold g_count_told
  rw [Ev_G1]
  have ne := d.ne
  have hi : intTD [.str (decs (n : Int))] = some (.int (n : Int)) := by
    show (if (decs (n : Int)).length ≤ 640 then (PySem.intText? (enc (decs (n : Int)))).map D.int else none) = _
    rw [if_pos (by have := d.len; omega), d.int]; rfl
  simp [ne]
  refine digits_ok d.dig M ?_
  simp
  cases q : at_ (decs (n : Int)) 0 with
  | none =>
    cases z : decs (n : Int) with
    | nil => exact absurd z ne
    | cons x r => rw [z] at q; cases q
  | some x =>
    have hx : ¬ x = '0' := fun e => d.hd (by rw [q, e])
    simp [hx, hi]
    exact k
theorem cut_last (w : List Char) (c : Char) : cut (w ++ [c]) none (some (-1)) = w := by
  show ((w ++ [c]).drop 0).take (bound (w ++ [c]).length (-1) - 0) = w
  have e : bound (w ++ [c]).length (-1) = w.length := by
    unfold bound
    simp
    omega
  rw [e, List.drop_zero, Nat.sub_zero, List.take_left]
theorem lump_told_ok {row : List Char} (h : row.length ≤ 12) {p : Char × Nat} (hp : p ∈ rle row) (M : Mem) {P : KV} (k : P (.d (.str (rep p.2 [p.1]))) M) : Ev (g_lump_told [.d (.str (word p))] M) P := by
  obtain ⟨d, hm, hl⟩ := word_ok h hp
  unfold g_lump_told
  rw [Ev_G1]
  have c1 : cut (word p) none (some (-1)) = decs (p.2 : Int) := cut_last _ _
  have a1 : at_ (word p) (-1) = some p.1 := at_last _ _
  simp [c1]
  refine count_told_ok d M ?_
  have h12 : ¬ (12 : Int) < (p.2 : Int) := by omega
  simp [h12, a1]
  exact ⟨by omega, k⟩
/-! ### the text, read back -/
def tdW : D → D
  | .str w => match w.getLast?, PySem.intText? (enc w.dropLast) with
    | some c, some n => .str (rep n.toNat [c])
    | _, _ => .non
  | x => x
theorem none_not_in (l : List (List Char)) : cmpV .notin .non (.lst (l.map D.str)) = some (.bl true) := by
  have sh : ∀ l : List (List Char), D.shals 60 (l.map D.str) = true := fun l => by
    induction l with
    | nil => rfl
    | cons x l ih => show (true && D.shals 60 (l.map D.str)) = true; rw [ih]; rfl
  have an : ∀ l : List (List Char), (l.map D.str).any (fun y => y.eqv .non) = false := fun l => by
    induction l with
    | nil => rfl
    | cons x l ih => show (D.eqv (.str x) .non || (l.map D.str).any (fun y => y.eqv .non)) = false; rw [ih]; rfl
  show (((if (D.shal 60 .non && D.shals 60 (l.map D.str)) = true then some ((l.map D.str).any fun y => y.eqv .non) else none).map (!·)).map D.bl) = _
  rw [sh, an]; rfl
theorem read_ok {row : List Char} (h : Row row) (M : Mem) {P : KV} (k : P (.d (.str row)) M) : Ev (g_row_of_lumps [.d (.str (txt row))] M) P := by
  have hl := h.len
  unfold g_row_of_lumps
  rw [Ev_G1, Ev_seq]
  have b0 : 0 ≤ big := by decide
  refine Ev.mid (fun f M2 => f = .nx [some (.d (.str (txt row))), none, none, none] ∧ M2 = M) ?_ ?_
  · simp
  rintro _ M2 ⟨rfl, hM⟩
  rw [kSeq_nx, hM, Ev_seq]
  clear hM M2
  refine Ev.mid (fun f M2 => f = .nx [some (.d (.str (txt row))), some (.d (.lst ((rle row).map fun p => D.str (rep p.2 [p.1])))), none, none] ∧ M2 = M) ?_ ?_
  · by_cases hne : row = []
    · subst hne
      have e : txt [] = ['n', 'o', 'n', 'e'] := rfl
      simp [e, b0]
      rfl
    · obtain ⟨t1, t2⟩ := txt_ne h hne
      have tl := txt_len h
      simp [t1]
      refine Ev.of_eq (a := .d (.lst ((words row).map D.str))) (M := M) ?_ ?_
      · show Res.of ((splD (.str (txt row)) (.str [' '])).map Val.d) M = _
        have e : splD (.str (txt row)) (.str [' ']) = some (.lst ((splG ' ' [] (txt row)).map D.str)) := if_pos ⟨by decide, Nat.le_trans (show (txt row).length + 2 ≤ 102 by omega) (by decide)⟩
        rw [e, t2]; rfl
      · have td : ∀ p ∈ rle row, tdW (.str (word p)) = .str (rep p.2 [p.1]) := fun p hp => by
          obtain ⟨d, hm, hl⟩ := word_ok h.len hp
          show (match (word p).getLast?, PySem.intText? (enc (word p).dropLast) with | some c, some n => D.str (rep n.toNat [c]) | _, _ => .non) = _
          have e1 : (word p).getLast? = some p.1 := by unfold word; simp
          have e2 : (word p).dropLast = decs (p.2 : Int) := by unfold word; simp
          rw [e1, e2, d.int]
          rfl
        simp
        refine Ev.compMap tdW _ _ (fun x hx => ?_) ?_
        · obtain ⟨w, hw, rfl⟩ := List.mem_map.mp hx
          obtain ⟨p, hp, rfl⟩ := List.mem_map.mp hw
          simp [e_row_of_lumps_1]
          refine lump_told_ok h.len hp M ?_
          rw [td p hp]
          simp
        · have e : ((words row).map D.str).map tdW = (rle row).map fun p => D.str (rep p.2 [p.1]) := by
            unfold words
            rw [List.map_map, List.map_map]
            exact List.map_congr_left fun p hp => td p hp
          rw [e]
          simp
  rintro _ M2 ⟨rfl, hM⟩
  rw [kSeq_nx, hM, Ev_seq]
  clear hM M2
  have ln := (rle_le row).1
  have nn := none_not_in ((rle row).map fun p => rep p.2 [p.1])
  have jj := join_of [] ((rle row).map fun p => rep p.2 [p.1]) (by decide) (by rw [List.length_map]; omega) fun t ht => by
    obtain ⟨p, hp, rfl⟩ := List.mem_map.mp ht
    have := (rle_le row).2 p hp
    have e : (rep p.2 [p.1]).length = p.2 := by
      have : ∀ n : Nat, (rep n [p.1]).length = n := fun n => by
        induction n with
        | zero => rfl
        | succ n ih => show ([p.1] ++ rep n [p.1]).length = _; rw [List.length_append, ih]; show 1 + n = _; omega
      exact this _
    rw [e]; omega
  rw [glue_nil, ← List.flatMap_def, rep_flat] at jj
  rw [List.map_map] at jj nn
  have jj : joinD [] ((rle row).map fun p => D.str (rep p.2 [p.1])) = some (.str row) := jj
  have nn : cmpV .notin .non (.lst ((rle row).map fun p => D.str (rep p.2 [p.1]))) = some (.bl true) := nn
  refine Ev.mid (fun f M2 => f = .nx [some (.d (.str (txt row))), some (.d (.lst ((rle row).map fun p => D.str (rep p.2 [p.1])))), none, some (.d (.str row))] ∧ M2 = M) ?_ ?_
  · simp [nn, jj]
  rintro _ M2 ⟨rfl, hM⟩
  rw [kSeq_nx, hM]
  clear hM M2
  simp
  refine rowed_ok h M ?_
  simp
  refine text_ok' h M ?_
  simp
  exact k
theorem read_lumps_ok {row : List Char} (h : Row row) (M : Mem) {P : KV} (k : P (.d (.str row)) M) : Ev (g_read_lumps [.d (.str (txt row))] M) P := by
  unfold g_read_lumps
  rw [Ev_G1]
  simp
  refine read_ok h M ?_
  simp
  unfold g_check_told
  rw [Ev_G2]
  simp
  exact k
end K02
end P_K02V
section P_DLxe
set_option Elab.async false
set_option linter.all false
set_option maxRecDepth 100000
set_option maxHeartbeats 2000000
/-! What may raise, computed: rules for Rx. -/
namespace DL
theorem defGX_ap (fr : Bool) (n m : Nat) (f : Nat → Sl → Mem → Rx Flow) (vs : List Val) (M : Mem) (h : vs.length = n) : defGX fr n m f vs M = match f M.length (vs.map some ++ List.replicate m none) M with
    | .ok fl M1 => Rx.of (handBack fr M.length fl M1)
    | .exc c x _ M1 => .exc c x [] (M1.take M.length)
    | .bad => .bad := by unfold defGX; exact if_pos h
/-- if t: raise -/
theorem x_raiseIf {n c : Nat} {fT : Sl → Mem → Res Bool} {fa : Sl → Mem → Res Val} {vs : List Val} {M : Mem} {t : Bool} {x : D} (hl : vs.length = n) (hT : fT (vs.map some) M = .ok t M) (ha : fa (vs.map some) M = .ok (.d x) M) :
    defGX false n 0 (fun _ => xSeq (xIte fT (xSeq (xRaise c fa) xPass) (xlS sPass)) xPass) vs M = if t then .exc c x [] M else .ok (.d .non) M := by
  rw [defGX_ap _ _ _ _ _ _ hl, List.replicate_zero, List.append_nil]
  have e : xSeq (xIte fT (xSeq (xRaise c fa) xPass) (xlS sPass)) xPass (vs.map some) M = if t then .exc c x (vs.map some) M else .ok (.nx (vs.map some)) M := by
    show Rx.bind (Rx.bind (Rx.of (fT _ M)) _) _ = _
    rw [hT]
    cases t with
    | true => rw [if_pos rfl]; show Rx.bind (Rx.bind (Rx.bind (Rx.of (fa _ M)) _) _) _ = _; rw [ha]; rfl
    | false => rw [if_neg Bool.false_ne_true]; rfl
  rw [e]
  cases t with
  | true => rw [if_pos rfl, if_pos rfl]; show Rx.exc c x [] (M.take M.length) = _; rw [List.take_length]
  | false => rw [if_neg Bool.false_ne_true, if_neg Bool.false_ne_true]; show Rx.ok (Val.d .non) (M.take M.length) = _; rw [List.take_length]
section
variable {c : Nat} {x : D} {s s1 s2 : Sl} {M M1 M2 : Mem} {f g : Sl → Mem → Rx Flow} {fa : Sl → Mem → Rx Val}
theorem xSeq_exc (h : f s M = .exc c x s1 M1) : xSeq f g s M = .exc c x s1 M1 := by
  show Rx.bind (f s M) _ = _
  rw [h]; rfl
theorem xSeq_nx (h : f s M = .ok (.nx s1) M1) : xSeq f g s M = g s1 M1 := by
  show Rx.bind (f s M) _ = _
  rw [h]; rfl
theorem xEx_exc (h : fa s M = .exc c x s1 M1) : xEx fa s M = .exc c x s M1 := by
  show Rx.bind (Rx.at_ (fa s M) s) _ = _
  rw [h]; rfl
theorem xEx_ok {v : Val} (h : fa s M = .ok v M1) : xEx fa s M = .ok (.nx s) M1 := by
  show Rx.bind (Rx.at_ (fa s M) s) _ = _
  rw [h]; rfl
theorem xAsg_exc {i : Nat} (h : fa s M = .exc c x s1 M1) : xAsg fa i s M = .exc c x s M1 := by
  show Rx.bind (Rx.at_ (fa s M) s) _ = _
  rw [h]; rfl
theorem xAsg_ok {i : Nat} {v : Val} (h : fa s M = .ok v M1) (hi : i < s.length) : xAsg fa i s M = .ok (.nx (s.set i (some v))) M1 := by
  show Rx.bind (Rx.at_ (fa s M) s) _ = _
  rw [h]
  show (if i < s.length then _ else _) = _
  rw [if_pos hi]
theorem xRet_exc (h : fa s M = .exc c x s1 M1) : xRet fa s M = .exc c x s M1 := by
  show Rx.bind (Rx.at_ (fa s M) s) _ = _
  rw [h]; rfl
theorem xCall_of {g : List Val → Mem → Rx Val} {fl : Sl → Mem → Res (List Val)} {vs : List Val} (h : fl s M = .ok vs M1) : xCall g fl s M = g vs M1 := by
  show Rx.bind (Rx.of (fl s M)) _ = _
  rw [h]; rfl
theorem xIfE_of {fT : Sl → Mem → Res Bool} {fa fb : Sl → Mem → Rx Val} {t : Bool} (h : fT s M = .ok t M1) : xIfE fT fa fb s M = if t then fa s M1 else fb s M1 := by
  show Rx.bind (Rx.of (fT s M)) _ = _
  rw [h]; rfl
theorem xIte_of {fT : Sl → Mem → Res Bool} {t : Bool} (h : fT s M = .ok t M1) : xIte fT f g s M = if t then f s M1 else g s M1 := by
  show Rx.bind (Rx.of (fT s M)) _ = _
  rw [h]; rfl
theorem xl_of {f : Sl → Mem → Res Val} {v : Val} (h : f s M = .ok v M1) : xl f s M = .ok v M1 := by
  unfold xl; rw [h]; rfl
theorem xDCons_exc {fl : Sl → Mem → Rx (List D)} (h : fa s M = .exc c x s1 M1) : xDCons fa fl s M = .exc c x s1 M1 := by
  show Rx.bind (fa s M) _ = _
  rw [h]; rfl
theorem xDCons_ok {fl : Sl → Mem → Rx (List D)} {y : D} (h : fa s M = .ok (.d y) M1) : xDCons fa fl s M = (fl s M1).bind fun xs M2 => .ok (y :: xs) M2 := by
  show Rx.bind (fa s M) _ = _
  rw [h]; rfl
theorem xDCons_exc2 {fl : Sl → Mem → Rx (List D)} {y : D} (h : fa s M = .ok (.d y) M1) (h2 : fl s M1 = .exc c x s1 M2) : xDCons fa fl s M = .exc c x s1 M2 := by
  rw [xDCons_ok h, h2]; rfl
theorem xLst_exc {fl : Sl → Mem → Rx (List D)} (h : fl s M = .exc c x s1 M1) : xLst fl s M = .exc c x s1 M1 := by
  show Rx.bind (fl s M) _ = _
  rw [h]; rfl
theorem xTup_exc {fl : Sl → Mem → Rx (List D)} (h : fl s M = .exc c x s1 M1) : xTup fl s M = .exc c x s1 M1 := by
  show Rx.bind (fl s M) _ = _
  rw [h]; rfl
/-- a def whose first statement lets out an error -/
theorem defGX_exc {fr : Bool} {n m : Nat} {vs : List Val} {F : Nat → Sl → Mem → Rx Flow} (hl : vs.length = n) (h : F M.length (vs.map some ++ List.replicate m none) M = .exc c x s1 M) : defGX fr n m F vs M = .exc c x [] M := by
  rw [defGX_ap _ _ _ _ _ _ hl, h]
  show Rx.exc c x [] (M.take M.length) = _
  rw [List.take_length]
theorem defGX_nx {n m : Nat} {vs : List Val} {F : Nat → Sl → Mem → Rx Flow} (hl : vs.length = n) (h : F M.length (vs.map some ++ List.replicate m none) M = .ok (.nx s1) M) : defGX false n m F vs M = .ok (.d .non) M := by
  rw [defGX_ap _ _ _ _ _ _ hl, h]
  show Rx.ok (Val.d .non) (M.take M.length) = _
  rw [List.take_length]
theorem xlS_of {f : Sl → Mem → Res Flow} {fl : Flow} (h : f s M = .ok fl M1) : xlS f s M = .ok fl M1 := by
  unfold xlS; rw [h]; rfl
theorem defGX_ret {n m : Nat} {vs : List Val} {F : Nat → Sl → Mem → Rx Flow} (hl : vs.length = n) (h : F M.length (vs.map some ++ List.replicate m none) M = .ok (.ret (.d x)) M) : defGX false n m F vs M = .ok (.d x) M := by
  rw [defGX_ap _ _ _ _ _ _ hl, h]
  show Rx.ok (Val.d x) (M.take M.length) = _
  rw [List.take_length]
theorem evTry_exc {i : Nat} {fb : Sl → Mem → Rx Flow} {fs : Nat → D → Sl → Mem → Res Flow} (h : fb s M = .exc c x s1 M1) (hi : i < s1.length) : evTry i fb fs s M = (fs c x (s1.set i none) M1).bind fun fl M2 => .ok (unsetF i fl) M2 := by
  unfold evTry
  rw [h]
  show (if i < s1.length then _ else _) = _
  rw [if_pos hi]
theorem evTry_ok {i : Nat} {fb : Sl → Mem → Rx Flow} {fs : Nat → D → Sl → Mem → Res Flow} {fl : Flow} (h : fb s M = .ok fl M1) : evTry i fb fs s M = .ok fl M1 := by
  unfold evTry; rw [h]
end
end DL
end P_DLxe
section P_K02W
set_option Elab.async false
set_option linter.all false
set_option maxRecDepth 100000
namespace K02
open DL
theorem named_by_ok {row : List Char} (hr : Row row) (M : Mem) {P : KV} (k : P (.d (.str (row.map (nmC row)))) M) : Ev (g_named_by [.d (.str row)] M) P := by
  have hl := hr.len
  unfold g_named_by
  rw [Ev_G1]
  simp
  refine colours_by_ok row (by omega) M ?_
  simp
  refine Ev.compMap (nmD row) _ _ (fun x hx => ?_) ?_
  · obtain ⟨c, hc, rfl⟩ := List.mem_map.mp hx
    obtain ⟨h1, _, _⟩ := fs_ok (List.mem_eraseDups.mpr hc)
    have h2 := nmC_at hr hc
    simp [e_named_by_1, h1]
    have h2' : at_ ['a', 'b', 'c', 'd', 'e', 'f'] (fs row.eraseDups c : Int) = some (nmC row c) := h2
    simp [h2', nmD]
  · have e : (row.map fun c => D.str [c]).map (nmD row) = (row.map (nmC row)).map ch := by rw [List.map_map, List.map_map]; rfl
    have j := join_ch (row.map (nmC row)) (by rw [List.length_map]; omega)
    rw [e]
    simp only [kLc2_ap, kCons_ap, Ev_nil, kCons2_ap]
    simp [-List.map_map, j]; exact k
theorem xrow_bad {v : D} (h : Bv v) (hn : rowedD v = false) (M : Mem) : x_check_row [.d v] M = .exc 0 v [] M := by
  unfold x_check_row
  refine (x_raiseIf (n := 1) (vs := [.d v]) (t := true) (x := v) rfl ?_ rfl).trans (if_pos rfl)
  refine Ev.eq ?_
  simp
  refine is_rowed_bv h M ?_
  rw [hn]
  simp
theorem xrow_good {r : List Char} (h : Row r) (M : Mem) : x_check_row [.d (.str r)] M = .ok (.d .non) M := by
  unfold x_check_row
  refine (x_raiseIf (n := 1) (vs := [.d (.str r)]) (t := false) (x := .str r) rfl ?_ rfl).trans (if_neg Bool.false_ne_true)
  refine Ev.eq ?_
  simp
  refine rowed_ok h M ?_
  simp
theorem xcolours {v : D} (h : Bv v) (hn : rowedD v = false) (M : Mem) : x_colours_of [.d v] M = .exc 0 v [] M :=
  defGX_exc rfl (xSeq_exc (xEx_exc ((xCall_of (vs := [.d v]) rfl).trans (xrow_bad h hn M))))
theorem xnamed {v : D} (h : Bv v) (hn : rowedD v = false) (M : Mem) : x_named [.d v] M = .exc 0 v [] M :=
  defGX_exc rfl (xSeq_exc (xEx_exc ((xCall_of (vs := [.d v]) rfl).trans (xrow_bad h hn M))))
theorem xlumps {v : D} (h : Bv v) (hn : rowedD v = false) (M : Mem) : x_lumps [.d v] M = .exc 0 v [] M :=
  defGX_exc rfl (xSeq_exc (xEx_exc ((xCall_of (vs := [.d v]) rfl).trans (xrow_bad h hn M))))
theorem xtidy {v : D} (h : Bv v) (hn : rowedD v = false) (M : Mem) : x_is_tidy [.d v] M = .exc 0 v [] M :=
  defGX_exc rfl (xSeq_exc (xEx_exc ((xCall_of (vs := [.d v]) rfl).trans (xrow_bad h hn M))))
theorem gcolours {r : List Char} (h : Row r) (M : Mem) : ∃ y, x_colours_of [.d (.str r)] M = .ok (.d y) M ∧ y.shal 59 = true := by
  refine ⟨.str r.eraseDups, defGX_ret rfl ((xSeq_nx (xEx_ok ((xCall_of (vs := [.d (.str r)]) rfl).trans (xrow_good h M)))).trans (xlS_of ?_)), rfl⟩
  refine Ev.eq ?_
  have hl := h.len
  simp
  refine colours_by_ok r (by omega) M ?_
  simp
theorem gnamed {r : List Char} (h : Row r) (M : Mem) : ∃ y, x_named [.d (.str r)] M = .ok (.d y) M ∧ y.shal 59 = true := by
  refine ⟨.str (r.map (nmC r)), defGX_ret rfl ((xSeq_nx (xEx_ok ((xCall_of (vs := [.d (.str r)]) rfl).trans (xrow_good h M)))).trans (xlS_of ?_)), rfl⟩
  refine Ev.eq ?_
  simp
  refine named_by_ok h M ?_
  simp
theorem glumps {r : List Char} (h : Row r) (M : Mem) : ∃ y, x_lumps [.d (.str r)] M = .ok (.d y) M ∧ y.shal 59 = true := by
  refine ⟨.tup (lmL r), defGX_ret rfl ((xSeq_nx (xEx_ok ((xCall_of (vs := [.d (.str r)]) rfl).trans (xrow_good h M)))).trans (xlS_of ?_)), ?_⟩
  · refine Ev.eq ?_
    simp
    refine lumps_of_ok h.len M ?_
    simp
  · have : ∀ l : List (Char × Nat), D.shals 58 (l.map lmD) = true := fun l => by
      induction l with
      | nil => rfl
      | cons p l ih => show (true && D.shals 58 (l.map lmD)) = true; rw [ih]; rfl
    exact this (rle r)
theorem gtidy {r : List Char} (h : Row r) (M : Mem) : ∃ y, x_is_tidy [.d (.str r)] M = .ok (.d y) M ∧ y.shal 59 = true := by
  refine ⟨.bl (decide ((L r : Int) ≤ (r.eraseDups.length : Int))), defGX_ret rfl ((xSeq_nx (xEx_ok ((xCall_of (vs := [.d (.str r)]) rfl).trans (xrow_good h M)))).trans (xlS_of ?_)), rfl⟩
  refine Ev.eq ?_
  have hl := h.len
  simp
  unfold g_is_tidy_by
  rw [Ev_G1]
  simp
  refine count_by_ok h.len M ?_
  simp
  refine colours_by_ok r (by omega) M ?_
  simp
  rw [Bool.eq_iff_iff]; simp
theorem y_of {i : Int} {v : D} {M : Mem} {r : Rx Val} (i0 : i = 0 ∨ i = 1 ∨ i = 2 ∨ i = 3) (h0 : i = 0 → x_colours_of [.d v] M = r) (h1 : i = 1 → x_named [.d v] M = r) (h2 : i = 2 → x_lumps [.d v] M = r) (h3 : i = 3 → x_is_tidy [.d v] M = r) :
    xIfE (tst (ev2 (cmpV .eq) (vV 0) (vC (.int 0)))) (xCall x_colours_of (evCons (vV 1) evNil)) (xIfE (tst (ev2 (cmpV .eq) (vV 0) (vC (.int 1)))) (xCallN 0 1 (@pickO [(true, 0)]) x_named evNil (evCons (vV 1) evNil)) (xIfE (tst (ev2 (cmpV .eq) (vV 0) (vC (.int 2)))) (xCall x_lumps (evCons (vV 1) evNil)) (xCallN 0 1 (@pickO [(true, 0)]) x_is_tidy evNil (evCons (vV 1) evNil)))) [some (.d (.int i)), some (.d v), none, none] M = r := by
  have t : ∀ j : Int, tst (ev2 (cmpV .eq) (vV 0) (vC (.int j))) [some (.d (.int i)), some (.d v), none, none] M = .ok (i == j) M := fun j => rfl
  rcases i0 with rfl | rfl | rfl | rfl
  · exact (xIfE_of (t 0)).trans ((xCall_of (vs := [.d v]) rfl).trans (h0 rfl))
  · exact (xIfE_of (t 0)).trans ((xIfE_of (t 1)).trans ((show xCallN 0 1 (@pickO [(true, 0)]) x_named evNil (evCons (vV 1) evNil) [some (.d (.int 1)), some (.d v), none, none] M = x_named [.d v] M from rfl).trans (h1 rfl)))
  · exact (xIfE_of (t 0)).trans ((xIfE_of (t 1)).trans ((xIfE_of (t 2)).trans ((xCall_of (vs := [.d v]) rfl).trans (h2 rfl))))
  · exact (xIfE_of (t 0)).trans ((xIfE_of (t 1)).trans ((xIfE_of (t 2)).trans ((show xCallN 0 1 (@pickO [(true, 0)]) x_is_tidy evNil (evCons (vV 1) evNil) [some (.d (.int 3)), some (.d v), none, none] M = x_is_tidy [.d v] M from rfl).trans (h3 rfl))))
theorem ne_nil1 {y : D} (h : y.shal 59 = true) : cmpV .ne (.lst [y]) (.lst []) = some (.bl true) := by
  show ((if ((false && false) || ((y.shal 59 && D.shals 59 []) && D.shals 59 [])) = true then some (D.eqvs [y] []) else none).map (!·)).map D.bl = _
  rw [h]; rfl
theorem refused_bad {i : Int} (i0 : i = 0 ∨ i = 1 ∨ i = 2 ∨ i = 3) {v : D} (h : Bv v) (hn : rowedD v = false) (M : Mem) {P : KV} (k : P (.d (.lst [v])) M) : Ev (g__law_refused [.d (.int i), .d v] M) P := by
  unfold g__law_refused
  rw [Ev_G2, Ev_seq]
  have e : evTry 3 y__law_refused_1 u__law_refused_1 [some (.d (.int i)), some (.d v), none, none] M = .ok (.ret (.d (.lst [v]))) M := by
    rw [evTry_exc (c := 0) (x := v) (s1 := [some (.d (.int i)), some (.d v), none, none]) (M1 := M) ?_ (show 3 < 4 by decide)]
    · rfl
    · exact xSeq_exc (xAsg_exc (y_of i0 (fun _ => xcolours h hn M) (fun _ => xnamed h hn M) (fun _ => xlumps h hn M) (fun _ => xtidy h hn M)))
  have e' : evTry 3 y__law_refused_1 u__law_refused_1 (some (Val.d (.int i)) :: some (Val.d v) :: List.replicate 2 none) M = .ok (.ret (.d (.lst [v]))) M := e
  rw [e', Ev_ok]
  simp
  exact k
theorem refused_good {i : Int} (i0 : i = 0 ∨ i = 1 ∨ i = 2 ∨ i = 3) {r : List Char} (h : Row r) (M : Mem) {P : KV} (k : P (.d (.lst [])) M) : Ev (g__law_refused [.d (.int i), .d (.str r)] M) P := by
  unfold g__law_refused
  rw [Ev_G2, Ev_seq]
  have b1 : 1 ≤ big := by decide
  have b0 : 0 ≤ big := by decide
  have e : ∃ y, y.shal 59 = true ∧ evTry 3 y__law_refused_1 u__law_refused_1 [some (.d (.int i)), some (.d (.str r)), none, none] M = .ok (.nx [some (.d (.int i)), some (.d (.str r)), some (.d y), none]) M := by
    have key : ∀ y, y.shal 59 = true → xIfE (tst (ev2 (cmpV .eq) (vV 0) (vC (.int 0)))) (xCall x_colours_of (evCons (vV 1) evNil)) (xIfE (tst (ev2 (cmpV .eq) (vV 0) (vC (.int 1)))) (xCallN 0 1 (@pickO [(true, 0)]) x_named evNil (evCons (vV 1) evNil)) (xIfE (tst (ev2 (cmpV .eq) (vV 0) (vC (.int 2)))) (xCall x_lumps (evCons (vV 1) evNil)) (xCallN 0 1 (@pickO [(true, 0)]) x_is_tidy evNil (evCons (vV 1) evNil)))) [some (.d (.int i)), some (.d (.str r)), none, none] M = .ok (.d y) M → ∃ y, y.shal 59 = true ∧ evTry 3 y__law_refused_1 u__law_refused_1 [some (.d (.int i)), some (.d (.str r)), none, none] M = .ok (.nx [some (.d (.int i)), some (.d (.str r)), some (.d y), none]) M := fun y hy e =>
      ⟨y, hy, evTry_ok ((xSeq_nx (xAsg_ok e (show 2 < 4 by decide))).trans rfl)⟩
    rcases i0 with rfl | rfl | rfl | rfl
    · obtain ⟨y, e, hy⟩ := gcolours h M; exact key y hy (y_of (.inl rfl) (fun _ => e) (fun z => by cases z) (fun z => by cases z) (fun z => by cases z))
    · obtain ⟨y, e, hy⟩ := gnamed h M; exact key y hy (y_of (.inr (.inl rfl)) (fun z => by cases z) (fun _ => e) (fun z => by cases z) (fun z => by cases z))
    · obtain ⟨y, e, hy⟩ := glumps h M; exact key y hy (y_of (.inr (.inr (.inl rfl))) (fun z => by cases z) (fun z => by cases z) (fun _ => e) (fun z => by cases z))
    · obtain ⟨y, e, hy⟩ := gtidy h M; exact key y hy (y_of (.inr (.inr (.inr rfl))) (fun z => by cases z) (fun z => by cases z) (fun z => by cases z) (fun _ => e))
  obtain ⟨y, hy, e⟩ := e
  have nn := ne_nil1 hy
  have e' : evTry 3 y__law_refused_1 u__law_refused_1 (some (Val.d (.int i)) :: some (Val.d (.str r)) :: List.replicate 2 none) M = .ok (.nx [some (.d (.int i)), some (.d (.str r)), some (.d y), none]) M := e
  rw [e', Ev_ok, kSeq_nx]
  simp [nn, b1, b0]
  exact k
end K02
end P_K02W
section P_K02X
set_option Elab.async false
set_option linter.all false
set_option maxRecDepth 100000
namespace K02
open DL
theorem fm_none : ∀ l : List D, l.filterMap (fun _ => (none : Option D)) = []
  | [] => rfl
  | _ :: l => fm_none l
theorem row_rev {r : List Char} (h : Row r) : Row r.reverse := ⟨by rw [List.length_reverse]; exact h.len, fun c hc => h.mem c (List.mem_reverse.mp hc)⟩
theorem L_rev (r : List Char) : L r.reverse = L r := by rw [← (rle_len _).1, ← (rle_len _).1, rle_rev, List.length_reverse]
theorem row_of {v : D} (h : Bv v) (hr : rowedD v = true) : ∃ r, v = .str r ∧ Row r := by
  cases h with
  | str t =>
    have e : (t.all inB && decide (t.length ≤ 12)) = true := hr
    rw [Bool.and_eq_true] at e
    refine ⟨t, rfl, of_decide_eq_true e.2, fun c hc => ?_⟩
    have := List.all_eq_true.mp e.1 c hc
    unfold inB at this
    exact List.contains_iff_mem.mp this
  | _ => cases hr
theorem is_row_ok {v : D} (h : Bv v) (M : Mem) {P : KV} (k : P (.d (.bl (rowedD v))) M) : Ev (g_is_row [.d v] M) P := by
  unfold g_is_row
  rw [Ev_G1]
  simp
  refine is_rowed_bv h M ?_
  simp
  exact k
theorem str_num {n : Nat} (h1 : 1 ≤ n) (h : n ≤ 12) : strDd [.int (n : Int)] = some (.str (decs (n : Int))) := if_pos ⟨by omega, by have := (dg h1 h).len; exact Nat.le_trans this (by decide)⟩
theorem refs (v : D) (h : Bv v) (s3 s4 s5 s6 : Option Val) (M : Mem) {P : KF} (k : ∀ s, P (.nx s) M → P (.nx s) M) :
    Ev (compLoop (evBlk [2] (.n 2) i__law_value_right_1 (vV 2) [some (.d v), some (.d (.bl (rowedD v))), none, none, none, none, none]) [.int 0, .int 1, .int 2, .int 3] M) (fun ys M2 => ys = [] ∧ M2 = M) := by
  refine Ev.compFilter (fun _ => none) _ _ (fun x hx => ?_) ?_
  · obtain ⟨i, rfl, i0⟩ : ∃ i : Int, x = .int i ∧ (i = 0 ∨ i = 1 ∨ i = 2 ∨ i = 3) := by
      simp only [List.mem_cons, List.not_mem_nil, or_false] at hx
      rcases hx with rfl | rfl | rfl | rfl
      · exact ⟨0, rfl, .inl rfl⟩
      · exact ⟨1, rfl, .inr (.inl rfl)⟩
      · exact ⟨2, rfl, .inr (.inr (.inl rfl))⟩
      · exact ⟨3, rfl, .inr (.inr (.inr rfl))⟩
    have b0 : 0 ≤ big := by decide
    have b1 : 1 ≤ big := by decide
    simp [i__law_value_right_1]
    cases hr : rowedD v with
    | true =>
      obtain ⟨r, rfl, hrow⟩ := row_of h hr
      refine refused_good i0 hrow M ?_
      simp [b0]
      refine is_lst 4 [] (fun x hx => by cases hx) M _ ?_
      simp
    | false =>
      refine refused_bad i0 h hr M ?_
      simp [b1]
      refine is_lst 4 _ (fun x hx => by rw [List.mem_singleton.mp hx]; exact same_bv h 0) M _ ?_
      simp
  · rw [fm_none]; exact ⟨rfl, rfl⟩
theorem value_right_ok {v : D} (h : Bv v) (M : Mem) {P : KV} (k : P (.d (.bl true)) M) : Ev (g__law_value_right [.d v] M) P := by
  unfold g__law_value_right
  rw [Ev_G1, Ev_seq]
  have b0 : 0 ≤ big := by decide
  have b1 : 1 ≤ big := by decide
  have b2 : 2 ≤ big := by decide
  have b6 : 6 ≤ big := by decide
  have ne0 : cmpV .ne (.lst []) (.lst []) = some (.bl false) := rfl
  refine Ev.mid (fun f M2 => f = .nx [some (.d v), some (.d (.bl (rowedD v))), none, none, none, none, none] ∧ M2 = M) ?_ ?_
  · simp
    refine is_row_bv h M ?_
    simp
  rintro _ M2 ⟨rfl, hM⟩
  rw [kSeq_nx, hM, Ev_seq]
  clear hM M2
  refine Ev.mid (fun f M2 => f = .nx [some (.d v), some (.d (.bl (rowedD v))), none, none, none, none, none] ∧ M2 = M) ?_ ?_
  · simp
    refine is_row_ok h M ?_
    simp
    refine is_row_ok h M ?_
    simp [b2]
    refine is_lst 4 _ (fun x hx => ?_) M _ ?_
    · simp at hx
      rw [hx]; exact is_bl _ _
    simp
  rintro _ M2 ⟨rfl, hM⟩
  rw [kSeq_nx, hM, Ev_seq]
  clear hM M2
  refine Ev.mid (fun f M2 => f = .nx [some (.d v), some (.d (.bl (rowedD v))), none, none, none, none, none] ∧ M2 = M) ?_ ?_
  · have rg : rngD [.int 4] = some [.int 0, .int 1, .int 2, .int 3] := rfl
    simp [-rngD_1, rg]
    refine (refs v h none none none none M (P := fun _ _ => True) (fun _ h => h)).imp ?_
    rintro _ M2 ⟨rfl, rfl⟩
    simp [b0, ne0]
  rintro _ M2 ⟨rfl, hM⟩
  rw [kSeq_nx, hM, Ev_seq]
  clear hM M2
  cases hr : rowedD v with
  | false => simp; exact k
  | true =>
    obtain ⟨r, rfl, hrow⟩ := row_of h hr
    have hl := hrow.len
    refine Ev.mid (fun f M2 => f = .nx [some (.d (.str r)), some (.d (.bl true)), none, none, none, none, none] ∧ M2 = M) ?_ ?_
    · simp
    rintro _ M2 ⟨rfl, hM⟩
    rw [kSeq_nx, hM, Ev_seq]
    clear hM M2
    refine Ev.mid (fun f M2 => f = .nx [some (.d (.str r)), some (.d (.bl true)), none, some (.d (.str (txt r))), none, none, none] ∧ M2 = M) ?_ ?_
    · by_cases hne : r = []
      · subst hne
        simp
        rfl
      · have e : txt r = glue [' '] (words r) := if_neg hne
        have j := join_words hrow
        simp [hne]
        refine law_lumps_ok hl M ?_
        simp
        refine Ev.compMap wd _ _ (fun x hx => ?_) ?_
        · obtain ⟨p, hp, rfl⟩ := List.mem_map.mp hx
          have := (rle_le r).2 p hp
          have sn := str_num this.1 (by omega : p.2 ≤ 12)
          have dl := (dg this.1 (by omega : p.2 ≤ 12)).len
          have hb : (decs (p.2 : Int)).length + 1 ≤ big := Nat.le_trans (show _ + 1 ≤ 3 by omega) (by decide)
          unfold lmD
          simp [e__law_value_right_1, sn, hb, wd]
        · rw [wd_map]
          simp [j, e]
    rintro _ M2 ⟨rfl, hM⟩
    rw [kSeq_nx, hM, Ev_seq]
    clear hM M2
    refine Ev.mid (fun f M2 => f = .nx [some (.d (.str r)), some (.d (.bl true)), none, some (.d (.str (txt r))), none, none, some (.d (.lst [.str (txt r), .str (txt r), .str r, .str r, .bl true, .int (L r : Nat)]))] ∧ M2 = M) ?_ ?_
    · have rv : rowedD (.str r.reverse) = true := by
        show (r.reverse.all inB && decide (r.reverse.length ≤ 12)) = true
        have e : (r.all inB && decide (r.length ≤ 12)) = true := hr
        rw [List.all_reverse, List.length_reverse]; exact e
      simp
      refine lumps_text_ok hrow M ?_
      simp
      refine lumps_text_ok hrow M ?_
      simp
      refine read_lumps_ok hrow M ?_
      simp
      refine read_lumps_ok hrow M ?_
      simp
      refine is_row_ok (.str _) M ?_
      rw [rv]
      simp
      refine count_ok (row_rev hrow) M ?_
      rw [L_rev]
      simp [b6]
    rintro _ M2 ⟨rfl, hM⟩
    rw [kSeq_nx, hM]
    clear hM M2
    simp
    refine law_lumps_ok hl M ?_
    simp [b6, lmL_len]
    refine is_lst 4 _ (fun x hx => ?_) M _ ?_
    · simp at hx
      rcases hx with rfl | rfl | rfl | rfl
      · exact is_str _ _
      · exact is_str _ _
      · exact is_bl _ _
      · exact is_int _ _
    simp
    exact k
end K02
end P_K02X
section P_K02Y
set_option Elab.async false
set_option linter.all false
set_option maxRecDepth 100000
namespace K02
open DL
theorem bents {n : Nat} {r : List Char} (hr : Row r) (M : Mem) (s1 s3 s4 s5 : Option Val) (xs : List D) {M' : Mem} (w : Wl M n M') {P : List D → Mem → Prop} (k : ∀ ys M2, (∀ y ∈ ys, Bv y) → ys.length ≤ xs.length → Wl M n M2 → P ys M2) :
    Ev (compLoop (evBlk [5] (.n 5) ifs0 e__law_right_1 [some (.ref n), s1, some (.d (.str r)), s3, s4, s5]) xs M') P := by
  refine (Ev.comp (P := P) (fun zs ys M2 => (∀ y ∈ ys, Bv y) ∧ ys.length + zs.length ≤ xs.length ∧ Wl M n M2) xs [] M' ?_ ?_ ?_)
  · exact ⟨fun y hy => (nomatch hy), by simp, w⟩
  · rintro x zs ys M2 ⟨hb, hl, w⟩
    simp [e__law_right_1]
    refine bent_ok w.1 hr fun x o hx w2 => ?_
    simp
    refine ⟨fun y hy => ?_, by simp at hl; omega, w.set w2⟩
    rcases hy with h | rfl
    · exact hb y h
    · exact hx
  · rintro ys M2 ⟨hb, hl, w⟩
    exact k ys M2 hb (by simpa using hl) w
theorem odds {n : Nat} (M : Mem) (s1 s2 s3 s4 s5 : Option Val) (xs : List D) {M' : Mem} (w : Wl M n M') {P : List D → Mem → Prop} (k : ∀ M2, Wl M n M2 → P [] M2) :
    Ev (compLoop (evBlk [1] (.n 1) i__law_right_2 (vV 1) [some (.ref n), s1, s2, s3, s4, s5]) xs M') P := by
  refine (Ev.comp (P := P) (fun zs ys M2 => ys = [] ∧ Wl M n M2) xs [] M' ⟨rfl, w⟩ ?_ ?_)
  · rintro x zs ys M2 ⟨rfl, w⟩
    simp [i__law_right_2]
    refine odd_ok w.1 fun x o hx w2 => ?_
    simp
    refine value_right_ok hx _ ?_
    simp
    exact w.set w2
  · rintro ys M2 ⟨rfl, w⟩
    exact k M2 w
def Nine (r : List Char) : List D := [.str r, .str (r ++ r), .str [], .str ['a', 'b', 'c', 'd', 'e', 'f', 'a', 'b', 'c', 'd', 'e', 'f'], .str ['a', 'b', 'c', 'd', 'e', 'f', 'a', 'b', 'c', 'd', 'e', 'f', 'a'], .str ['f', 'f', 'f', 'f', 'f', 'f', 'f', 'f', 'f', 'f', 'f', 'f'], .str ['a', 'b', 'c', 'g'], .str ['A', 'B', 'C'], .str [' ']]
theorem nine_bv (r : List Char) : ∀ x ∈ Nine r, Bv x := fun x hx => by
  have hx : x ∈ [r, r ++ r, [], ['a', 'b', 'c', 'd', 'e', 'f', 'a', 'b', 'c', 'd', 'e', 'f'], ['a', 'b', 'c', 'd', 'e', 'f', 'a', 'b', 'c', 'd', 'e', 'f', 'a'], ['f', 'f', 'f', 'f', 'f', 'f', 'f', 'f', 'f', 'f', 'f', 'f'], ['a', 'b', 'c', 'g'], ['A', 'B', 'C'], [' ']].map D.str := hx
  obtain ⟨t, _, rfl⟩ := List.mem_map.mp hx
  exact .str t
theorem right_step {n : Nat} (M : Mem) (s1 s2 s3 s4 s5 : Option Val) {M' : Mem} (w : Wl M n M') {P : KF} (kk : ∀ s2 s3 M2, Wl M n M2 → P (.nx [some (.ref n), s1, s2, s3, s4, s5]) M2) :
    Ev (l__law_right_1 [some (.ref n), s1, s2, s3, s4, s5] M') P := by
  unfold l__law_right_1
  rw [Ev_seq]
  refine Ev.mid (fun f M2 => ∃ row, Row row ∧ Wl M n M2 ∧ f = .nx [some (.ref n), s1, some (.d (.str row)), s3, s4, s5]) ?_ ?_
  · simp
    refine drawn_row_ok w.1 (by decide) (by decide) fun row o hr hl w2 => ?_
    simp
    exact ⟨hr, w.set w2⟩
  rintro _ M2 ⟨row, hr, w, rfl⟩
  rw [kSeq_nx, Ev_seq]
  have hl := hr.len
  have b9 : 9 ≤ big := by decide
  have bb : row.length + row.length ≤ big := Nat.le_trans (show row.length + row.length ≤ 24 by omega) (by decide)
  refine Ev.mid (fun f M3 => f = .nx [some (.ref n), s1, some (.d (.str row)), some (.d (.lst (Nine row))), s4, s5] ∧ M3 = M2) ?_ ?_
  · have m1 : binD .mul (.str ['a', 'b', 'c', 'd', 'e', 'f']) (.int 2) = some (.str ['a', 'b', 'c', 'd', 'e', 'f', 'a', 'b', 'c', 'd', 'e', 'f']) := rfl
    have m2 : binD .mul (.str ['f']) (.int 12) = some (.str ['f', 'f', 'f', 'f', 'f', 'f', 'f', 'f', 'f', 'f', 'f', 'f']) := rfl
    have b13 : 13 ≤ big := by decide
    simp [bb, m1, m2, b9, b13]
    rfl
  rintro _ M3 ⟨rfl, hM⟩
  rw [kSeq_nx, hM]
  clear hM M3
  have lL : (Nine row).length = 9 := rfl
  have hL := nine_bv row
  generalize Nine row = L at hL lL
  have b0 : 0 ≤ big := by decide
  have ne0 : cmpV .ne (.lst []) (.lst []) = some (.bl false) := rfl
  have rg : rngD [.int 8] = some [.int 0, .int 1, .int 2, .int 3, .int 4, .int 5, .int 6, .int 7] := rfl
  simp [-rngD_1, rg]
  refine bents hr M _ _ _ _ _ w fun ys M3 hb2 hl2 w => ?_
  have hl8 : ys.length ≤ 8 := hl2
  have hbl : L.length + ys.length ≤ big := Nat.le_trans (show L.length + ys.length ≤ 17 by omega) (by decide)
  simp [hbl]
  refine Ev.compFilter (fun _ => none) _ _ (fun x hx => ?_) ?_
  · have bx : Bv x := by
      rcases List.mem_append.mp hx with h | h
      · exact hL x h
      · exact hb2 x h
    simp [i__law_right_1]
    refine value_right_ok bx M3 ?_
    simp
  · rw [fm_none]
    simp [b0, ne0]
    exact kk _ _ M3 w
theorem right_ok {n : Nat} {M : Mem} (w : Well M n) {P : KV} (k : ∀ (o : MO), Well (M.set n o) n → P (.d (.bl true)) (M.set n o)) : Ev (g__law_right [.ref n] M) P := by
  unfold g__law_right
  rw [Ev_G1]
  have b0 : 0 ≤ big := by decide
  have eq0 : cmpV .eq (.lst []) (.lst []) = some (.bl true) := rfl
  have w0 : Wl M n M := by
    obtain ⟨a, b, c, e⟩ := id w
    obtain ⟨h, e'⟩ := List.getElem?_eq_some_iff.mp e
    exact ⟨w, .lst [.int a, .int b, .int c], by rw [← e', List.set_getElem_self]⟩
  have rg : rngD [.int 5] = some [.int 0, .int 1, .int 2, .int 3, .int 4] := rfl
  have rg2 : rngD [.int 10] = some [.int 0, .int 1, .int 2, .int 3, .int 4, .int 5, .int 6, .int 7, .int 8, .int 9] := rfl
  simp [-rngD_1, rg, rg2]
  refine Ev.for (fun xs s M' => ∃ (s1 s2 s3 s4 s5 : Option Val), s = [some (.ref n), s1, s2, s3, s4, s5] ∧ Wl M n M') _ _ _ ⟨none, none, none, none, none, rfl, w0⟩ ?_ ?_
  · rintro x xs s M' ⟨s1, s2, s3, s4, s5, rfl, w⟩
    refine ⟨[some (.ref n), some (.d x), s2, s3, s4, s5], rfl, ?_⟩
    exact right_step M _ _ _ _ _ w fun s2 s3 M2 w2 => ⟨_, s2, s3, s4, s5, rfl, w2⟩
  · rintro s M' ⟨s1, s2, s3, s4, s5, rfl, w⟩
    simp [-rngD_1, rg2]
    refine odds M _ _ _ _ _ _ w fun M2 w2 => ?_
    obtain ⟨w3, o, rfl⟩ := w2
    have ht := @set_take M n
    simp [b0, eq0, ht]
    exact k o w3
theorem law_true (ns : List Int) (hn : ns.length ≤ 63) : g_law [.d (.scr (ns.map D.int))] [] = .ok (.d (.bl true)) [] := by
  refine Ev.eq ?_
  unfold g_law
  rw [Ev_G1]
  have key : ∀ m : Int, 0 ≤ m → m ≤ 16777216 → (-16777216 ≤ m ∧ m ≤ 16777216) ∧ ∀ {P : List D → Mem → Prop}, (∀ ys M', allBl ys = some true → P ys M') → Ev (compLoop (evBlk [1] (.n 1) ifs0 e_law_1 [some (.d (.scr (ns.map D.int))), none]) (upto m.toNat 0) []) P := by
    intro m h0 h1
    refine ⟨⟨by omega, h1⟩, fun {P} q => ?_⟩
    rw [upto_map]
    refine Ev.compTrue (fun _ => True) _ _ trivial (fun x hx M _ => ?_) fun ys M' hy _ => q ys M' hy
    obtain ⟨i, _, rfl⟩ := List.mem_map.mp hx
    simp [e_law_1]
    refine well_ok ns (by omega) M fun a b c => ?_
    simp
    have w : Well (M ++ [.lst [.int a, .int b, .int c]]) M.length := ⟨a, b, c, by simp⟩
    refine right_ok w fun o w => ?_
    simp
  simp
  refine ⟨(key _ ?_ ?_).1, (key _ ?_ ?_).2 fun ys M2 hy => ?_⟩
  case refine_5 =>
    simp [hy]
  all_goals (split <;> (try split) <;> omega)
end K02
end P_K02Y
set_option Elab.async false
set_option linter.all false
set_option maxRecDepth 100000
namespace K02
open PySem PySem.Spec PyProof.Rows L2 DL
theorem F_of {P : Program} {w : World} {K : PySem.W.Frag} {mg : Str → Option Value} {fa : Addr} (T : Tx K mg) (h : mg "law" = some (.ref fa)) : ∃ fd : FuncData, (∀ (s : Shared) (u : Value), BindsTo s fd ⟨[u], []⟩ [("script", u)]) ∧ ∀ base : Heap, FnOk P w K mg base CX0 80 fa fd ["script"] (spF false K 1 g_law) := by
  obtain ⟨f, fd, m, F⟩ := T.d_law
  cases h.symm.trans m
  exact ⟨fd, law_binds F fun _ _ _ _ _ _ _ => rfl, fun base => (ok_law T F).mono (by decide)⟩
end K02
open PySem PySem.W PyProof.Rows DL in
set_option maxRecDepth 100000 in
set_option maxHeartbeats 0 in
theorem PySem.Challenge.cw_sockrows_k02_whole_rows_of_anything_holds : PySem.Challenge.rw_sockrows_k02_whole_rows_of_anything.Holds := by
  w_on; o_law; k_head; (case hw => w_witness2)
  k_fill
  refine DL.walk80 (l := PySem.Challenge.rw_sockrows_k02_whole_rows_of_anything) K02.g_law K02.law_true rfl rfl (fun w h Y => PySem.W.kIn_of Y) ?F
  case F =>
    intro w mg fa h KX G hmg
    refine K02.F_of (K := _) ?T hmg
    refine' K02.Tx.mk (mk_fun KX G ?a__law_take ?l__law_take ?c__law_take ?k__law_take) (mk_fun KX G ?a__law_drawn_row ?l__law_drawn_row ?c__law_drawn_row ?k__law_drawn_row) (mk_fun KX G ?a__law_is_row ?l__law_is_row ?c__law_is_row ?k__law_is_row) (mk_fun KX G ?a__law_is ?l__law_is ?c__law_is ?k__law_is) (mk_fun KX G ?a_is_text_of ?l_is_text_of ?c_is_text_of ?k_is_text_of) (mk_fun KX G ?a_is_rowed ?l_is_rowed ?c_is_rowed ?k_is_rowed) (mk_fun KX G ?a_check_row ?l_check_row ?c_check_row ?k_check_row) (mk_fun KX G ?a_lumps_of ?l_lumps_of ?c_lumps_of ?k_lumps_of) (mk_fun KX G ?a_text_of_lumps ?l_text_of_lumps ?c_text_of_lumps ?k_text_of_lumps) (mk_fun KX G ?a_lumps_text ?l_lumps_text ?c_lumps_text ?k_lumps_text) (mk_fun KX G ?a_count_told ?l_count_told ?c_count_told ?k_count_told) (mk_fun KX G ?a_lump_told ?l_lump_told ?c_lump_told ?k_lump_told) (mk_fun KX G ?a_row_of_lumps ?l_row_of_lumps ?c_row_of_lumps ?k_row_of_lumps) (mk_fun KX G ?a_check_told ?l_check_told ?c_check_told ?k_check_told) (mk_fun KX G ?a_read_lumps ?l_read_lumps ?c_read_lumps ?k_read_lumps) (mk_fun KX G ?a_is_row ?l_is_row ?c_is_row ?k_is_row) (mk_fun KX G ?a_lump_count_by ?l_lump_count_by ?c_lump_count_by ?k_lump_count_by) (mk_fun KX G ?a_lump_count ?l_lump_count ?c_lump_count ?k_lump_count) (mk_fun KX G ?a__law_lumps ?l__law_lumps ?c__law_lumps ?k__law_lumps) (mk_fun KX G ?a_colours_by ?l_colours_by ?c_colours_by ?k_colours_by) (mk_fun KX G ?a_colours_of ?l_colours_of ?c_colours_of ?k_colours_of) (mk_fun KX G ?a_named_by ?l_named_by ?c_named_by ?k_named_by) (mk_fun KX G ?a_named ?l_named ?c_named ?k_named) (mk_fun KX G ?a_lumps ?l_lumps ?c_lumps ?k_lumps) (mk_fun KX G ?a_is_tidy_by ?l_is_tidy_by ?c_is_tidy_by ?k_is_tidy_by) (mk_fun KX G ?a_is_tidy ?l_is_tidy ?c_is_tidy ?k_is_tidy) (mk_fun KX G ?a__law_refused ?l__law_refused ?c__law_refused ?k__law_refused) (mk_fun KX G ?a__law_value_right ?l__law_value_right ?c__law_value_right ?k__law_value_right) (mk_fun KX G ?a__law_pick ?l__law_pick ?c__law_pick ?k__law_pick) (mk_fun KX G ?a__law_odd ?l__law_odd ?c__law_odd ?k__law_odd) (mk_fun KX G ?a__law_bent_row ?l__law_bent_row ?c__law_bent_row ?k__law_bent_row) (mk_fun KX G ?a__law_right ?l__law_right ?c__law_right ?k__law_right) (mk_fun KX G ?a__law_well ?l__law_well ?c__law_well ?k__law_well) (mk_fun KX G ?a_law ?l_law ?c_law ?k_law) (mk_none KX G ?b_abs) (mk_none KX G ?b_all) (mk_none KX G ?b_bool) (mk_none KX G ?b_dict) (mk_none KX G ?b_divmod) (mk_none KX G ?b_enumerate) (mk_none KX G ?b_int) (mk_none KX G ?b_isinstance) (mk_none KX G ?b_len) (mk_none KX G ?b_list) (mk_none KX G ?b_max) (mk_none KX G ?b_min) (mk_none KX G ?b_range) (mk_none KX G ?b_sorted) (mk_none KX G ?b_str) (mk_none KX G ?b_sum) (mk_none KX G ?b_tuple) (mk_cstS KX G ?c_BLANK ?e_c_BLANK) (mk_cstS KX G ?c_COLOURS ?e_c_COLOURS) (mk_cstS KX G ?c_DIGITS ?e_c_DIGITS) (mk_cstI KX G ?c_MOST_SOCKS) (mk_cstS KX G ?c_NONE_TEXT ?e_c_NONE_TEXT) (mk_xtab KX G ?x_aS (.cons (mk_xgv KX G ?x0_aC ?x0_xL ?x0_sa ?x0_ga ?x0_gg ?x0_nb ?x0_a1 ?x0_t1 ?x0_l1 ?x0_c1 ?x0_kC ?x0_eC ?x0_tC ?x0_hC ?x0_eS ?x0_hS ?x0_tS ?x0_sS ?x0_cC ?x0_ha ?x0_hn ?x0_ht ?x0_hm ?x0_iV) .nil) ⟨⟨kit_self' _ _ _, trivial⟩, trivial⟩)
    (case a__law_take => k_is); (case l__law_take => k_is); (case c__law_take => k_is); (case k__law_take => k_is)
    (case a__law_drawn_row => k_is); (case l__law_drawn_row => k_is); (case c__law_drawn_row => k_is); (case k__law_drawn_row => k_is)
    (case a__law_is_row => k_is); (case l__law_is_row => k_is); (case c__law_is_row => k_is); (case k__law_is_row => k_is)
    (case a__law_is => k_is); (case l__law_is => k_is); (case c__law_is => k_is); (case k__law_is => k_is)
    (case a_is_text_of => k_is); (case l_is_text_of => k_is); (case c_is_text_of => k_is); (case k_is_text_of => k_is)
    (case a_is_rowed => k_is); (case l_is_rowed => k_is); (case c_is_rowed => k_is); (case k_is_rowed => k_is)
    (case a_check_row => k_is); (case l_check_row => k_is); (case c_check_row => k_is); (case k_check_row => k_is)
    (case a_lumps_of => k_is); (case l_lumps_of => k_is); (case c_lumps_of => k_is); (case k_lumps_of => k_is)
    (case a_text_of_lumps => k_is); (case l_text_of_lumps => k_is); (case c_text_of_lumps => k_is); (case k_text_of_lumps => k_is)
    (case a_lumps_text => k_is); (case l_lumps_text => k_is); (case c_lumps_text => k_is); (case k_lumps_text => k_is)
    (case a_count_told => k_is); (case l_count_told => k_is); (case c_count_told => k_is); (case k_count_told => k_is)
    (case a_lump_told => k_is); (case l_lump_told => k_is); (case c_lump_told => k_is); (case k_lump_told => k_is)
    (case a_row_of_lumps => k_is); (case l_row_of_lumps => k_is); (case c_row_of_lumps => k_is); (case k_row_of_lumps => k_is)
    (case a_check_told => k_is); (case l_check_told => k_is); (case c_check_told => k_is); (case k_check_told => k_is)
    (case a_read_lumps => k_is); (case l_read_lumps => k_is); (case c_read_lumps => k_is); (case k_read_lumps => k_is)
    (case a_is_row => k_is); (case l_is_row => k_is); (case c_is_row => k_is); (case k_is_row => k_is)
    (case a_lump_count_by => k_is); (case l_lump_count_by => k_is); (case c_lump_count_by => k_is); (case k_lump_count_by => k_is)
    (case a_lump_count => k_is); (case l_lump_count => k_is); (case c_lump_count => k_is); (case k_lump_count => k_is)
    (case a__law_lumps => k_is); (case l__law_lumps => k_is); (case c__law_lumps => k_is); (case k__law_lumps => k_is)
    (case a_colours_by => k_is); (case l_colours_by => k_is); (case c_colours_by => k_is); (case k_colours_by => k_is)
    (case a_colours_of => k_is); (case l_colours_of => k_is); (case c_colours_of => k_is); (case k_colours_of => k_is)
    (case a_named_by => k_is); (case l_named_by => k_is); (case c_named_by => k_is); (case k_named_by => k_is)
    (case a_named => k_is); (case l_named => k_is); (case c_named => k_is); (case k_named => k_is)
    (case a_lumps => k_is); (case l_lumps => k_is); (case c_lumps => k_is); (case k_lumps => k_is)
    (case a_is_tidy_by => k_is); (case l_is_tidy_by => k_is); (case c_is_tidy_by => k_is); (case k_is_tidy_by => k_is)
    (case a_is_tidy => k_is); (case l_is_tidy => k_is); (case c_is_tidy => k_is); (case k_is_tidy => k_is)
    (case a__law_refused => k_is); (case l__law_refused => k_is); (case c__law_refused => k_is); (case k__law_refused => k_is)
    (case a__law_value_right => k_is); (case l__law_value_right => k_is); (case c__law_value_right => k_is); (case k__law_value_right => k_is)
    (case a__law_pick => k_is); (case l__law_pick => k_is); (case c__law_pick => k_is); (case k__law_pick => k_is)
    (case a__law_odd => k_is); (case l__law_odd => k_is); (case c__law_odd => k_is); (case k__law_odd => k_is)
    (case a__law_bent_row => k_is); (case l__law_bent_row => k_is); (case c__law_bent_row => k_is); (case k__law_bent_row => k_is)
    (case a__law_right => k_is); (case l__law_right => k_is); (case c__law_right => k_is); (case k__law_right => k_is)
    (case a__law_well => k_is); (case l__law_well => k_is); (case c__law_well => k_is); (case k__law_well => k_is)
    (case a_law => k_is); (case l_law => k_is); (case c_law => k_is); (case k_law => k_is)
    (case b_abs => k_is)
    (case b_all => k_is)
    (case b_bool => k_is)
    (case b_dict => k_is)
    (case b_divmod => k_is)
    (case b_enumerate => k_is)
    (case b_int => k_is)
    (case b_isinstance => k_is)
    (case b_len => k_is)
    (case b_list => k_is)
    (case b_max => k_is)
    (case b_min => k_is)
    (case b_range => k_is)
    (case b_sorted => k_is)
    (case b_str => k_is)
    (case b_sum => k_is)
    (case b_tuple => k_is)
    (case c_BLANK => k_is); (case e_c_BLANK => decide +kernel)
    (case c_COLOURS => k_is); (case e_c_COLOURS => decide +kernel)
    (case c_DIGITS => k_is); (case e_c_DIGITS => decide +kernel)
    (case c_MOST_SOCKS => k_is)
    (case c_NONE_TEXT => k_is); (case e_c_NONE_TEXT => decide +kernel)
    (case x_aS => k_is)
    (case x0_aC => first | k_is | rfl | kit_is); (case x0_xL => first | k_is | rfl | kit_is); (case x0_sa => first | k_is | rfl | kit_is); (case x0_ga => first | k_is | rfl | kit_is); (case x0_gg => first | k_is | rfl | kit_is); (case x0_nb => first | k_is | rfl | kit_is)
    (case x0_a1 => first | k_is | rfl | kit_is); (case x0_t1 => first | k_is | rfl | kit_is); (case x0_l1 => first | k_is | rfl | kit_is); (case x0_c1 => first | k_is | rfl | kit_is); (case x0_kC => first | k_is | rfl | kit_is); (case x0_eC => first | k_is | rfl | kit_is)
    (case x0_tC => first | k_is | rfl | kit_is); (case x0_hC => first | k_is | rfl | kit_is); (case x0_eS => first | k_is | rfl | kit_is); (case x0_hS => first | k_is | rfl | kit_is); (case x0_tS => first | k_is | rfl | kit_is); (case x0_sS => first | k_is | rfl | kit_is)
    (case x0_cC => first | k_is | rfl | kit_is); (case x0_ha => first | k_is | rfl | kit_is); (case x0_hn => first | k_is | rfl | kit_is); (case x0_ht => first | k_is | rfl | kit_is); (case x0_hm => first | k_is | rfl | kit_is); (case x0_iV => first | k_is | rfl | kit_is)
