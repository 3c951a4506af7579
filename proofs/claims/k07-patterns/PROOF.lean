import PyProof.Rows.All
import Wide.All
import OpenK.AllK
import Wide.FinOn
import HandS.ForMost
import HandS.Walk
import HandS.Zip
import HandS.Strs
import HandS.More
import HandS.StrMore
import HandS.Style
import HandS.TupLe
import HandS.TupAny
import HandS.TupMul
import HandS.IsInst
import HandS.Steps
import HandS.Wide
import HandS.Deep
import HandS.Remove
import HandS.Flow
import HandS.SortInts
import HandS.EndBits
import KE.DataMinMax
import KE.DataFind
import KE.SortUse
import HandS.Defaults
import HandS.Ends
import KE.KRevSl
import KE.GoesEnum
import HandS.Exc
import HandS.ExcIs
import KE.KExcIs
import HandS.ForExc
import KE.KTupSum
import KE.GoesMore
import PyProof.FactsAll.tuple_2
import KE.SortData
import PyProof.StrLawsLast
import HandS.Dict
import PyProof.CollectStr
import PyProof.TupleOfSeq
import HandS.DictComp
import HandS.MapObj
import HandS.Conv
import PyProof.CollectIter
import HandS.SortKw
import PyProof.CodeObj
import HandS.RepeatKit
import HandS.GenList
import HandS.ExcValue
import HandS.Gcd
import HandS.Star
import KE.KMathGC
import PySem.Challenge.RW_sockrows_k07_whole_patterns_of_anything
section P_DL0
set_option linter.all false
/-! The core language of this work: plain data, a small store of lists that are changed, and an evaluator. No program in sight. -/
namespace DL

/-- plain data -/
inductive D where
  | non | bl (b : Bool) | int (i : Int) | str (s : List Char) | tup (l : List D) | lst (l : List D) | dic (l : List (D × D)) | scr (l : List D)
  deriving Inhabited
/-- a list, a dict that may be changed -/
inductive MO where
  | lst (l : List D) | dic (l : List (D × D))
  deriving Inhabited
inductive Val where
  | d (x : D) | ref (n : Nat)
  deriving Inhabited
abbrev Mem := List MO
abbrev Sl := List (Option Val)
inductive Res (α : Type) where
  | ok (a : α) (m : Mem) | bad
def Res.bind {α β : Type} (r : Res α) (f : α → Mem → Res β) : Res β := match r with
  | .ok a m => f a m
  | .bad => .bad
@[simp] theorem Res.bind_ok {α β : Type} (a : α) (m : Mem) (f : α → Mem → Res β) : (Res.ok a m).bind f = f a m := rfl
@[simp] theorem Res.bind_bad {α β : Type} (f : α → Mem → Res β) : (Res.bad : Res α).bind f = .bad := rfl
/-- a value or nothing, in the store as it stands -/
def Res.of {α : Type} (o : Option α) (m : Mem) : Res α := match o with
  | some a => .ok a m
  | none => .bad
@[simp] theorem Res.of_some {α : Type} (a : α) (m : Mem) : Res.of (some a) m = .ok a m := rfl
@[simp] theorem Res.of_none {α : Type} (m : Mem) : Res.of (none : Option α) m = .bad := rfl

def MO.toD : MO → D
  | .lst l => .lst l
  | .dic l => .dic l
def view (M : Mem) : Val → Option D
  | .d x => some x
  | .ref n => (M[n]?).map MO.toD
@[simp] theorem view_d (M : Mem) (x : D) : view M (.d x) = some x := rfl
@[simp] theorem view_ref (M : Mem) (n : Nat) : view M (.ref n) = (M[n]?).map MO.toD := rfl
def views (M : Mem) : List Val → Option (List D)
  | [] => some []
  | v :: vs => match view M v, views M vs with
    | some x, some xs => some (x :: xs)
    | _, _ => none
@[simp] theorem views_nil (M : Mem) : views M [] = some [] := rfl
@[simp] theorem views_cons (M : Mem) (v : Val) (vs : List Val) : views M (v :: vs) = match view M v, views M vs with
    | some x, some xs => some (x :: xs)
    | _, _ => none := rfl

/-! ### the most that a text, a list holds -/
abbrev big : Nat := 16777216

/-! ### equality as Python has it -/
mutual
def D.eqv : D → D → Bool
  | .non, .non => true
  | .bl a, .bl b => a == b
  | .bl a, .int j => (if a then 1 else 0) == j
  | .int i, .bl b => i == (if b then 1 else 0)
  | .int i, .int j => i == j
  | .str x, .str y => x == y
  | .tup x, .tup y => D.eqvs x y
  | .lst x, .lst y => D.eqvs x y
  | _, _ => false
def D.eqvs : List D → List D → Bool
  | [], [] => true
  | x :: xs, y :: ys => D.eqv x y && D.eqvs xs ys
  | _, _ => false
end
def D.flat : D → Bool
  | .non | .bl _ | .int _ | .str _ => true
  | _ => false
mutual
/-- nested no deeper than n, no dict within -/
def D.shal : Nat → D → Bool
  | _, .non | _, .bl _ | _, .int _ | _, .str _ => true
  | 0, _ => false
  | n + 1, .tup l => D.shals n l
  | n + 1, .lst l => D.shals n l
  | _ + 1, .dic _ => false
  | _ + 1, .scr _ => false
def D.shals : Nat → List D → Bool
  | _, [] => true
  | n, x :: xs => D.shal n x && D.shals n xs
end
def eqD (x y : D) : Option Bool :=
  if (x.flat && y.flat) || (x.shal 60 && y.shal 60) then some (x.eqv y) else none

/-! ### order -/
def ltS : List Char → List Char → Bool
  | [], [] => false
  | [], _ :: _ => true
  | _ :: _, [] => false
  | a :: x, b :: y => if a.toNat < b.toNat then true else if a.toNat = b.toNat then ltS x y else false
def ltFlat : D → D → Option Bool
  | .int i, .int j => some (decide (i < j))
  | .str x, .str y => some (ltS x y)
  | _, _ => none

/-! ### operators -/
inductive Bop where
  | add | sub | mul | fdiv | mod | pow
  deriving DecidableEq
inductive Cop where
  | eq | ne | lt | le | gt | ge | isin | notin | is | isnot
  deriving DecidableEq
/-- one factor of 64 bits, or both together of less than a million -/
def mulOk (i j : Int) : Bool := decide ((-(2 ^ 64) < i ∧ i < 2 ^ 64) ∨ (-(2 ^ 64) < j ∧ j < 2 ^ 64))
def rep {α : Type} (n : Nat) (l : List α) : List α := match n with
  | 0 => []
  | n + 1 => l ++ rep n l
def binD : Bop → D → D → Option D
  | .add, .int i, .int j => some (.int (i + j))
  | .add, .str x, .str y => if x.length + y.length ≤ big then some (.str (x ++ y)) else none
  | .add, .lst x, .lst y => if x.length + y.length ≤ big then some (.lst (x ++ y)) else none
  | .add, .tup x, .tup y => if x.length + y.length ≤ big then some (.tup (x ++ y)) else none
  | .sub, .int i, .int j => some (.int (i - j))
  | .mul, .int i, .int j => if mulOk i j then some (.int (i * j)) else none
  | .mul, .str x, .int j => if 0 ≤ j ∧ j < 1000 ∧ x.length ≤ 1000 then some (.str (rep j.toNat x)) else none
  | .mul, .lst x, .int j => if 0 ≤ j ∧ j < 1000 ∧ x.length ≤ 1000 then some (.lst (rep j.toNat x)) else none
  | .mul, .tup x, .int j => if 2 ≤ j ∧ j < 1000 ∧ x.length ≤ 1000 ∧ 0 < x.length then some (.tup (rep j.toNat x)) else none
  | .fdiv, .int i, .int j => if 0 < j ∧ j < 1073741824 then some (.int (i / j)) else none
  | .mod, .int i, .int j => if 0 < j then some (.int (i % j)) else none
  | .pow, .int i, .int j => if 0 ≤ j ∧ j ≤ 1000000 ∧ i.natAbs < 2 ^ 64 then some (.int (i ^ j.toNat)) else none
  | _, _, _ => none
def inD : D → D → Option Bool
  | .str [c], .str y => some (y.contains c)
  | x, .lst l => if x.shal 60 && D.shals 60 l then some (l.any fun y => y.eqv x) else none
  | x, .tup l => if x.shal 60 && D.shals 60 l then some (l.any fun y => y.eqv x) else none
  | _, _ => none
def cmpD : Cop → D → D → Option Bool
  | .eq, x, y => eqD x y
  | .ne, x, y => (eqD x y).map (!·)
  | .lt, x, y => ltFlat x y
  | .gt, x, y => ltFlat y x
  | .le, x, y => (ltFlat y x).map (!·)
  | .ge, x, y => (ltFlat x y).map (!·)
  | .isin, x, y => inD x y
  | .notin, x, y => (inD x y).map (!·)
  | .is, x, .non => some (match x with | .non => true | _ => false)
  | .isnot, x, .non => some (match x with | .non => false | _ => true)
  | .is, x, .bl b => some (match x with | .bl a => decide (a = b) | _ => false)
  | .isnot, x, .bl b => some (match x with | .bl a => !decide (a = b) | _ => true)
  | _, _, _ => none

def cmpV (o : Cop) (x y : D) : Option D := (cmpD o x y).map D.bl

/-! ### what walks -/
def items : D → Option (List D)
  | .lst l => some l
  | .tup l => some l
  | .str s => some (s.map fun c => .str [c])
  | .scr l => some l
  | _ => none
def upto : Nat → Int → List D
  | 0, _ => []
  | n + 1, i => .int i :: upto n (i + 1)
def rngD : List D → Option (List D)
  | [.int n] => if -16777216 ≤ n ∧ n ≤ 16777216 then some (upto n.toNat 0) else none
  | [.int a, .int b] => if -16777216 ≤ a ∧ a ≤ 16777216 ∧ -16777216 ≤ b ∧ b ≤ 16777216 ∧ b - a ≤ 16777216 then some (upto (b - a).toNat a) else none
  | _ => none
def enumFrom : Int → List D → List D
  | _, [] => []
  | i, x :: xs => .tup [.int i, x] :: enumFrom (i + 1) xs

/-! ### built-in functions by their names -/
inductive Bi where
  | len | int | abs | sum | max | min | max2 | min2 | all | any | tuple | list | sorted | divmod | lenset
  deriving DecidableEq
def sumInts : List D → Option Int
  | [] => some 0
  | .int i :: r => (sumInts r).map (i + ·)
  | _ => none
def allBl : List D → Option Bool
  | [] => some true
  | .bl b :: r => (allBl r).map (b && ·)
  | _ => none
def anyBl : List D → Option Bool
  | [] => some false
  | .bl b :: r => (anyBl r).map (b || ·)
  | _ => none
/-- the greatest (the least), the first of several -/
def bestD (better : D → D → Option Bool) : D → List D → Option D
  | x, [] => some x
  | x, y :: r => match better y x with
    | some true => bestD better y r
    | some false => bestD better x r
    | none => none
/-- both ints or both texts -/
def like2 : D → D → Bool
  | .int _, .int _ => true
  | .str _, .str _ => true
  | _, _ => false
def insD (x : D) : List D → Option (List D)
  | [] => some [x]
  | y :: r => match ltFlat x y with
    | some true => some (x :: y :: r)
    | some false => (insD x r).map (y :: ·)
    | none => none
def sortD : List D → Option (List D)
  | [] => some []
  | x :: r => match sortD r with
    | some s => insD x s
    | none => none
def lenD : D → Option Int
  | .str s => some s.length
  | .lst l => some l.length
  | .tup l => some l.length
  | .scr l => some l.length
  | _ => none
def biD : Bi → List D → Option D
  | .len, [x] => (lenD x).map .int
  | .int, [.int i] => some (.int i)
  | .int, [.bl b] => some (.int (if b then 1 else 0))
  | .abs, [.int i] => some (.int (if i < 0 then -i else i))
  | .sum, [.lst l] => (sumInts l).map .int
  | .max, [.lst (x :: r)] => if like2 x x then bestD (fun a b => ltFlat b a) x r else none
  | .max, [.tup (x :: r)] => if like2 x x then bestD (fun a b => ltFlat b a) x r else none
  | .min, [.lst (x :: r)] => if like2 x x then bestD ltFlat x r else none
  | .min, [.tup (x :: r)] => if like2 x x then bestD ltFlat x r else none
  | .max2, [.int i, .int j] => some (.int (if j > i then j else i))
  | .min2, [.int i, .int j] => some (.int (if j < i then j else i))
  | .all, [.lst l] => (allBl l).map .bl
  | .any, [.lst l] => (anyBl l).map .bl
  | .tuple, [.lst l] => some (.tup l)
  | .tuple, [.tup l] => some (.tup l)
  | .list, [.lst l] => some (.lst l)
  | .list, [.tup l] => some (.lst l)
  | .list, [.str s] => some (.lst (s.map fun c => .str [c]))
  | .sorted, [.lst l] => if l.length < 64 then (sortD l).map .lst else none
  | .divmod, [.int i, .int j] => if 0 < j ∧ j < 1073741824 then some (.tup [.int (i / j), .int (i % j)]) else none
  | .lenset, [.str s] => some (.int s.eraseDups.length)
  | _, _ => none
inductive Ty where
  | int | bool | str | tuple | list | dict
  deriving DecidableEq
def isiD (t : Ty) : D → Option D
  | .non => some (.bl false)
  | .bl _ => some (.bl (t == .bool || t == .int))
  | .int _ => some (.bl (t == .int))
  | .str _ => some (.bl (t == .str))
  | .tup _ => some (.bl (t == .tuple))
  | .lst _ => some (.bl (t == .list))
  | .dic _ => some (.bl (t == .dict))
  | _ => none

inductive Kd where
  | str | lst | tup | dic | oth
  deriving DecidableEq
def kd : D → Kd
  | .str _ => .str | .lst _ => .lst | .tup _ => .tup | .dic _ => .dic | _ => .oth

/-! ### methods that change nothing -/
inductive Me where
  | join | count | index | rindex | upper | startswith
  deriving DecidableEq
def texts : List D → Option (List (List Char))
  | [] => some []
  | .str s :: r => (texts r).map (s :: ·)
  | _ => none
def glue (sep : List Char) : List (List Char) → List Char
  | [] => []
  | [x] => x
  | x :: r => x ++ sep ++ glue sep r
def lens : List (List Char) → Nat
  | [] => 0
  | x :: r => x.length + lens r
def joinD (sep : List Char) (l : List D) : Option D := match texts l with
  | some ts => if lens ts + ts.length * sep.length ≤ big then some (.str (glue sep ts)) else none
  | none => none
def place {α : Type} (p : α → Bool) : List α → Option Nat
  | [] => none
  | x :: r => if p x then some 0 else (place p r).map (· + 1)
def upC (c : Char) : Char := if 97 ≤ c.toNat ∧ c.toNat ≤ 122 then Char.ofNat (c.toNat - 32) else c
def meD : Me → D → List D → Option D
  | .join, .str sep, [.lst l] => joinD sep l
  | .join, .str sep, [.tup l] => joinD sep l
  | .count, .str s, [.str [c]] => some (.int (s.count c))
  | .index, .str s, [.str [c]] => (place (· == c) s).map fun (n : Nat) => .int n
  | .index, .lst l, [x] => if x.flat && l.all D.flat then (place (fun y => y.eqv x) l).map fun (n : Nat) => .int n else none
  | .rindex, .str s, [.str [c]] => (place (· == c) s.reverse).map fun (n : Nat) => .int (s.length - 1 - n : Nat)
  | .upper, .str s, [] => if s.length ≤ 1000 ∧ s.all (fun c => decide (c.toNat < 128)) = true then some (.str (s.map upC)) else none
  | .startswith, .str s, [.str t] => some (.bl (t.isPrefixOf s))
  | _, _, _ => none

/-! ### subscripts -/
def at_ {α : Type} (l : List α) (i : Int) : Option α :=
  if 0 ≤ i then l[i.toNat]? else if 0 ≤ i + l.length then l[(i + l.length).toNat]? else none
def subD : D → D → Option D
  | .lst l, .int i => at_ l i
  | .tup l, .int i => at_ l i
  | .scr l, .int i => at_ l i
  | .str s, .int i => (at_ s i).map fun c => .str [c]
  | _, _ => none
/-- a bound of a slice within 0 .. n -/
def bound (n : Nat) (i : Int) : Nat :=
  if 0 ≤ i then min i.toNat n else (i + n).toNat
def cut {α : Type} (l : List α) (lo hi : Option Int) : List α :=
  let a := match lo with | some i => bound l.length i | none => 0
  let b := match hi with | some i => bound l.length i | none => l.length
  (l.drop a).take (b - a)
def bndD : Option D → Option (Option Int)
  | none => some none
  | some (.int i) => some (some i)
  | _ => none
def sliceD : D → Option D → Option D → Option D
  | x, lo, hi => match bndD lo, bndD hi with
    | some a, some b => match x with
      | .lst l => some (.lst (cut l a b))
      | .scr l => some (.lst (cut l a b))
      | .tup l => some (.tup (cut l a b))
      | .str s => some (.str (cut s a b))
      | _ => none
    | _, _ => none
def revD : D → Option D
  | .str s => some (.str s.reverse)
  | .lst l => some (.lst l.reverse)
  | _ => none

/-! ### methods that change a list -/
inductive Mu where
  | append | extend | pop | popAt | remove
  deriving DecidableEq
def muD : Mu → MO → List D → Option (D × MO)
  | .append, .lst l, [x] => if l.length < big then some (.non, .lst (l ++ [x])) else none
  | .extend, .lst l, [.lst k] => if l.length + k.length ≤ big then some (.non, .lst (l ++ k)) else none
  | .pop, .lst l, [] => match l.getLast? with | some x => some (x, .lst l.dropLast) | none => none
  | .popAt, .lst l, [.int i] => if 0 ≤ i ∧ i < 2 ^ 62 then (match l[i.toNat]? with | some x => some (x, .lst (l.eraseIdx i.toNat)) | none => none) else none
  | .remove, .lst l, [x] => if x.flat && l.all D.flat then (place (fun y => y.eqv x) l).map fun (n : Nat) => (.non, .lst (l.eraseIdx n)) else none
  | _, _, _ => none
/-- the values that are plain data -/
def plainVs : List Val → Option (List D)
  | [] => some []
  | .d x :: r => (plainVs r).map (x :: ·)
  | .ref _ :: _ => none
/-- the arguments of such a method -/
def argsOf (m : Mu) (M : Mem) (vs : List Val) : Option (List D) := match m with
  | .extend => views M vs
  | _ => plainVs vs
def setD : MO → D → D → Option MO
  | .lst l, .int i, x => if 0 ≤ i ∧ i < 2 ^ 62 ∧ i.toNat < l.length then some (.lst (l.set i.toNat x))
      else if i < 0 ∧ -(2 ^ 62) < i ∧ 0 ≤ i + l.length then some (.lst (l.set (i + l.length).toNat x)) else none
  | _, _, _ => none

/-! ### running -/
inductive Tg where
  | n (i : Nat) | t (l : List Tg)
inductive Flow where
  | nx (s : Sl) | ret (v : Val) | brk (s : Sl) | cont (s : Sl)

mutual
def bindTg : Tg → D → Sl → Option Sl
  | .n i, x, s => if i < s.length then some (s.set i (some (.d x))) else none
  | .t l, .tup xs, s => bindTgs l xs s
  | _, _, _ => none
def bindTgs : List Tg → List D → Sl → Option Sl
  | [], [], s => some s
  | t :: ts, x :: xs, s => match bindTg t x s with
    | some s' => bindTgs ts xs s'
    | none => none
  | _, _, _ => none
end
def wipeS (s : Sl) : List Nat → Sl
  | [] => s
  | i :: r => (wipeS s r).set i none
def tru : D → Option Bool
  | .bl b => some b
  | _ => none
/-- the items of a comprehension: the block b at each, which gives an item or none -/
def compLoop (b : D → Mem → Res (Option D)) : List D → Mem → Res (List D)
  | [], M => .ok [] M
  | x :: xs, M => (b x M).bind fun o M1 => (compLoop b xs M1).bind fun ys M2 => match o with
    | some y => .ok (y :: ys) M2
    | none => .ok ys M2
/-- values by their places: the arguments by place, then those by name -/
def byNames (n : Nat) (vs : List Val) (ks : List Nat) (kvs : List Val) : Option (List Val) :=
  (List.range n).mapM fun i => if i < vs.length then vs[i]? else ((ks.zip kvs).find? (·.1 == i)).map (·.2)

/-- a test -/
def toB (r : Res Val) : Res Bool := r.bind fun v M1 => match v with
  | .d (.bl b) => .ok b M1
  | _ => .bad

def setMany : List Nat → List Val → Sl → Option Sl
  | [], [], s => some s
  | i :: is, v :: vs, s => if i < s.length then setMany is vs (s.set i (some v)) else none
  | _, _, _ => none
def forLoop (b : Sl → Mem → Res Flow) (t : Tg) : List D → Sl → Mem → Res Flow
  | [], s, M => .ok (.nx s) M
  | x :: xs, s, M => match bindTg t x s with
    | some s1 => (b s1 M).bind fun f M2 => match f with
      | .nx s2 => forLoop b t xs s2 M2
      | .cont s2 => forLoop b t xs s2 M2
      | .brk s2 => .ok (.nx s2) M2
      | .ret v => .ok (.ret v) M2
    | none => .bad
def whileLoop (c : Sl → Mem → Res Bool) (b : Sl → Mem → Res Flow) : Nat → Sl → Mem → Res Flow
  | 0, _, _ => .bad
  | n + 1, s, M => (c s M).bind fun t M1 => if t then (b s M1).bind fun f M2 => match f with
      | .nx s2 => whileLoop c b n s2 M2
      | .cont s2 => whileLoop c b n s2 M2
      | .brk s2 => .ok (.nx s2) M2
      | .ret v => .ok (.ret v) M2
    else .ok (.nx s) M1
/-- the most turns of a while -/
def turns : Nat := 1000000
/-- what a body that ended hands back: plain data, or (fresh) the content of a list that it made; its own lists are dropped -/
def handBack (fresh : Bool) (base : Nat) (f : Flow) (M : Mem) : Res Val := match f with
  | .ret (.d x) => if fresh then .bad else .ok (.d x) (M.take base)
  | .ret (.ref k) => if fresh ∧ base ≤ k then (match M[k]? with | some o => .ok (.d o.toD) (M.take base) | none => .bad) else .bad
  | .nx _ => if fresh then .bad else .ok (.d .non) (M.take base)
  | _ => .bad
end DL
end P_DL0
section P_DL1
set_option Elab.async false
set_option linter.all false
set_option maxRecDepth 100000
set_option maxHeartbeats 1000000
/-! The tie between the evaluator's states and the abstract heap of HandS. -/
namespace DL
open PySem PySem.Spec PyProof.Rows L2

/-- a text of signs as the machine has it -/
def enc (s : List Char) : Str := ⟨(s.map Char.toNat).toArray⟩
abbrev Fr := PySem.W.Frag

/-! ### what stands for a datum -/
mutual
inductive Rep (K : Fr) (F : Hp) : D → V → Prop
  | non : Rep K F .non .non
  | bl (b : Bool) : Rep K F (.bl b) (.bl b)
  | int (i : Int) : Rep K F (.int i) (.int i)
  | str (s : List Char) : s.length ≤ big → Rep K F (.str s) (.str (enc s))
  | tup {a : Addr} {vs : List V} {ds : List D} : ds.length ≤ big → SqT K F a vs → Reps K F ds vs → Rep K F (.tup ds) (.ref a)
  | lst {a : Addr} {vs : List V} {ds : List D} : ds.length ≤ big → F a = some (.lst vs) → Reps K F ds vs → Rep K F (.lst ds) (.ref a)
  | scr {a : Addr} {vs : List V} {ds : List D} : ds.length ≤ big → SqL K F a vs → Reps K F ds vs → Rep K F (.scr ds) (.ref a)
  | dic {a : Addr} (l : List (List Char × Int)) : (l.map (·.1)).Nodup → F a = some (.dK (l.map fun p => (Sum.inr (enc p.1), V.int p.2))) → Rep K F (.dic (l.map fun p => (D.str p.1, D.int p.2))) (.ref a)
inductive Reps (K : Fr) (F : Hp) : List D → List V → Prop
  | nil : Reps K F [] []
  | cons {d : D} {v : V} {ds : List D} {vs : List V} : Rep K F d v → Reps K F ds vs → Reps K F (d :: ds) (v :: vs)
end

/-- one abstract heap within another -/
def Sub (F H : Hp) : Prop := ∀ a o, F a = some o → H a = some o
theorem Sub.refl (F : Hp) : Sub F F := fun _ _ h => h
theorem Sub.trans {F G H : Hp} (a : Sub F G) (b : Sub G H) : Sub F H := fun c o h => b c o (a c o h)
theorem Sub.sqT {K : Fr} {F G : Hp} (s : Sub F G) {a : Addr} {vs : List V} (h : SqT K F a vs) : SqT K G a vs := by
  rcases h with (h | ⟨o, h⟩) | h
  · exact .inl (.inl (s _ _ h))
  · exact .inl (.inr ⟨o, s _ _ h⟩)
  · exact .inr h
theorem Sub.sqL {K : Fr} {F G : Hp} (s : Sub F G) {a : Addr} {vs : List V} (h : SqL K F a vs) : SqL K G a vs := by
  rcases h with (h | ⟨o, h⟩) | h
  · exact .inl (.inl (s _ _ h))
  · exact .inl (.inr ⟨o, s _ _ h⟩)
  · exact .inr h
mutual
theorem Rep.mono {K : Fr} {F G : Hp} (s : Sub F G) : ∀ {d : D} {v : V}, Rep K F d v → Rep K G d v
  | _, _, .non => .non
  | _, _, .bl b => .bl b
  | _, _, .int i => .int i
  | _, _, .str x z => .str x z
  | _, _, .tup z h r => .tup z (s.sqT h) (Reps.mono s r)
  | _, _, .lst z h r => .lst z (s _ _ h) (Reps.mono s r)
  | _, _, .scr z h r => .scr z (s.sqL h) (Reps.mono s r)
  | _, _, .dic l z h => .dic l z (s _ _ h)
theorem Reps.mono {K : Fr} {F G : Hp} (s : Sub F G) : ∀ {d : List D} {v : List V}, Reps K F d v → Reps K G d v
  | _, _, .nil => .nil
  | _, _, .cons h r => .cons (Rep.mono s h) (Reps.mono s r)
end
section
variable {K : Fr} {F : Hp}
theorem Reps.length : ∀ {ds : List D} {vs : List V}, Reps K F ds vs → ds.length = vs.length
  | _, _, .nil => rfl
  | _, _, .cons _ r => congrArg (· + 1) r.length
theorem Reps.append : ∀ {ds es : List D} {vs ws : List V}, Reps K F ds vs → Reps K F es ws → Reps K F (ds ++ es) (vs ++ ws)
  | _, _, _, _, .nil, h => h
  | _, _, _, _, .cons a r, h => .cons a (r.append h)
theorem Reps.get : ∀ {ds : List D} {vs : List V} {i : Nat} {d : D}, Reps K F ds vs → ds[i]? = some d → ∃ v, vs[i]? = some v ∧ Rep K F d v
  | _, _, _, _, .nil, h => by simp at h
  | _, _, 0, _, .cons a _, h => by simp at h; subst h; exact ⟨_, rfl, a⟩
  | _, _, i + 1, _, .cons _ r, h => by
    obtain ⟨v, e, q⟩ := r.get (i := i) (by simpa using h)
    exact ⟨v, by simpa using e, q⟩
theorem Reps.getV : ∀ {ds : List D} {vs : List V} {i : Nat} {v : V}, Reps K F ds vs → vs[i]? = some v → ∃ d, ds[i]? = some d ∧ Rep K F d v
  | _, _, _, _, .nil, h => by simp at h
  | _, _, 0, _, .cons a _, h => by simp at h; subst h; exact ⟨_, rfl, a⟩
  | _, _, i + 1, _, .cons _ r, h => by
    obtain ⟨v, e, q⟩ := r.getV (i := i) (by simpa using h)
    exact ⟨v, by simpa using e, q⟩
theorem Reps.set {d : D} {v : V} (q : Rep K F d v) : ∀ {ds : List D} {vs : List V} (i : Nat), Reps K F ds vs → Reps K F (ds.set i d) (vs.set i v)
  | _, _, _, .nil => .nil
  | _, _, 0, .cons _ r => .cons q r
  | _, _, i + 1, .cons a r => .cons a (r.set q i)
theorem Reps.take : ∀ {ds : List D} {vs : List V} (n : Nat), Reps K F ds vs → Reps K F (ds.take n) (vs.take n)
  | _, _, 0, _ => .nil
  | _, _, _ + 1, .nil => .nil
  | _, _, n + 1, .cons a r => .cons a (r.take n)
theorem Reps.drop : ∀ {ds : List D} {vs : List V} (n : Nat), Reps K F ds vs → Reps K F (ds.drop n) (vs.drop n)
  | _, _, 0, r => r
  | _, _, _ + 1, .nil => .nil
  | _, _, n + 1, .cons _ r => r.drop n
theorem Reps.eraseIdx : ∀ {ds : List D} {vs : List V} (n : Nat), Reps K F ds vs → Reps K F (ds.eraseIdx n) (vs.eraseIdx n)
  | _, _, _, .nil => .nil
  | _, _, 0, .cons _ r => r
  | _, _, n + 1, .cons a r => .cons a (r.eraseIdx n)
theorem Reps.dropLast : ∀ {ds : List D} {vs : List V}, Reps K F ds vs → Reps K F ds.dropLast vs.dropLast
  | _, _, .nil => .nil
  | _, _, .cons a .nil => .nil
  | _, _, .cons a (.cons b r) => .cons a (Reps.dropLast (.cons b r))
theorem Reps.reverse : ∀ {ds : List D} {vs : List V}, Reps K F ds vs → Reps K F ds.reverse vs.reverse
  | _, _, .nil => .nil
  | _, _, .cons a r => by
    rw [List.reverse_cons, List.reverse_cons]
    exact r.reverse.append (.cons a .nil)
theorem Reps.rep {ds : List D} {vs : List V} (h : Reps K F ds vs) : ∀ n : Nat, Reps K F (rep n ds) (rep n vs)
  | 0 => .nil
  | n + 1 => h.append (h.rep n)
theorem Rep.int_inv {d : D} {i : Int} (h : Rep K F d (.int i)) : d = .int i := by cases h; rfl
end

/-! ### the states -/
/-- an object that may be changed -/
def ObjR (K : Fr) (F : Hp) : MO → Option HO → Prop
  | .lst ds, some (.lst vs) => ds.length ≤ big ∧ Reps K F ds vs
  | _, _ => False
/-- F: what stands still; μ: the places of the objects of the store M; H: all -/
structure Sim (K : Fr) (F : Hp) (μ : List Addr) (M : Mem) (H : Hp) : Prop where
  sub : Sub F H
  out : ∀ a ∈ μ, F a = none
  nd : μ.Nodup
  len : μ.length = M.length
  obj : ∀ (i : Nat) (o : MO) (a : Addr), M[i]? = some o → μ[i]? = some a → ObjR K F o (H a)
def RepV (K : Fr) (F : Hp) (μ : List Addr) : Val → V → Prop
  | .d x, v => Rep K F x v
  | .ref n, v => ∃ a, μ[n]? = some a ∧ v = .ref a
inductive RepVs (K : Fr) (F : Hp) (μ : List Addr) : List Val → List V → Prop
  | nil : RepVs K F μ [] []
  | cons {x : Val} {v : V} {xs : List Val} {vs : List V} : RepV K F μ x v → RepVs K F μ xs vs → RepVs K F μ (x :: xs) (v :: vs)
structure RepS (K : Fr) (F : Hp) (μ : List Addr) (δ : Sl) (σ : L2.St) : Prop where
  len : δ.length = σ.length
  at_ : ∀ (i : Nat) (x : Val), δ[i]? = some (some x) → ∃ v, σ[i]? = some (some v) ∧ RepV K F μ x v
/-- what may have changed: the first b objects of the store keep their places -/
structure Step (b : Nat) (F : Hp) (μ : List Addr) (H : Hp) (F' : Hp) (μ' : List Addr) (H' : Hp) : Prop where
  fr : Sub F F'
  pre : μ'.take b = μ.take b
  new : ∀ a ∈ μ', a ∈ μ ∨ H a = none
  keep : ∀ a o, H a = some o → a ∉ μ → H' a = some o
  up : ∀ a, H' a = none → H a = none
  newF : ∀ a o, F' a = some o → F a = some o ∨ H a = none ∨ (a ∈ μ ∧ a ∉ μ.take b)
theorem Step.refl (b : Nat) (F : Hp) (μ : List Addr) (H : Hp) : Step b F μ H F μ H :=
  ⟨Sub.refl F, rfl, fun _ h => .inl h, fun _ _ h _ => h, fun _ h => h, fun _ _ h => .inl h⟩
theorem Step.trans {b : Nat} {F F1 F2 : Hp} {μ μ1 μ2 : List Addr} {H H1 H2 : Hp} (s : Step b F μ H F1 μ1 H1) (t : Step b F1 μ1 H1 F2 μ2 H2) : Step b F μ H F2 μ2 H2 where
  fr := s.fr.trans t.fr
  pre := t.pre.trans s.pre
  new := fun a h => by
    rcases t.new a h with h | h
    · exact s.new a h
    · exact .inr (s.up a h)
  keep := fun a o h n => t.keep a o (s.keep a o h n) fun q => by
    rcases s.new a q with q | q
    · exact n q
    · rw [h] at q; cases q
  up := fun a h => s.up a (t.up a h)
  newF := fun a o h => by
    rcases t.newF a o h with h | h | ⟨h, n⟩
    · exact s.newF a o h
    · exact .inr (.inl (s.up a h))
    · rw [s.pre] at n
      rcases s.new a h with h | h
      · exact .inr (.inr ⟨h, n⟩)
      · exact .inr (.inl h)
theorem Step.mono {b c : Nat} {F F1 : Hp} {μ μ1 : List Addr} {H H1 : Hp} (s : Step c F μ H F1 μ1 H1) (h : b ≤ c) : Step b F μ H F1 μ1 H1 where
  fr := s.fr
  pre := by
    have e := congrArg (List.take b) s.pre
    rw [List.take_take, List.take_take, Nat.min_eq_left h] at e
    exact e
  new := s.new
  keep := s.keep
  up := s.up
  newF := fun a o q => by
    rcases s.newF a o q with q | q | ⟨q, n⟩
    · exact .inl q
    · exact .inr (.inl q)
    · refine .inr (.inr ⟨q, fun z => n ?_⟩)
      have e : μ.take b = (μ.take c).take b := by rw [List.take_take, Nat.min_eq_left h]
      rw [e] at z
      exact List.mem_of_mem_take z
/-- the store's places at the start stay -/
theorem Step.get {b : Nat} {F F1 : Hp} {μ μ1 : List Addr} {H H1 : Hp} (s : Step b F μ H F1 μ1 H1) {n : Nat} (hn : n < b) : μ1[n]? = μ[n]? := by
  have e := congrArg (fun l : List Addr => l[n]?) s.pre
  simpa [List.getElem?_take, hn] using e
theorem Sim.tracked {K : Fr} {F : Hp} {μ : List Addr} {M : Mem} {H : Hp} (S : Sim K F μ M H) {a : Addr} (h : a ∈ μ) : H a ≠ none := by
  obtain ⟨i, hi, e⟩ := List.getElem_of_mem h
  have e1 : μ[i]? = some a := by rw [List.getElem?_eq_getElem hi, e]
  have hm : i < M.length := by rw [← S.len]; exact hi
  have q := S.obj i M[i] a (List.getElem?_eq_getElem hm) e1
  intro z
  rw [z] at q
  cases hM : M[i] <;> rw [hM] at q <;> exact q
theorem Sim.alen {K : Fr} {F : Hp} {μ : List Addr} {M : Mem} {H : Hp} (S : Sim K F μ M H) {n : Nat} {a : Addr} (h : μ[n]? = some a) : n < M.length := by
  rw [← S.len]; exact (List.getElem?_eq_some_iff.mp h).1
theorem RepV.mono {K : Fr} {F F1 : Hp} {μ μ1 : List Addr} (s : Sub F F1) (p : μ1.take μ.length = μ) : ∀ {x : Val} {v : V}, RepV K F μ x v → RepV K F1 μ1 x v
  | .d _, _, h => Rep.mono s h
  | .ref n, _, ⟨a, h, e⟩ => ⟨a, by
      have hn : n < μ.length := (List.getElem?_eq_some_iff.mp h).1
      have q := congrArg (fun l : List Addr => l[n]?) p
      simp only [List.getElem?_take, hn, if_true] at q
      rw [q, h], e⟩
theorem RepVs.mono {K : Fr} {F F1 : Hp} {μ μ1 : List Addr} (s : Sub F F1) (p : μ1.take μ.length = μ) : ∀ {x : List Val} {v : List V}, RepVs K F μ x v → RepVs K F1 μ1 x v
  | _, _, .nil => .nil
  | _, _, .cons h r => .cons (h.mono s p) (r.mono s p)
theorem RepS.mono {K : Fr} {F F1 : Hp} {μ μ1 : List Addr} {δ : Sl} {σ : L2.St} (s : Sub F F1) (p : μ1.take μ.length = μ) (h : RepS K F μ δ σ) : RepS K F1 μ1 δ σ :=
  ⟨h.len, fun i x e => let ⟨v, e1, q⟩ := h.at_ i x e; ⟨v, e1, q.mono s p⟩⟩
/-- a step of an expression -/
abbrev StepE (F : Hp) (μ : List Addr) (H : Hp) (F' : Hp) (μ' : List Addr) (H' : Hp) : Prop := Step μ.length F μ H F' μ' H'
theorem Step.whole {F F' : Hp} {μ μ' : List Addr} {H H' : Hp} (s : StepE F μ H F' μ' H') : μ'.take μ.length = μ := by
  have e := s.pre
  rwa [List.take_length] at e
theorem Step.leE {F F' : Hp} {μ μ' : List Addr} {H H' : Hp} (s : StepE F μ H F' μ' H') : μ.length ≤ μ'.length := by
  have e := congrArg List.length s.whole
  rw [List.length_take] at e
  omega
theorem Step.transE {F F1 F2 : Hp} {μ μ1 μ2 : List Addr} {H H1 H2 : Hp} (s : StepE F μ H F1 μ1 H1) (t : StepE F1 μ1 H1 F2 μ2 H2) : StepE F μ H F2 μ2 H2 :=
  Step.trans s (t.mono s.leE)

/-! ### new objects that stand still -/
structure NewF (F H F' H' : Hp) : Prop where
  fr : Sub F F'
  sub : Sub F' H'
  keep : Sub H H'
  newF : ∀ a o, F' a = some o → F a = some o ∨ H a = none
theorem NewF.refl {F H : Hp} (s : Sub F H) : NewF F H F H := ⟨Sub.refl F, s, Sub.refl H, fun _ _ h => .inl h⟩
theorem NewF.alloc {F H : Hp} (s : Sub F H) {p : Addr} (hp : H p = none) (o : HO) : NewF F H (upd F p o) (upd H p o) where
  fr := fun a u h => by
    have e : a ≠ p := fun e => by subst e; rw [s _ _ h] at hp; cases hp
    rw [upd_ne e]; exact h
  sub := fun a u h => by
    by_cases e : a = p
    · subst e; rw [upd_same] at h ⊢; exact h
    · rw [upd_ne e] at h ⊢; exact s _ _ h
  keep := fun a u h => by rw [upd_ne (ne_of_none h hp)]; exact h
  newF := fun a u h => by
    by_cases e : a = p
    · subst e; exact .inr hp
    · rw [upd_ne e] at h; exact .inl h
theorem NewF.trans {F H F1 H1 F2 H2 : Hp} (a : NewF F H F1 H1) (b : NewF F1 H1 F2 H2) : NewF F H F2 H2 where
  fr := a.fr.trans b.fr
  sub := b.sub
  keep := a.keep.trans b.keep
  newF := fun c o h => by
    rcases b.newF c o h with h | h
    · exact a.newF c o h
    · refine .inr ?_
      cases q : H c with
      | none => rfl
      | some u => rw [a.keep c u q] at h; cases h
theorem NewF.sim {K : Fr} {F H F' H' : Hp} {μ : List Addr} {M : Mem} (n : NewF F H F' H') (S : Sim K F μ M H) : Sim K F' μ M H' where
  sub := n.sub
  out := fun a h => by
    cases q : F' a with
    | none => rfl
    | some o =>
      rcases n.newF a o q with q | q
      · rw [S.out a h] at q; cases q
      · exact absurd q (S.tracked h)
  nd := S.nd
  len := S.len
  obj := fun i o a h1 h2 => by
    have q := S.obj i o a h1 h2
    cases e : H a with
    | none => exact absurd e (S.tracked (List.mem_of_getElem? h2))
    | some u =>
      rw [e] at q
      rw [n.keep a u e]
      cases o with
      | lst ds => cases u <;> first | exact q.elim | exact ⟨q.1, Reps.mono n.fr q.2⟩
      | dic l => exact q.elim
theorem NewF.step {F H F' H' : Hp} {μ : List Addr} (n : NewF F H F' H') : StepE F μ H F' μ H' where
  fr := n.fr
  pre := rfl
  new := fun _ h => .inl h
  keep := fun a o h _ => n.keep a o h
  up := fun a h => by
    cases q : H a with
    | none => rfl
    | some o => rw [n.keep a o q] at h; cases h
  newF := fun a o h => by
    rcases n.newF a o h with h | h
    · exact .inl h
    · exact .inr (.inl h)

/-! ### readings that are the evaluator's -/
theorem _root_.L2.PE.imp {X : Cx} {e : Expr} {t t' : TE} (h : PE X e t) (i : ∀ σ H Q, t' σ H Q → t σ H Q) : PE X e t' := ⟨fun pins s σ H Q I q => h.run pins s σ H Q I (i σ H Q q)⟩
theorem _root_.L2.PT.imp {X : Cx} {e : Expr} {t t' : TT} (h : PT X e t) (i : ∀ σ H Q, t' σ H Q → t σ H Q) : PT X e t' := ⟨fun pins s σ H Q I q => h.run pins s σ H Q I (i σ H Q q)⟩
theorem _root_.L2.PA.imp {X : Cx} {e : List Expr} {t t' : TA} (h : PA X e t) (i : ∀ σ H Q, t' σ H Q → t σ H Q) : PA X e t' := ⟨fun pos pins s σ H Q I q => h.run pos pins s σ H Q I (i σ H Q q)⟩
theorem _root_.L2.PK.imp {X : Cx} {e : List Keyword} {t t' : TA} (h : PK X e t) (i : ∀ σ H Q, t' σ H Q → t σ H Q) : PK X e t' := ⟨fun pos pins s σ H Q I q => h.run pos pins s σ H Q I (i σ H Q q)⟩
theorem _root_.L2.PS.imp {X : Cx} {e : Stmt} {t t' : TS} (h : PS X e t) (i : ∀ D σ H, t' D σ H → t D σ H) : PS X e t' := ⟨fun pins s σ H D I q => h.run pins s σ H D I (i D σ H q)⟩
theorem _root_.L2.PSs.imp {X : Cx} {e : List Stmt} {t t' : TS} (h : PSs X e t) (i : ∀ D σ H, t' D σ H → t D σ H) : PSs X e t' := ⟨fun pins s σ H D I q => h.run pins s σ H D I (i D σ H q)⟩

/-- fr: a list that is new and that nothing else holds; else what stands for the value -/
def PostV (fr : Bool) (K : Fr) (F : Hp) (μ : List Addr) (H0 H : Hp) (x : Val) (v : V) : Prop := match fr with
  | false => RepV K F μ x v
  | true => ∃ a ds vs, x = .d (.lst ds) ∧ v = .ref a ∧ H a = some (.lst vs) ∧ F a = none ∧ a ∉ μ ∧ H0 a = none ∧ ds.length ≤ big ∧ Reps K F ds vs
/-- what the evaluator says of an expression -/
def LE (fr : Bool) (K : Fr) (f : Sl → Mem → Res Val) : TE := fun σ H Q => ∃ δ M F μ x M', Sim K F μ M H ∧ RepS K F μ δ σ ∧ f δ M = .ok x M' ∧
  ∀ F' μ' H' v, StepE F μ H F' μ' H' → Sim K F' μ' M' H' → PostV fr K F' μ' H H' x v → Q v H'
def LT (K : Fr) (f : Sl → Mem → Res Bool) : TT := fun σ H Q => ∃ δ M F μ x M', Sim K F μ M H ∧ RepS K F μ δ σ ∧ f δ M = .ok x M' ∧
  ∀ F' μ' H', StepE F μ H F' μ' H' → Sim K F' μ' M' H' → Q x H'
def LA (K : Fr) (f : Sl → Mem → Res (List Val)) : TA := fun σ H Q => ∃ δ M F μ x M', Sim K F μ M H ∧ RepS K F μ δ σ ∧ f δ M = .ok x M' ∧
  ∀ F' μ' H' v, StepE F μ H F' μ' H' → Sim K F' μ' M' H' → RepVs K F' μ' x v → Q v H'
def LDs (K : Fr) (f : Sl → Mem → Res (List D)) : TA := fun σ H Q => ∃ δ M F μ x M', Sim K F μ M H ∧ RepS K F μ δ σ ∧ f δ M = .ok x M' ∧
  ∀ F' μ' H' v, StepE F μ H F' μ' H' → Sim K F' μ' M' H' → Reps K F' x v → Q v H'
/-- what is wanted behind a statement, from the state before it -/
def LSk (b : Nat) (K : Fr) (D : Ends) (F : Hp) (μ : List Addr) (H : Hp) (M' : Mem) : Flow → Prop
  | .nx δ' => ∀ F' μ' H' σ', b ≤ μ'.length → Step b F μ H F' μ' H' → Sim K F' μ' M' H' → RepS K F' μ' δ' σ' → D.nx σ' H'
  | .brk δ' => ∀ F' μ' H' σ', b ≤ μ'.length → Step b F μ H F' μ' H' → Sim K F' μ' M' H' → RepS K F' μ' δ' σ' → D.bk σ' H'
  | .cont δ' => ∀ F' μ' H' σ', b ≤ μ'.length → Step b F μ H F' μ' H' → Sim K F' μ' M' H' → RepS K F' μ' δ' σ' → D.ct σ' H'
  | .ret x => ∀ F' μ' H' v, b ≤ μ'.length → Step b F μ H F' μ' H' → Sim K F' μ' M' H' → RepV K F' μ' x v → D.rt v H'
theorem LSk.back {b : Nat} {K : Fr} {D : Ends} {F F1 : Hp} {μ μ1 : List Addr} {H H1 : Hp} {M' : Mem} {x : Flow} (st : Step b F μ H F1 μ1 H1) (k : LSk b K D F μ H M' x) : LSk b K D F1 μ1 H1 M' x := by
  cases x with
  | nx δ' => exact fun F' μ' H' σ' h1 h2 => k F' μ' H' σ' h1 (st.trans h2)
  | brk δ' => exact fun F' μ' H' σ' h1 h2 => k F' μ' H' σ' h1 (st.trans h2)
  | cont δ' => exact fun F' μ' H' σ' h1 h2 => k F' μ' H' σ' h1 (st.trans h2)
  | ret v => exact fun F' μ' H' w h1 h2 => k F' μ' H' w h1 (st.trans h2)
/-- base b: the def's callers' objects -/
def LS (b : Nat) (K : Fr) (f : Sl → Mem → Res Flow) : TS := fun D σ H => ∃ δ M F μ x M', b ≤ μ.length ∧ Sim K F μ M H ∧ RepS K F μ δ σ ∧ f δ M = .ok x M' ∧ LSk b K D F μ H M' x

theorem bind_ok {α β : Type} {r : Res α} {f : α → Mem → Res β} {y : β} {M : Mem} (h : r.bind f = .ok y M) : ∃ x M1, r = .ok x M1 ∧ f x M1 = .ok y M := by
  cases r with
  | ok x M1 => exact ⟨x, M1, rfl, h⟩
  | bad => cases h
theorem of_ok {α : Type} {o : Option α} {M M' : Mem} {x : α} (h : Res.of o M = .ok x M') : o = some x ∧ M' = M := by
  cases o with
  | none => cases h
  | some y => cases h; exact ⟨rfl, rfl⟩
/-- a new list is let stand still -/
theorem PostV.freeze {K : Fr} {F F' : Hp} {μ μ' : List Addr} {M' : Mem} {H H' : Hp} {x : Val} {v : V} (st : StepE F μ H F' μ' H') (S : Sim K F' μ' M' H') (p : PostV true K F' μ' H H' x v) :
    ∃ F'', StepE F μ H F'' μ' H' ∧ Sim K F'' μ' M' H' ∧ RepV K F'' μ' x v := by
  obtain ⟨a, ds, vs, rfl, rfl, h1, h2, h3, h4, h6, h5⟩ := p
  have sb : Sub F' (upd F' a (.lst vs)) := fun b o q => by
    have e : b ≠ a := fun e => by subst e; rw [h2] at q; cases q
    rw [upd_ne e]; exact q
  refine ⟨upd F' a (.lst vs), ⟨st.fr.trans sb, st.pre, st.new, st.keep, st.up, fun b o q => ?_⟩, ⟨fun b o q => ?_, fun b hb => ?_, S.nd, S.len, fun i o b q1 q2 => ?_⟩, ?_⟩
  · by_cases e : b = a
    · subst e; exact .inr (.inl h4)
    · rw [upd_ne e] at q; exact st.newF b o q
  · by_cases e : b = a
    · subst e; rw [upd_same] at q; cases q; exact h1
    · rw [upd_ne e] at q; exact S.sub b o q
  · rw [upd_ne (fun e => h3 (by rw [← e]; exact hb))]; exact S.out b hb
  · have z := S.obj i o b q1 q2
    cases o with
    | lst l => 
      cases e : H' b with
      | none => rw [e] at z; exact z
      | some u => rw [e] at z; cases u <;> first | exact z.elim | exact ⟨z.1, Reps.mono sb z.2⟩
    | dic l => exact z.elim
  · exact Rep.lst h6 upd_same (Reps.mono sb h5)
theorem _root_.L2.PE.frozen {X : Cx} {e : Expr} {f : Sl → Mem → Res Val} (h : PE X e (LE true X.K f)) : PE X e (LE false X.K f) :=
  h.imp fun σ H Q ⟨δ, M, F, μ, x, M', S, R, ef, k⟩ => ⟨δ, M, F, μ, x, M', S, R, ef, fun F' μ' H' v st S' p => by
    obtain ⟨F'', st', S'', r⟩ := PostV.freeze st S' p
    exact k F'' μ' H' v st' S'' r⟩
/-- a new list is taken into the store -/
theorem _root_.L2.PE.newed {X : Cx} {e : Expr} {f : Sl → Mem → Res Val} (h : PE X e (LE true X.K f)) : PE X e (LE false X.K fun δ M => (f δ M).bind fun v M1 => match v with
    | .d (.lst l) => .ok (.ref M1.length) (M1 ++ [.lst l])
    | .d (.dic l) => .ok (.ref M1.length) (M1 ++ [.dic l])
    | _ => .bad) :=
  h.imp fun σ H Q ⟨δ, M, F, μ, x, M', S, R, ef, k⟩ => by
    obtain ⟨y, M1, e1, e2⟩ := bind_ok ef
    refine ⟨δ, M, F, μ, y, M1, S, R, e1, fun F' μ' H' v st S' p => ?_⟩
    obtain ⟨a, ds, vs, rfl, rfl, h1, h2, h3, h4, h6, h5⟩ := p
    cases e2
    refine k F' (μ' ++ [a]) H' (.ref a) ⟨st.fr, ?_, fun b hb => ?_, st.keep, st.up, st.newF⟩ ⟨S'.sub, fun b hb => ?_, ?_, ?_, fun i o b q1 q2 => ?_⟩ ⟨a, ?_, rfl⟩
    · rw [List.take_append_of_le_length st.leE]; exact st.pre
    · rcases List.mem_append.mp hb with hb | hb
      · exact st.new b hb
      · rw [List.mem_singleton.mp hb]; exact .inr h4
    · rcases List.mem_append.mp hb with hb | hb
      · exact S'.out b hb
      · rw [List.mem_singleton.mp hb]; exact h2
    · exact List.nodup_append.mpr ⟨S'.nd, (by simp), fun b hb c hc e => by rw [List.mem_singleton.mp hc] at e; exact h3 (by rw [← e]; exact hb)⟩
    · rw [List.length_append, List.length_append, S'.len]; rfl
    · have hl := S'.len
      by_cases hi : i < M1.length
      · rw [List.getElem?_append_left hi] at q1
        rw [List.getElem?_append_left (by omega)] at q2
        exact S'.obj i o b q1 q2
      · rw [List.getElem?_append_right (by omega)] at q1 q2
        have z : i - M1.length = 0 := by
          have := (List.getElem?_eq_some_iff.mp q1).1
          simp at this; omega
        rw [z] at q1
        rw [hl, z] at q2
        cases q1; cases q2
        rw [h1]; exact ⟨h6, h5⟩
    · rw [List.getElem?_append_right (by rw [S'.len]; exact Nat.le_refl _), S'.len, Nat.sub_self]; rfl

/-! ### plain operators by values -/
/-- the data as they are seen: a list of the store by what it holds -/
inductive RepT (K : Fr) (F H : Hp) : D → V → Prop
  | d {x : D} {v : V} : Rep K F x v → RepT K F H x v
  | lst {a : Addr} {ds : List D} {vs : List V} : ds.length ≤ big → H a = some (.lst vs) → Reps K F ds vs → RepT K F H (.lst ds) (.ref a)
inductive RepTs (K : Fr) (F H : Hp) : List D → List V → Prop
  | nil : RepTs K F H [] []
  | cons {d : D} {v : V} {ds : List D} {vs : List V} : RepT K F H d v → RepTs K F H ds vs → RepTs K F H (d :: ds) (v :: vs)
theorem Sim.view {K : Fr} {F : Hp} {μ : List Addr} {M : Mem} {H : Hp} (S : Sim K F μ M H) {x : Val} {v : V} {d : D} (r : RepV K F μ x v) (h : view M x = some d) : RepT K F H d v := by
  cases x with
  | d y => cases h; exact .d r
  | ref n =>
    obtain ⟨a, ha, rfl⟩ := r
    rw [view_ref] at h
    cases e : M[n]? with
    | none => rw [e] at h; cases h
    | some o =>
      rw [e] at h
      cases h
      have q := S.obj n o a e ha
      cases o with
      | lst ds =>
        cases e2 : H a with
        | none => rw [e2] at q; exact q.elim
        | some u => rw [e2] at q; cases u <;> first | exact q.elim | exact .lst q.1 e2 q.2
      | dic l => exact q.elim
theorem Sim.views {K : Fr} {F : Hp} {μ : List Addr} {M : Mem} {H : Hp} (S : Sim K F μ M H) : ∀ {xs : List Val} {vs : List V} {ds : List D}, RepVs K F μ xs vs → views M xs = some ds → RepTs K F H ds vs
  | _, _, _, .nil, h => by cases h; exact .nil
  | x :: xs, _, ds, .cons r rs, h => by
    rw [views_cons] at h
    cases e1 : DL.view M x with
    | none => rw [e1] at h; cases h
    | some d =>
      cases e2 : DL.views M xs with
      | none => rw [e1, e2] at h; cases h
      | some l =>
        rw [e1, e2] at h
        cases h
        exact .cons (S.view r e1) (S.views rs e2)
/-- what an operator on data is to leave: fr as in PostV -/
def PostD (fr : Bool) (K : Fr) (F H : Hp) (d : D) (Q : VK) : Prop := match fr with
  | false => ∀ F' H' u, NewF F H F' H' → Rep K F' d u → Q u H'
  | true => ∀ F' H' a ds us, NewF F H F' H' → d = .lst ds → H' a = some (.lst us) → F' a = none → H a = none → ds.length ≤ big → Reps K F' ds us → Q (.ref a) H'
def r2D (fr : Bool) (K : Fr) (p : D → D → Option D) : R2 := fun v w H Q => ∃ F x y d, Sub F H ∧ RepT K F H x v ∧ RepT K F H y w ∧ p x y = some d ∧ PostD fr K F H d Q
def r1D (fr : Bool) (K : Fr) (p : D → Option D) : V → Hp → VK → Prop := fun v H Q => ∃ F x d, Sub F H ∧ RepT K F H x v ∧ p x = some d ∧ PostD fr K F H d Q
def rLD (fr : Bool) (K : Fr) (p : List D → Option D) : List V → Hp → VK → Prop := fun vs H Q => ∃ F xs d, Sub F H ∧ RepTs K F H xs vs ∧ p xs = some d ∧ PostD fr K F H d Q
def rMD (fr : Bool) (K : Fr) (p : D → List D → Option D) : V → List V → Hp → VK → Prop := fun v vs H Q => ∃ F x xs d, Sub F H ∧ RepT K F H x v ∧ RepTs K F H xs vs ∧ p x xs = some d ∧ PostD fr K F H d Q
/-- what PostD asks, from what LE asks behind the last argument -/
theorem PostD.of {fr : Bool} {K : Fr} {F : Hp} {μ : List Addr} {M : Mem} {H0 H : Hp} {d : D} {Q : VK} (S : Sim K F μ M H) (h0 : ∀ a, H a = none → H0 a = none)
    (k : ∀ F' H' v, NewF F H F' H' → Sim K F' μ M H' → PostV fr K F' μ H0 H' (.d d) v → Q v H') : PostD fr K F H d Q := by
  cases fr with
  | false => exact fun F' H' u n r => k F' H' u n (n.sim S) r
  | true =>
    refine fun F' H' a ds us n e h1 h2 h3 h4 r => k F' H' (.ref a) n (n.sim S) ⟨a, ds, us, by rw [e], rfl, h1, h2, fun z => S.tracked z h3, h0 a h3, h4, r⟩
end DL
end P_DL1
section P_DL2
set_option Elab.async false
set_option linter.all false
set_option maxRecDepth 100000
set_option maxHeartbeats 1000000
/-! The evaluator's forms of expressions over the rules of HandS. -/
namespace DL
open PySem PySem.Spec PyProof.Rows L2
section
variable {X : Cx} {fa fb fc : Sl → Mem → Res Val} {a b c e : Expr} {pos : Pos} {fr : Bool}

theorem res_map {o : Option D} {M M' : Mem} {x : Val} (h : Res.of (o.map Val.d) M = .ok x M') : ∃ d, o = some d ∧ x = .d d ∧ M' = M := by
  obtain ⟨h1, h2⟩ := of_ok h
  cases o with
  | none => cases h1
  | some d => cases h1; exact ⟨d, rfl, rfl, h2⟩
/-- two values, then an operator on what they are seen as -/
def ev2 (p : D → D → Option D) (fa fb : Sl → Mem → Res Val) : Sl → Mem → Res Val := fun s M => (fa s M).bind fun v M1 => (fb s M1).bind fun w M2 => match view M2 v, view M2 w with
  | some x, some y => Res.of ((p x y).map .d) M2
  | _, _ => .bad
theorem lift2 {K : Fr} {p : D → D → Option D} {σ : L2.St} {H : Hp} {Q : VK} (h : LE fr K (ev2 p fa fb) σ H Q) : tOp (r2D fr K p) (LE false K fa) (LE false K fb) σ H Q := by
  obtain ⟨δ, M, F, μ, x, M', S, R, e0, k⟩ := h
  obtain ⟨v, M1, e1, e0⟩ := bind_ok e0
  obtain ⟨w, M2, e2, e0⟩ := bind_ok e0
  refine ⟨δ, M, F, μ, v, M1, S, R, e1, fun F1 μ1 H1 v1 st1 S1 r1 => ⟨δ, M1, F1, μ1, w, M2, S1, R.mono st1.fr st1.whole, e2, fun F2 μ2 H2 v2 st2 S2 r2 => ?_⟩⟩
  cases hx : view M2 v with
  | none => rw [hx] at e0; cases e0
  | some dx =>
    cases hy : view M2 w with
    | none => rw [hx, hy] at e0; cases e0
    | some dy =>
      rw [hx, hy] at e0
      obtain ⟨d, hd, rfl, rfl⟩ := res_map e0
      exact ⟨F2, dx, dy, d, S2.sub, S2.view (RepV.mono st2.fr st2.whole r1) hx, S2.view r2 hy, hd, PostD.of S2 (fun a h => st1.up a (st2.up a h)) fun F' H' u n S' q => k F' μ2 H' u (st1.transE (st2.transE n.step)) S' q⟩
/-- one value -/
def ev1 (p : D → Option D) (fa : Sl → Mem → Res Val) : Sl → Mem → Res Val := fun s M => (fa s M).bind fun v M1 => match view M1 v with
  | some x => Res.of ((p x).map .d) M1
  | none => .bad
theorem lift1 {K : Fr} {p : D → Option D} {σ : L2.St} {H : Hp} {Q : VK} (h : LE fr K (ev1 p fa) σ H Q) : tUn (r1D fr K p) (LE false K fa) σ H Q := by
  obtain ⟨δ, M, F, μ, x, M', S, R, e0, k⟩ := h
  obtain ⟨v, M1, e1, e0⟩ := bind_ok e0
  refine ⟨δ, M, F, μ, v, M1, S, R, e1, fun F1 μ1 H1 v1 st1 S1 r1 => ?_⟩
  cases hx : view M1 v with
  | none => rw [hx] at e0; cases e0
  | some dx =>
    rw [hx] at e0
    obtain ⟨d, hd, rfl, rfl⟩ := res_map e0
    exact ⟨F1, dx, d, S1.sub, S1.view r1 hx, hd, PostD.of S1 (fun a h => st1.up a h) fun F' H' u n S' q => k F' μ1 H' u (st1.transE n.step) S' q⟩
/-- a test by a value -/
theorem liftT {K : Fr} {f : Sl → Mem → Res Val} {σ : L2.St} {H : Hp} {Q : Bool → Hp → Prop} (h : LT K (fun s M => toB (f s M)) σ H Q) : LE false K f σ H (fun x H' => ∃ k, x = .bl k ∧ Q k H') := by
  obtain ⟨δ, M, F, μ, x, M', S, R, e0, k⟩ := h
  obtain ⟨v, M1, e1, e0⟩ := bind_ok e0
  refine ⟨δ, M, F, μ, v, M1, S, R, e1, fun F1 μ1 H1 v1 st1 S1 r1 => ?_⟩
  cases v with
  | ref n => cases e0
  | d y =>
    cases y <;> first
      | (cases e0; cases r1; exact ⟨_, rfl, k F1 μ1 H1 st1 S1⟩)
      | cases e0

/-! ### values that are there -/
theorem q_const {x : D} {k : Nat} {co : Const} (h : ∀ (v : V), (∀ F, Rep X.K F x v) → PE X (.Constant co k pos) (tC v)) (hv : ∃ v, ∀ F, Rep X.K F x v) : PE X (.Constant co k pos) (LE false X.K fun _ M => .ok (.d x) M) := by
  obtain ⟨v, hr⟩ := hv
  refine (h v hr).imp fun σ H Q ⟨δ, M, F, μ, y, M', S, R, e0, kk⟩ => ?_
  cases e0
  exact kk F μ H v (Step.refl _ _ _ _) S (hr F)
theorem q_still {x : D} {v : V} (h : PE X e (tC v)) (hr : ∀ F, Rep X.K F x v) : PE X e (LE false X.K fun _ M => .ok (.d x) M) := by
  refine h.imp fun σ H Q ⟨δ, M, F, μ, y, M', S, R, e0, kk⟩ => ?_
  cases e0
  exact kk F μ H v (Step.refl _ _ _ _) S (hr F)
theorem q_var {i : Nat} {x : Str} (hN : X.N[i]? = some x) (hv : Vis X.env.scope x) (hd : (x == ("__debug__" : Str)) = false) (hcd : (x == ("__classdict__" : Str)) = false) :
    PE X (.Name x pos) (LE false X.K fun s M => match s[i]? with
      | some (some v) => .ok v M
      | _ => .bad) := by
  refine (pe_var hN hv hd hcd).imp fun σ H Q ⟨δ, M, F, μ, y, M', S, R, e0, kk⟩ => ?_
  cases h1 : δ[i]? with
  | none => simp only [h1] at e0; cases e0
  | some o =>
    cases o with
    | none => simp only [h1] at e0; cases e0
    | some z =>
      simp only [h1] at e0
      cases e0
      obtain ⟨v, e1, r⟩ := R.at_ i _ h1
      exact ⟨v, e1, kk F μ H v (Step.refl _ _ _ _) S r⟩

/-! ### operators -/
theorem q_bin {op : Operator} {p : D → D → Option D} (ho : OpR X (binaryOp op) (r2D fr X.K p)) (ha : PE X a (LE false X.K fa)) (hb : PE X b (LE false X.K fb)) : PE X (.BinOp a op b pos) (LE fr X.K (ev2 p fa fb)) :=
  (pe_op ho ha hb).imp fun _ _ _ h => lift2 h
theorem q_un {op : UnaryOp} {p : D → Option D} (ho : UnR X (unaryOp op) (r1D fr X.K p)) (ha : PE X a (LE false X.K fa)) : PE X (.UnaryOp op a pos) (LE fr X.K (ev1 p fa)) :=
  (pe_un ho ha).imp fun _ _ _ h => lift1 h
theorem q_cmp {op : CmpOp} {p : D → D → Option D} (ho : OpR X (compareOp op) (r2D false X.K p)) (ha : PE X a (LE false X.K fa)) (hb : PE X b (LE false X.K fb)) (hm : behindInMarks op b = false) : PE X (.Compare a [op] [b] pos) (LE false X.K (ev2 p fa fb)) :=
  (pe_cmpR ho ha hb hm).imp fun _ _ _ h => lift2 h
theorem q_cmpT {op : CmpOp} {p : D → D → Option D} (ho : OpR X (compareOp op) (r2D false X.K p)) (ha : PE X a (LE false X.K fa)) (hb : PE X b (LE false X.K fb)) (hm : behindInMarks op b = false) : PT X (.Compare a [op] [b] pos) (LT X.K fun s M => toB (ev2 p fa fb s M)) :=
  (pt_cmpR ho ha hb hm).imp fun _ _ _ h => lift2 (liftT h)
def ev3 (p q : D → D → Option D) (fa fb fc : Sl → Mem → Res Val) : Sl → Mem → Res Val := fun s M => (fa s M).bind fun v M1 => (fb s M1).bind fun w M2 => match view M2 v, view M2 w with
    | some x, some y => match p x y with
      | some (.bl true) => (fc s M2).bind fun u M3 => match view M3 w, view M3 u with
        | some y', some z => Res.of ((q y' z).map .d) M3
        | _, _ => .bad
      | some (.bl false) => .ok (.d (.bl false)) M2
      | _ => .bad
    | _, _ => .bad
theorem lift3 {K : Fr} {p q : D → D → Option D} {σ : L2.St} {H : Hp} {Q : VK} (h : LE false K (ev3 p q fa fb fc) σ H Q) : tChain (r2D false K p) (r2D false K q) (LE false K fa) (LE false K fb) (LE false K fc) σ H Q := by
  obtain ⟨δ, M, F, μ, x, M', S, R, e0, k⟩ := h
  obtain ⟨v, M1, e1, e0⟩ := bind_ok e0
  obtain ⟨w, M2, e2, e0⟩ := bind_ok e0
  refine ⟨δ, M, F, μ, v, M1, S, R, e1, fun F1 μ1 H1 v1 st1 S1 r1 => ⟨δ, M1, F1, μ1, w, M2, S1, R.mono st1.fr st1.whole, e2, fun F2 μ2 H2 v2 st2 S2 r2 => ?_⟩⟩
  have R2 := (R.mono st1.fr st1.whole).mono st2.fr st2.whole
  cases hx : view M2 v with
  | none => rw [hx] at e0; cases e0
  | some dx =>
    cases hy : view M2 w with
    | none => rw [hx, hy] at e0; cases e0
    | some dy =>
      rw [hx, hy] at e0
      cases hp : p dx dy with
      | none => simp only [hp] at e0; cases e0
      | some d =>
        simp only [hp] at e0
        refine ⟨F2, dx, dy, d, S2.sub, S2.view (RepV.mono st2.fr st2.whole r1) hx, S2.view r2 hy, hp, fun F' H' u n ru => ?_⟩
        cases d with
        | bl t =>
          cases ru
          refine ⟨t, rfl, ?_⟩
          cases t with
          | false =>
            rw [if_neg Bool.false_ne_true]
            cases e0
            exact k F' μ2 H' (.bl false) (st1.transE (st2.transE n.step)) (n.sim S2) (.bl false)
          | true =>
            rw [if_pos rfl]
            obtain ⟨u', M3, e3, e0⟩ := bind_ok e0
            refine ⟨δ, M2, F', μ2, u', M3, n.sim S2, R2.mono n.fr (List.take_length), e3, fun F3 μ3 H3 v3 st3 S3 r3 => ?_⟩
            cases hy' : view M3 w with
            | none => rw [hy'] at e0; cases e0
            | some dy' =>
              cases hz : view M3 u' with
              | none => rw [hy', hz] at e0; cases e0
              | some dz =>
                rw [hy', hz] at e0
                obtain ⟨d2, hd2, rfl, rfl⟩ := res_map e0
                have r2' : RepV K F' μ2 w v2 := RepV.mono n.fr (List.take_length) r2
                refine ⟨F3, dy', dz, d2, S3.sub, S3.view (RepV.mono st3.fr st3.whole r2') hy', S3.view r3 hz, hd2, fun F4 H4 u4 n4 ru4 => ?_⟩
                exact k F4 μ3 H4 u4 (st1.transE (st2.transE (n.step.transE (st3.transE n4.step)))) (n4.sim S3) ru4
        | _ => cases e0
theorem q_cmp3 {op op' : CmpOp} {p q : D → D → Option D} (ho : OpR X (compareOp op) (r2D false X.K p)) (ho' : OpR X (compareOp op') (r2D false X.K q)) (ha : PE X a (LE false X.K fa)) (hb : PE X b (LE false X.K fb)) (hc : PE X c (LE false X.K fc))
    (hm : lastMarks [op, op'] [b, c] = false) : PE X (.Compare a [op, op'] [b, c] pos) (LE false X.K (ev3 p q fa fb fc)) :=
  (pe_chain ho ho' ha hb hc hm).imp fun _ _ _ h => lift3 h
theorem q_cmp3T {op op' : CmpOp} {p q : D → D → Option D} (ho : OpR X (compareOp op) (r2D false X.K p)) (ho' : OpR X (compareOp op') (r2D false X.K q)) (ha : PE X a (LE false X.K fa)) (hb : PE X b (LE false X.K fb)) (hc : PE X c (LE false X.K fc))
    (hm : lastMarks [op, op'] [b, c] = false) : PT X (.Compare a [op, op'] [b, c] pos) (LT X.K fun s M => toB (ev3 p q fa fb fc s M)) :=
  (pt_chain ho ho' ha hb hc hm).imp fun _ _ _ h => lift3 (liftT h)

/-! ### tests -/
theorem q_val (h : PE X e (LE false X.K fa)) (he : ∀ whole, isTrue e X.env whole = (do let v ← whole; standAt e.pos; holding [v] (truthy v))) : PT X e (LT X.K fun s M => toB (fa s M)) :=
  (pt_val h he).imp fun _ _ _ h => liftT h
theorem liftN {K : Fr} {f : Sl → Mem → Res Bool} {σ : L2.St} {H : Hp} {Q : Bool → Hp → Prop} (h : LT K (fun s M => toB ((f s M).bind fun b M1 => .ok (.d (.bl (!b))) M1)) σ H Q) : LT K f σ H (fun b H' => Q (!b) H') := by
  obtain ⟨δ, M, F, μ, x, M', S, R, e0, k⟩ := h
  obtain ⟨v, M1, e1, e0⟩ := bind_ok e0
  obtain ⟨t, M2, e1, e2⟩ := bind_ok e1
  cases e2
  cases e0
  exact ⟨δ, M, F, μ, t, _, S, R, e1, k⟩
theorem q_not (h : PE X a (LE false X.K fa)) : PE X (.UnaryOp .Not a pos) (LE false X.K fun s M => (toB (fa s M)).bind fun b M1 => .ok (.d (.bl (!b))) M1) := by
  refine (pe_not h).imp fun σ H Q ⟨δ, M, F, μ, x, M', S, R, e0, k⟩ => ?_
  obtain ⟨t, M1, e1, e0⟩ := bind_ok e0
  cases e0
  exact liftT ⟨δ, M, F, μ, t, _, S, R, e1, fun F' μ' H' st S' => k F' μ' H' _ st S' (.bl _)⟩
theorem q_notT {fT : Sl → Mem → Res Bool} (h : PT X a (LT X.K fT)) : PT X (.UnaryOp .Not a pos) (LT X.K fun s M => toB ((fT s M).bind fun b M1 => .ok (.d (.bl (!b))) M1)) :=
  (pt_not h).imp fun _ _ _ h => liftN h
/-! ### and, or -/
variable {rest : List Expr} {x1 : Expr}
def evAnd (fa fr : Sl → Mem → Res Val) : Sl → Mem → Res Val := fun s M => (toB (fa s M)).bind fun b M1 => if b then fr s M1 else .ok (.d (.bl false)) M1
def evOr (fa fr : Sl → Mem → Res Val) : Sl → Mem → Res Val := fun s M => (toB (fa s M)).bind fun b M1 => if b then .ok (.d (.bl true)) M1 else fr s M1
theorem q_and (ha : PE X a (LE false X.K fa)) (hb : PE X (.BoolOp .And (x1 :: rest) pos) (LE false X.K fb)) : PE X (.BoolOp .And (a :: x1 :: rest) pos) (LE false X.K (evAnd fa fb)) := by
  refine (pe_and ha hb).imp fun σ H Q ⟨δ, M, F, μ, x, M', S, R, e0, k⟩ => ?_
  obtain ⟨t, M1, e1, e0⟩ := bind_ok e0
  refine liftT ⟨δ, M, F, μ, t, _, S, R, e1, fun F1 μ1 H1 st1 S1 => ?_⟩
  cases t with
  | false => rw [if_neg Bool.false_ne_true]; cases e0; exact k F1 μ1 H1 _ st1 S1 (.bl _)
  | true => rw [if_pos rfl]; exact ⟨δ, M1, F1, μ1, x, M', S1, R.mono st1.fr st1.whole, e0, fun F' μ' H' v st S' p => k F' μ' H' v (st1.transE st) S' p⟩
theorem q_or (ha : PE X a (LE false X.K fa)) (hb : PE X (.BoolOp .Or (x1 :: rest) pos) (LE false X.K fb)) : PE X (.BoolOp .Or (a :: x1 :: rest) pos) (LE false X.K (evOr fa fb)) := by
  refine (pe_or ha hb).imp fun σ H Q ⟨δ, M, F, μ, x, M', S, R, e0, k⟩ => ?_
  obtain ⟨t, M1, e1, e0⟩ := bind_ok e0
  refine liftT ⟨δ, M, F, μ, t, _, S, R, e1, fun F1 μ1 H1 st1 S1 => ?_⟩
  cases t with
  | true => rw [if_pos rfl]; cases e0; exact k F1 μ1 H1 _ st1 S1 (.bl _)
  | false => rw [if_neg Bool.false_ne_true]; exact ⟨δ, M1, F1, μ1, x, M', S1, R.mono st1.fr st1.whole, e0, fun F' μ' H' v st S' p => k F' μ' H' v (st1.transE st) S' p⟩
theorem q_boolop1 {op} (ha : PE X a (LE false X.K fa)) : PE X (.BoolOp op [a] pos) (LE false X.K fa) := pe_one ha
theorem q_andW {op} (ha : PT X a (LT X.K fun s M => toB (fa s M))) : PW X (.BoolOp op [a] pos) (LT X.K fun s M => toB (fa s M)) := by
  cases op with
  | And => exact pw_and1 ha
  | Or => exact pw_or1 ha
theorem toB_and {s : Sl} {M M' : Mem} {x : Bool} (h : toB (evAnd fa fb s M) = .ok x M') : ∃ t M1, toB (fa s M) = .ok t M1 ∧ ((t = true ∧ toB (fb s M1) = .ok x M') ∨ (t = false ∧ x = false ∧ M' = M1)) := by
  obtain ⟨v, M2, e1, e2⟩ := bind_ok h
  obtain ⟨t, M1, e3, e4⟩ := bind_ok e1
  refine ⟨t, M1, e3, ?_⟩
  cases t with
  | true => refine .inl ⟨rfl, ?_⟩; rw [if_pos rfl] at e4; unfold toB; rw [e4]; exact e2
  | false => cases e4; cases e2; exact .inr ⟨rfl, rfl, rfl⟩
theorem toB_or {s : Sl} {M M' : Mem} {x : Bool} (h : toB (evOr fa fb s M) = .ok x M') : ∃ t M1, toB (fa s M) = .ok t M1 ∧ ((t = false ∧ toB (fb s M1) = .ok x M') ∨ (t = true ∧ x = true ∧ M' = M1)) := by
  obtain ⟨v, M2, e1, e2⟩ := bind_ok h
  obtain ⟨t, M1, e3, e4⟩ := bind_ok e1
  refine ⟨t, M1, e3, ?_⟩
  cases t with
  | false => refine .inl ⟨rfl, ?_⟩; rw [if_neg Bool.false_ne_true] at e4; unfold toB; rw [e4]; exact e2
  | true => cases e4; cases e2; exact .inr ⟨rfl, rfl, rfl⟩
theorem _root_.L2.PW.imp {X : Cx} {e : Expr} {t t' : TT} (h : PW X e t) (i : ∀ σ H Q, t' σ H Q → t σ H Q) : PW X e t' := ⟨fun wh pins s σ H Q I q => h.run wh pins s σ H Q I (i σ H Q q)⟩
theorem q_andT (ha : PT X a (LT X.K fun s M => toB (fa s M))) (hb : PW X (.BoolOp .And (x1 :: rest) pos) (LT X.K fun s M => toB (fb s M))) : PW X (.BoolOp .And (a :: x1 :: rest) pos) (LT X.K fun s M => toB (evAnd fa fb s M)) := by
  refine (pw_and ha hb).imp fun σ H Q ⟨δ, M, F, μ, x, M', S, R, e0, k⟩ => ?_
  obtain ⟨t, M1, e1, h⟩ := toB_and e0
  refine ⟨δ, M, F, μ, t, M1, S, R, e1, fun F1 μ1 H1 st1 S1 => ?_⟩
  rcases h with ⟨rfl, e2⟩ | ⟨rfl, rfl, rfl⟩
  · rw [if_pos rfl]; exact ⟨δ, M1, F1, μ1, x, M', S1, R.mono st1.fr st1.whole, e2, fun F' μ' H' st S' => k F' μ' H' (st1.transE st) S'⟩
  · rw [if_neg Bool.false_ne_true]; exact k F1 μ1 H1 st1 S1
theorem q_orT (ha : PT X a (LT X.K fun s M => toB (fa s M))) (hb : PW X (.BoolOp .Or (x1 :: rest) pos) (LT X.K fun s M => toB (fb s M))) : PW X (.BoolOp .Or (a :: x1 :: rest) pos) (LT X.K fun s M => toB (evOr fa fb s M)) := by
  refine (pw_or ha hb).imp fun σ H Q ⟨δ, M, F, μ, x, M', S, R, e0, k⟩ => ?_
  obtain ⟨t, M1, e1, h⟩ := toB_or e0
  refine ⟨δ, M, F, μ, t, M1, S, R, e1, fun F1 μ1 H1 st1 S1 => ?_⟩
  rcases h with ⟨rfl, e2⟩ | ⟨rfl, rfl, rfl⟩
  · rw [if_neg Bool.false_ne_true]; exact ⟨δ, M1, F1, μ1, x, M', S1, R.mono st1.fr st1.whole, e2, fun F' μ' H' st S' => k F' μ' H' (st1.transE st) S'⟩
  · rw [if_pos rfl]; exact k F1 μ1 H1 st1 S1
/-! ### a if t else b -/
def evIf (fT : Sl → Mem → Res Bool) (fa fb : Sl → Mem → Res Val) : Sl → Mem → Res Val := fun s M => (fT s M).bind fun t M1 => if t then fa s M1 else fb s M1
theorem q_ifx {fT : Sl → Mem → Res Bool} (hc : PT X c (LT X.K fT)) (ha : PE X a (LE fr X.K fa)) (hb : PE X b (LE fr X.K fb)) : PE X (.IfExp c a b pos) (LE fr X.K (evIf fT fa fb)) := by
  refine (pe_ifExp hc ha hb).imp fun σ H Q ⟨δ, M, F, μ, x, M', S, R, e0, k⟩ => ?_
  obtain ⟨t, M1, e1, e0⟩ := bind_ok e0
  have post : ∀ {F1 μ1 H1}, StepE F μ H F1 μ1 H1 → ∀ F' μ' H' v, StepE F1 μ1 H1 F' μ' H' → Sim X.K F' μ' M' H' → PostV fr X.K F' μ' H1 H' x v → Q v H' := fun {F1 μ1 H1} st1 F' μ' H' v st S' p => by
    refine k F' μ' H' v (st1.transE st) S' ?_
    cases fr with
    | false => exact p
    | true =>
      obtain ⟨a, ds, vs, h1, h2, h3, h4, h5, h6, h7⟩ := p
      exact ⟨a, ds, vs, h1, h2, h3, h4, h5, st1.up a h6, h7⟩
  refine ⟨δ, M, F, μ, t, M1, S, R, e1, fun F1 μ1 H1 st1 S1 => ?_⟩
  cases t with
  | true => rw [if_pos rfl] at e0 ⊢; exact ⟨δ, M1, F1, μ1, x, M', S1, R.mono st1.fr st1.whole, e0, post st1⟩
  | false => rw [if_neg Bool.false_ne_true] at e0 ⊢; exact ⟨δ, M1, F1, μ1, x, M', S1, R.mono st1.fr st1.whole, e0, post st1⟩
theorem q_ifxT {fT : Sl → Mem → Res Bool} (hc : PT X c (LT X.K fT)) (ha : PT X a (LT X.K fun s M => toB (fa s M))) (hb : PT X b (LT X.K fun s M => toB (fb s M))) : PT X (.IfExp c a b pos) (LT X.K fun s M => toB (evIf fT fa fb s M)) := by
  refine ⟨fun pins s σ H Q I ⟨δ, M, F, μ, x, M', S, R, e0, k⟩ => ?_⟩
  obtain ⟨v, M2, e1, e2⟩ := bind_ok e0
  obtain ⟨t, M1, e3, e4⟩ := bind_ok e1
  show wpAny _ _ (do if ← isTrue c X.env (eval c X.env) then isTrue a X.env (eval a X.env) else isTrue b X.env (eval b X.env)) _ _ _
  refine wpAny_bind (thn (hc.run pins s σ H (fun u H1 => if u = true then LT X.K (fun s M => toB (fa s M)) σ H1 Q else LT X.K (fun s M => toB (fb s M)) σ H1 Q) I ⟨δ, M, F, μ, t, M1, S, R, e3, fun F1 μ1 H1 st1 S1 => ?_⟩) fun u s1 ⟨H1, I1, q1⟩ => ?_)
  · cases t with
    | true => rw [if_pos rfl] at e4 ⊢; exact ⟨δ, M1, F1, μ1, x, M', S1, R.mono st1.fr st1.whole, by show (fa δ M1).bind _ = _; rw [e4]; exact e2, fun F' μ' H' st S' => k F' μ' H' (st1.transE st) S'⟩
    | false => rw [if_neg Bool.false_ne_true] at e4 ⊢; exact ⟨δ, M1, F1, μ1, x, M', S1, R.mono st1.fr st1.whole, by show (fb δ M1).bind _ = _; rw [e4]; exact e2, fun F' μ' H' st S' => k F' μ' H' (st1.transE st) S'⟩
  · cases u with
    | true => rw [if_pos rfl] at q1; exact ha.run pins s1 σ H1 Q I1 q1
    | false => rw [if_neg Bool.false_ne_true] at q1; exact hb.run pins s1 σ H1 Q I1 q1

/-! ### lists of arguments, displays -/
variable {es : List Expr}
/-- e is no *e -/
def plainArg : Expr → Bool
  | .Starred _ _ => false
  | _ => true
theorem star_plain (h : plainArg e = true) (es : List Expr) (env : Env) : starEach (e :: es) env = (false, eval e env) :: starEach es env := by
  cases e <;> first | rfl | cases h
theorem star_any {p : Pos} {env : Env} : ∀ {es : List Expr}, es.all plainArg = true → (backTo p (starEach es env)).any (·.1) = false := by
  intro es
  induction es with
  | nil => intro _; rfl
  | cons e es ih =>
    intro h
    rw [List.all_cons, Bool.and_eq_true] at h
    rw [star_plain h.1]
    have := ih h.2
    simp only [backTo, List.map_cons, List.any_cons, Bool.or_eq_false_iff] at this ⊢
    exact ⟨trivial, this⟩
theorem q_nil : PA X [] (LA X.K fun _ M => .ok [] M) :=
  pa_nil.imp fun σ H Q ⟨δ, M, F, μ, x, M', S, R, e0, k⟩ => by
    cases e0
    exact k F μ H [] (Step.refl _ _ _ _) S .nil
def evCons (fa : Sl → Mem → Res Val) (fl : Sl → Mem → Res (List Val)) : Sl → Mem → Res (List Val) := fun s M => (fa s M).bind fun v M1 => (fl s M1).bind fun vs M2 => .ok (v :: vs) M2
theorem liftC {K : Fr} {fl : Sl → Mem → Res (List Val)} {σ : L2.St} {H : Hp} {Q : List V → Hp → Prop} (h : LA K (evCons fa fl) σ H Q) : tCons (LE false K fa) (LA K fl) σ H Q := by
  obtain ⟨δ, M, F, μ, x, M', S, R, e0, k⟩ := h
  obtain ⟨v, M1, e1, e0⟩ := bind_ok e0
  obtain ⟨vs, M2, e2, e0⟩ := bind_ok e0
  cases e0
  refine ⟨δ, M, F, μ, v, M1, S, R, e1, fun F1 μ1 H1 v1 st1 S1 r1 => ⟨δ, M1, F1, μ1, vs, _, S1, R.mono st1.fr st1.whole, e2, fun F2 μ2 H2 vs2 st2 S2 r2 => ?_⟩⟩
  exact k F2 μ2 H2 _ (st1.transE st2) S2 (.cons (RepV.mono st2.fr st2.whole r1) r2)
theorem q_cons {fl : Sl → Mem → Res (List Val)} (hp : plainArg e = true) (ha : PE X e (LE false X.K fa)) (hr : PA X es (LA X.K fl)) : PA X (e :: es) (LA X.K (evCons fa fl)) :=
  (pa_cons ha hr (star_plain hp es X.env)).imp fun _ _ _ h => liftC h
theorem q_dnil : PA X [] (LDs X.K fun _ M => .ok [] M) :=
  pa_nil.imp fun σ H Q ⟨δ, M, F, μ, x, M', S, R, e0, k⟩ => by
    cases e0
    exact k F μ H [] (Step.refl _ _ _ _) S .nil
def evConsD (fa : Sl → Mem → Res Val) (fl : Sl → Mem → Res (List D)) : Sl → Mem → Res (List D) := fun s M => (fa s M).bind fun v M1 => match v with
  | .d x => (fl s M1).bind fun xs M2 => .ok (x :: xs) M2
  | _ => .bad
theorem q_dcons {fl : Sl → Mem → Res (List D)} (hp : plainArg e = true) (ha : PE X e (LE false X.K fa)) (hr : PA X es (LDs X.K fl)) : PA X (e :: es) (LDs X.K (evConsD fa fl)) := by
  refine (pa_cons ha hr (star_plain hp es X.env)).imp fun σ H Q ⟨δ, M, F, μ, x, M', S, R, e0, k⟩ => ?_
  obtain ⟨v, M1, e1, e0⟩ := bind_ok e0
  cases v with
  | ref n => cases e0
  | d y =>
    obtain ⟨vs, M2, e2, e0⟩ := bind_ok e0
    cases e0
    refine ⟨δ, M, F, μ, .d y, M1, S, R, e1, fun F1 μ1 H1 v1 st1 S1 r1 => ⟨δ, M1, F1, μ1, vs, _, S1, R.mono st1.fr st1.whole, e2, fun F2 μ2 H2 vs2 st2 S2 r2 => ?_⟩⟩
    exact k F2 μ2 H2 _ (st1.transE st2) S2 (.cons (Rep.mono st2.fr r1) r2)
theorem big_line : big = sizeLine := sizeLine_eq.symm
def evTup (fl : Sl → Mem → Res (List D)) : Sl → Mem → Res Val := fun s M => (fl s M).bind fun xs M1 => if xs.length ≤ big then .ok (.d (.tup xs)) M1 else .bad
def evLst (fl : Sl → Mem → Res (List D)) : Sl → Mem → Res Val := fun s M => (fl s M).bind fun xs M1 => if xs.length ≤ big then .ok (.d (.lst xs)) M1 else .bad
theorem q_tup {fl : Sl → Mem → Res (List D)} {k : Nat} (h : PA X es (LDs X.K fl)) : PE X (.Tuple es k pos) (LE false X.K (evTup fl)) := by
  refine (pe_tup h).imp fun σ H Q ⟨δ, M, F, μ, x, M', S, R, e0, kk⟩ => ?_
  obtain ⟨xs, M1, e1, e0⟩ := bind_ok e0
  by_cases hl : xs.length ≤ big
  · rw [if_pos hl] at e0
    cases e0
    refine ⟨δ, M, F, μ, xs, _, S, R, e1, fun F1 μ1 H1 vs st1 S1 r1 => ⟨by rw [← r1.length, sizeLine_eq]; exact hl, fun p hp => ?_⟩⟩
    have n := NewF.alloc S1.sub hp (.tup vs)
    exact kk _ μ1 _ _ (st1.transE n.step) (n.sim S1) (Rep.tup hl (.inl (.inl upd_same)) (Reps.mono n.fr r1))
  · rw [if_neg hl] at e0; cases e0
theorem q_lst {fl : Sl → Mem → Res (List D)} (h : PA X es (LDs X.K fl)) : PE X (.List es pos) (LE true X.K (evLst fl)) := by
  refine (pe_lst h).imp fun σ H Q ⟨δ, M, F, μ, x, M', S, R, e0, kk⟩ => ?_
  obtain ⟨xs, M1, e1, e0⟩ := bind_ok e0
  by_cases hl : xs.length ≤ big
  · rw [if_pos hl] at e0
    cases e0
    refine ⟨δ, M, F, μ, xs, _, S, R, e1, fun F1 μ1 H1 vs st1 S1 r1 => ⟨by rw [← r1.length, sizeLine_eq]; exact hl, fun p hp => ?_⟩⟩
    have n := NewF.alloc S1.sub hp (.lst vs)
    have n2 : NewF F1 H1 F1 (upd H1 p (.lst vs)) := ⟨Sub.refl _, S1.sub.trans n.keep, n.keep, fun a o h => .inl h⟩
    refine kk F1 μ1 _ _ (st1.transE n2.step) (n2.sim S1) ⟨p, xs, vs, rfl, rfl, upd_same, ?_, fun z => S1.tracked z hp, st1.up p hp, hl, r1⟩
    cases q : F1 p with
    | none => rfl
    | some o => rw [S1.sub p o q] at hp; cases hp
  · rw [if_neg hl] at e0; cases e0
end
end DL
end P_DL2
section P_DL3
set_option Elab.async false
set_option linter.all false
set_option maxRecDepth 100000
set_option maxHeartbeats 1000000
/-! Calls of built-in functions, of methods; subscripts; comprehensions. -/
namespace DL
open PySem PySem.Spec PyProof.Rows L2
section
variable {X : Cx} {fa fb fc : Sl → Mem → Res Val} {fl : Sl → Mem → Res (List Val)} {a b c e : Expr} {es : List Expr} {pos : Pos} {fr : Bool}

def evB (p : List D → Option D) (fl : Sl → Mem → Res (List Val)) : Sl → Mem → Res Val := fun s M => (fl s M).bind fun vs M1 => match views M1 vs with
  | some xs => Res.of ((p xs).map .d) M1
  | none => .bad
theorem liftB {K : Fr} {p : List D → Option D} {σ : L2.St} {H : Hp} {Q : VK} (h : LE fr K (evB p fl) σ H Q) : tCB (rLD fr K p) (LA K fl) σ H Q := by
  obtain ⟨δ, M, F, μ, x, M', S, R, e0, k⟩ := h
  obtain ⟨vs, M1, e1, e0⟩ := bind_ok e0
  refine ⟨δ, M, F, μ, vs, M1, S, R, e1, fun F1 μ1 H1 v1 st1 S1 r1 => ?_⟩
  cases hx : views M1 vs with
  | none => simp only [hx] at e0; cases e0
  | some xs =>
    simp only [hx] at e0
    obtain ⟨d, hd, rfl, rfl⟩ := res_map e0
    exact ⟨F1, xs, d, S1.sub, S1.views r1 hx, hd, PostD.of S1 (fun a h => st1.up a h) fun F' H' u n S' q => k F' μ1 H' u (st1.transE n.step) S' q⟩
theorem q_callB {id : String} {x : Str} {pn : Pos} {p : List D → Option D} (hc : CallR X (.builtin id) (rLD fr X.K p)) (hg : Gl X x) (hm : X.mg x = none) (hv : bootBuiltins x = some (.builtin id)) (ha : PA X (e :: es) (LA X.K fl)) (hpl : (e :: es).all plainArg = true)
    (hn : x ≠ "__name__") (hdb : (x == ("__debug__" : Str)) = false) : PE X (.Call (.Name x pn) (e :: es) [] pos) (LE fr X.K (evB p fl)) := by
  rw [List.all_cons, Bool.and_eq_true] at hpl
  exact (pe_callB hc hg hm hv ha hn hdb (star_plain hpl.1 es X.env) (star_any hpl.2)).imp fun _ _ _ h => liftB h
theorem q_callTy {T : String} {x : Str} {pn : Pos} {p : List D → Option D} (hc : CallR X (.type T) (rLD fr X.K p)) (hg : Gl X x) (hm : X.mg x = none) (hv : bootBuiltins x = some (.type T)) (ha : PA X (e :: es) (LA X.K fl)) (hpl : (e :: es).all plainArg = true)
    (hn : x ≠ "__name__") (hdb : (x == ("__debug__" : Str)) = false) : PE X (.Call (.Name x pn) (e :: es) [] pos) (LE fr X.K (evB p fl)) := by
  rw [List.all_cons, Bool.and_eq_true] at hpl
  exact (pe_callTy hc hg hm hv ha hn hdb (star_plain hpl.1 es X.env) (star_any hpl.2)).imp fun _ _ _ h => liftB h

/-! ### methods -/
/-- a method of the type T by values -/
structure MeFact (X : Cx) (name : Str) (T id : String) (r : V → List V → Hp → VK → Prop) : Prop where
  pa : PlainAttrs T
  slot : Slot T name id
  ty : typeOf (.builtin id) = pure (.type "method_descriptor")
  rule : MtR X id r
/-- o is no call without arguments -/
def notBare : Expr → Bool
  | .Call _ [] [] _ => false
  | _ => true
theorem base_plain {o : Expr} (h : notBare o = true) (name : Str) (env : Env) : attributeBase o name env (eval o env) = eval o env := by
  cases o with
  | Call f args kws p =>
    cases args with
    | nil =>
      cases kws with
      | nil => cases h
      | cons _ _ => cases f <;> rfl
    | cons _ _ => cases f <;> rfl
  | _ => rfl
theorem star_few {p : Pos} {env : Env} : ∀ {es : List Expr}, es.all plainArg = true → (backTo p (starEach es env)).all (fun x => !x.1) = true := by
  intro es
  induction es with
  | nil => intro _; rfl
  | cons e es ih =>
    intro h
    rw [List.all_cons, Bool.and_eq_true] at h
    rw [star_plain h.1]
    have := ih h.2
    simp only [backTo, List.map_cons, List.all_cons, Bool.and_eq_true] at this ⊢
    exact ⟨rfl, this⟩
def tBMU (X : Cx) (name : Str) (to : TE) (t : TA) : TE := fun σ H Q => to σ H fun x H1 => ∃ T id r, MeFact X name T id r ∧ tyV X.K T x H1 ∧ t σ H1 fun xs H2 => r x xs H2 Q
theorem pe_bmU {name : Str} {o : Expr} {to : TE} {t : TA} {apos : Pos} (ho : PE X o to) (ha : PA X es t) (hb : notBare o = true) (hpl : es.all plainArg = true) (hl : es.length < 30) (hline : (apos.endLine == pos.line) = true) :
    PE X (.Call (.Attribute o name apos) es [] pos) (tBMU X name to t) := by
  refine ⟨fun pins s σ H Q I h => ?_⟩
  have hfew : ((backTo pos (starEach es X.env)).all (fun x => !x.1) && (backToKw pos (keywordEach [] X.env)).all (fun x => x.1.isSome) && decide (es.length + ([] : List Keyword).length + (if ([] : List Keyword).isEmpty then 0 else 1) < 30)) = true := by
    rw [star_few hpl]
    simp only [List.length_nil, List.isEmpty_nil, if_true, Nat.add_zero, decide_eq_true hl, Bool.and_true, Bool.true_and]
    rfl
  refine wpAny_Call_method_late (base_plain hb name X.env) hfew hline rfl (thn (ho.run pins s σ H _ I h) fun v s1 ⟨x, H1, I1, r1, T, id, r, m, ty, q1⟩ => ?_)
  obtain ⟨h1, h2⟩ := tyV_is I1 r1 ty
  refine ⟨T, id, m.pa, m.slot, m.ty, h1, h2, ?_⟩
  cases es with
  | nil =>
    have hA := ha.run pos pins s1 σ H1 _ I1 q1
    refine Calls.callWith_builtin rfl ?_
    unfold evalArgs
    show wpAny _ _ (spliced [] >>= _) _ _ _
    refine wpAny_bind (thn (show wpAny (model X.prog X.w) X.A (spliced []) (AP X pins σ fun xs H2 => r x xs H2 Q) X.xe s1 from hA) fun us s2 ⟨vs, H2, I2, r2, q2⟩ => ?_)
    refine wpAny_bind (wpAny_pure (wpAny_holding (wpAny_bind (wpAny_pure (wpAny_bind (wpAny_pure (wpAny_pure ?_)))))))
    exact m.rule pins s2 σ H2 x vs v us Q I2 r1 r2 q2
  | cons e es =>
    have hA := ha.run pos pins s1 σ H1 _ I1 q1
    rw [List.all_cons, Bool.and_eq_true] at hpl
    rw [star_plain hpl.1] at hA ⊢
    refine Calls.callWith_builtin (by show (false || (backTo pos (starEach es X.env)).any (·.1)) = false; rw [star_any hpl.2]; rfl) (Calls.evalArgs_plain ?_)
    exact thn hA fun us s2 ⟨vs, H2, I2, r2, q2⟩ => m.rule pins s2 σ H2 x vs v us Q I2 r1 r2 q2

/-- the part of p for receivers of one kind -/
def atKd (k : Kd) (p : D → List D → Option D) : D → List D → Option D := fun x xs => if kd x = k then p x xs else none
/-- a method's name by kinds -/
structure MeTab (X : Cx) (fr : Bool) (name : Str) (p : D → List D → Option D) : Prop where
  str : (∃ id, MeFact X name "str" id (rMD fr X.K (atKd .str p))) ∨ ∀ x xs, kd x = .str → p x xs = none
  lst : (∃ id, MeFact X name "list" id (rMD fr X.K (atKd .lst p))) ∨ ∀ x xs, kd x = .lst → p x xs = none
  dic : ∀ x xs, kd x = .dic → p x xs = none
  tup : ∀ x xs, kd x = .tup → p x xs = none
  oth : ∀ x xs, kd x = .oth → p x xs = none
def evM (p : D → List D → Option D) (fa : Sl → Mem → Res Val) (fl : Sl → Mem → Res (List Val)) : Sl → Mem → Res Val := fun s M => (fa s M).bind fun v M1 => match view M1 v with
  | some x1 => (fl s M1).bind fun vs M2 => (match view M2 v, views M2 vs with
    | some x, some xs => if kd x1 = kd x then Res.of ((p x xs).map .d) M2 else .bad
    | _, _ => .bad)
  | none => .bad
theorem q_me {name : Str} {o : Expr} {apos : Pos} {p : D → List D → Option D} (tb : MeTab X fr name p) (ho : PE X o (LE false X.K fa)) (ha : PA X es (LA X.K fl)) (hb : notBare o = true) (hpl : es.all plainArg = true) (hl : es.length < 30) (hline : (apos.endLine == pos.line) = true) :
    PE X (.Call (.Attribute o name apos) es [] pos) (LE fr X.K (evM p fa fl)) := by
  refine (pe_bmU ho ha hb hpl hl hline).imp fun σ H Q ⟨δ, M, F, μ, x, M', S, R, e0, k⟩ => ?_
  obtain ⟨v, M1, e1, e0⟩ := bind_ok e0
  cases hx1 : view M1 v with
  | none => simp only [hx1] at e0; cases e0
  | some x1 =>
  simp only [hx1] at e0
  obtain ⟨vs, M2', e2, e0⟩ := bind_ok e0
  cases hx : view M2' v with
  | none => simp only [hx] at e0; cases e0
  | some dx =>
    cases hy : views M2' vs with
    | none => simp only [hx, hy] at e0; cases e0
    | some dxs =>
      simp only [hx, hy] at e0
      by_cases hk : kd x1 = kd dx
      · rw [if_pos hk] at e0
        obtain ⟨d, hd, rfl, rfl⟩ := res_map e0
        refine ⟨δ, M, F, μ, v, M1, S, R, e1, fun F1 μ1 H1 v1 st1 S1 r1 => ?_⟩
        have key : ∀ (T id : String) (r : V → List V → Hp → VK → Prop), MeFact X name T id (rMD fr X.K (atKd (kd x1) p)) → tyV X.K T v1 H1 →
            ∃ T id r, MeFact X name T id r ∧ tyV X.K T v1 H1 ∧ LA X.K fl σ H1 fun xs H2 => r v1 xs H2 Q := fun T id r m ty => by
          refine ⟨T, id, _, m, ty, δ, M1, F1, μ1, vs, M', S1, R.mono st1.fr st1.whole, e2, fun F2 μ2 H2 vs2 st2 S2 r2 => ?_⟩
          exact ⟨F2, dx, dxs, d, S2.sub, S2.view (RepV.mono st2.fr st2.whole r1) hx, S2.views r2 hy, by unfold atKd; rw [if_pos hk.symm]; exact hd, PostD.of S2 (fun a h => st1.up a (st2.up a h)) fun F' H' u n S' q => k F' μ2 H' u (st1.transE (st2.transE n.step)) S' q⟩
        have no : ∀ {q : Prop}, p dx dxs = none → q := fun z => by rw [hd] at z; cases z
        -- the receiver's type, as it is at its own reading
        have rt := S1.view r1 hx1
        cases hk1 : kd x1 with
        | oth => exact no (tb.oth dx dxs (by rw [← hk, hk1]))
        | tup => exact no (tb.tup dx dxs (by rw [← hk, hk1]))
        | str =>
          rcases tb.str with ⟨id, m⟩ | z
          · rw [← hk1] at m
            refine key _ _ (rMD fr X.K (atKd (kd x1) p)) m ?_
            cases rt with
            | d rr => cases rr <;> first | (cases hk1; done) | rfl
            | lst _ _ _ => cases hk1
          · exact no (z dx dxs (by rw [← hk, hk1]))
        | lst =>
          rcases tb.lst with ⟨id, m⟩ | z
          · rw [← hk1] at m
            refine key _ _ (rMD fr X.K (atKd (kd x1) p)) m ?_
            cases rt with
            | d rr => cases rr with
              | lst _ h _ => exact .inl ⟨rfl, _, SqL.of (S1.sub _ _ h)⟩
              | _ => cases hk1
            | lst _ h _ => exact .inl ⟨rfl, _, SqL.of h⟩
          · exact no (z dx dxs (by rw [← hk, hk1]))
        | dic => exact no (tb.dic dx dxs (by rw [← hk, hk1]))
      · rw [if_neg hk] at e0; cases e0

/-! ### methods that change a list of the store -/
/-- what stands for the arguments -/
def ArgsR (K : Fr) (F H : Hp) (m : Mu) (xs : List D) (vs : List V) : Prop := match m with
  | .extend => RepTs K F H xs vs
  | _ => Reps K F xs vs
theorem plainVs_rep {K : Fr} {F : Hp} {μ : List Addr} : ∀ {xs : List Val} {vs : List V} {ds : List D}, RepVs K F μ xs vs → plainVs xs = some ds → Reps K F ds vs
  | _, _, _, .nil, h => by cases h; exact .nil
  | .d x :: xs, _, ds, .cons r rs, h => by
    obtain ⟨l, hl, rfl⟩ := Option.map_eq_some_iff.mp (show (plainVs xs).map (x :: ·) = some ds from h)
    exact .cons r (plainVs_rep rs hl)
  | .ref _ :: xs, _, ds, .cons r rs, h => by cases h
theorem argsOf_rep {K : Fr} {F : Hp} {μ : List Addr} {M : Mem} {H : Hp} {m : Mu} {xs : List Val} {vs : List V} {ds : List D} (S : Sim K F μ M H) (r : RepVs K F μ xs vs) (h : argsOf m M xs = some ds) : ArgsR K F H m ds vs := by
  cases m <;> first | exact S.views r h | exact plainVs_rep r h
/-- the change of a list at a by a method -/
def rMuD (K : Fr) (m : Mu) : V → List V → Hp → VK → Prop := fun v vs H Q => ∃ F a ds ws xs y es, v = .ref a ∧ H a = some (.lst ws) ∧ F a = none ∧ Sub F H ∧ ds.length ≤ big ∧ Reps K F ds ws ∧ ArgsR K F H m xs vs ∧ muD m (.lst ds) xs = some (y, .lst es) ∧
  ∀ us u, Reps K F es us → es.length ≤ big → Rep K F y u → Q u (upd H a (.lst us))
def evMu (m : Mu) (i : Nat) (fl : Sl → Mem → Res (List Val)) : Sl → Mem → Res Val := fun s M => match s[i]? with
  | some (some (.ref n)) => (fl s M).bind fun vs M1 => match M1[n]?, argsOf m M1 vs with
    | some o, some xs => match muD m o xs with
      | some (y, o') => .ok (.d y) (M1.set n o')
      | none => .bad
    | _, _ => .bad
  | _ => .bad
/-- an object of the store is changed -/
theorem Sim.put {K : Fr} {F : Hp} {μ : List Addr} {M : Mem} {H : Hp} (S : Sim K F μ M H) {n : Nat} {a : Addr} {es : List D} {us : List V} (ha : μ[n]? = some a) (hl : es.length ≤ big) (r : Reps K F es us) : Sim K F μ (M.set n (.lst es)) (upd H a (.lst us)) where
  sub := fun b o h => by
    have e : b ≠ a := fun e => by subst e; rw [S.out b (List.mem_of_getElem? ha)] at h; cases h
    rw [upd_ne e]; exact S.sub b o h
  out := S.out
  nd := S.nd
  len := by rw [List.length_set]; exact S.len
  obj := fun i o b h1 h2 => by
    by_cases e : i = n
    · subst e
      have hi : i < M.length := S.alen ha
      rw [List.getElem?_set_self hi] at h1
      rw [ha] at h2
      cases h1; cases h2
      rw [upd_same]; exact ⟨hl, r⟩
    · rw [List.getElem?_set_ne (Ne.symm e)] at h1
      have hb : b ≠ a := fun z => e (by
        subst z
        obtain ⟨p1, q1⟩ := List.getElem?_eq_some_iff.mp h2
        obtain ⟨p2, q2⟩ := List.getElem?_eq_some_iff.mp ha
        exact (List.getElem_inj S.nd).mp (q1.trans q2.symm))
      rw [upd_ne hb]; exact S.obj i o b h1 h2
theorem Sim.putStep {K : Fr} {F : Hp} {μ : List Addr} {M : Mem} {H : Hp} (S : Sim K F μ M H) {n : Nat} {a : Addr} (ha : μ[n]? = some a) (o : HO) : StepE F μ H F μ (upd H a o) where
  fr := Sub.refl F
  pre := rfl
  new := fun _ h => .inl h
  keep := fun b u h n => by rw [upd_ne (fun e => n (by rw [e]; exact List.mem_of_getElem? ha))]; exact h
  up := fun b h => by
    by_cases e : b = a
    · rw [e, upd_same] at h; cases h
    · rw [upd_ne e] at h; exact h
  newF := fun _ _ h => .inl h
theorem q_mu {name x : Str} {i : Nat} {id : String} {xpos apos : Pos} {m : Mu} (mf : MeFact X name "list" id (rMuD X.K m)) (hN : X.N[i]? = some x) (hv : Vis X.env.scope x) (hd : (x == ("__debug__" : Str)) = false) (hcd : (x == ("__classdict__" : Str)) = false)
    (ha : PA X es (LA X.K fl)) (hpl : es.all plainArg = true) (hl : es.length < 30) (hline : (apos.endLine == pos.line) = true) :
    PE X (.Call (.Attribute (.Name x xpos) name apos) es [] pos) (LE false X.K (evMu m i fl)) := by
  refine (pe_bmU (pe_var hN hv hd hcd) ha rfl hpl hl hline).imp fun σ H Q ⟨δ, M, F, μ, z, M', S, R, e0, k⟩ => ?_
  unfold evMu at e0
  cases h1 : δ[i]? with
  | none => simp only [h1] at e0; cases e0
  | some o =>
    cases o with
    | none => simp only [h1] at e0; cases e0
    | some w =>
      cases w with
      | d y => simp only [h1] at e0; cases e0
      | ref n =>
        simp only [h1] at e0
        obtain ⟨v, ev, r⟩ := R.at_ i _ h1
        obtain ⟨a, ha1, rfl⟩ := r
        obtain ⟨vs, M1, e1, e0⟩ := bind_ok e0
        have hm : n < M.length := S.alen ha1
        have q := S.obj n M[n] a (List.getElem?_eq_getElem hm) ha1
        refine ⟨_, ev, "list", id, _, mf, ?_, δ, M, F, μ, vs, M1, S, R, e1, fun F1 μ1 H1 vs1 st1 S1 r1 => ?_⟩
        · cases hM : M[n] with
          | dic l => rw [hM] at q; exact q.elim
          | lst l =>
            rw [hM] at q
            cases hH : H a with
            | none => rw [hH] at q; exact q.elim
            | some u =>
              rw [hH] at q
              cases u <;> first | exact .inl ⟨rfl, _, SqL.of hH⟩ | exact q.elim
        · cases hM : M1[n]? with
          | none => simp only [hM] at e0; cases e0
          | some o =>
            cases hx : argsOf m M1 vs with
            | none => simp only [hM, hx] at e0; cases e0
            | some xs =>
              simp only [hM, hx] at e0
              have ha2 : μ1[n]? = some a := by
                have hn : n < μ.length := (List.getElem?_eq_some_iff.mp ha1).1
                rw [st1.get hn]; exact ha1
              have q1 := S1.obj n o a hM ha2
              cases o with
              | dic l => exact q1.elim
              | lst ds =>
                cases hH : H1 a with
                | none => rw [hH] at q1; exact q1.elim
                | some u =>
                  rw [hH] at q1
                  cases u with
                  | lst ws =>
                    cases hmu : muD m (.lst ds) xs with
                    | none => simp only [hmu] at e0; cases e0
                    | some yo =>
                      obtain ⟨y, o'⟩ := yo
                      simp only [hmu] at e0
                      cases e0
                      obtain ⟨es', rfl⟩ : ∃ es', o' = .lst es' := by
                        cases m <;> simp only [muD] at hmu <;> (repeat' split at hmu) <;> first
                          | (cases hmu; exact ⟨_, rfl⟩)
                          | (obtain ⟨_, _, hh⟩ := Option.map_eq_some_iff.mp hmu; cases hh; exact ⟨_, rfl⟩)
                          | cases hmu
                      refine ⟨F1, a, ds, ws, xs, y, es', rfl, hH, S1.out a (List.mem_of_getElem? ha2), S1.sub, q1.1, q1.2, argsOf_rep S1 r1 hx, hmu, fun us u ru hl' ry => ?_⟩
                      exact k F1 μ1 _ u (st1.transE (S1.putStep ha2 _)) (S1.put ha2 hl' ru) ry
                  | _ => exact q1.elim

/-! ### subscripts -/
def isSlice : Expr → Bool
  | .Slice _ _ _ _ => true
  | _ => false
theorem plainIx (h : isSlice b = false) : PlainIx b := fun o i => by
  cases b <;> first | rfl | cases h
theorem q_sub {p : D → D → Option D} (hr : IxR X (r2D fr X.K p)) (ha : PE X a (LE false X.K fa)) (hb : PE X b (LE false X.K fb)) (hs : isSlice b = false) : PE X (.Subscript a b pos) (LE fr X.K (ev2 p fa fb)) :=
  (pe_ix hr ha hb (plainIx hs)).imp fun _ _ _ h => lift2 h
def rSlD (fr : Bool) (K : Fr) : V → Option Int → Option Int → Hp → VK → Prop := fun v lo hi H Q => ∃ F x d, Sub F H ∧ RepT K F H x v ∧ (match x with
  | .lst l => some (.lst (cut l lo hi))
  | .scr l => some (.lst (cut l lo hi))
  | .tup l => some (.tup (cut l lo hi))
  | .str s => some (.str (cut s lo hi))
  | _ => none) = some d ∧ PostD fr K F H d Q
theorem repT_int {K : Fr} {F H : Hp} {i : Int} {v : V} (r : RepT K F H (.int i) v) : v = .int i := by
  cases r with
  | d r => cases r; rfl
theorem bnd_int {y : D} {o : Option Int} (h : bndD (some y) = some o) : ∃ i, y = .int i ∧ o = some i := by
  cases y <;> first | (cases h; exact ⟨_, rfl, rfl⟩) | cases h
theorem q_slL {p2 : Pos} (hr : SlR X (rSlD fr X.K)) (ha : PE X a (LE false X.K fa)) (hb : PE X b (LE false X.K fb)) : PE X (.Subscript a (.Slice (some b) none none p2) pos) (LE fr X.K (ev2 (fun x y => sliceD x (some y) none) fa fb)) := by
  refine (pe_slice hr ha (po_some hb) po_none).imp fun σ H Q h => ?_
  have z := lift2 (fr := fr) (p := fun x y => sliceD x (some y) none) h
  obtain ⟨δ, M, F, μ, x, M', S, R, e0, k⟩ := z
  refine ⟨δ, M, F, μ, x, M', S, R, e0, fun F1 μ1 H1 v1 st1 S1 r1 => ?_⟩
  obtain ⟨δ, M, F, μ, x, M', S, R, e0, k⟩ := k F1 μ1 H1 v1 st1 S1 r1
  refine ⟨δ, M, F, μ, x, M', S, R, e0, fun F2 μ2 H2 v2 st2 S2 r2 => ?_⟩
  obtain ⟨F3, x3, y3, d, sb, rx, ry, hp, q⟩ := k F2 μ2 H2 v2 st2 S2 r2
  cases hb : bndD (some y3) with
  | none => simp only [sliceD, hb] at hp; cases hp
  | some o =>
    obtain ⟨i, rfl, rfl⟩ := bnd_int hb
    exact ⟨i, repT_int ry, F3, x3, d, sb, rx, hp, q⟩
theorem q_slH {p2 : Pos} (hr : SlR X (rSlD fr X.K)) (ha : PE X a (LE false X.K fa)) (hb : PE X b (LE false X.K fb)) : PE X (.Subscript a (.Slice none (some b) none p2) pos) (LE fr X.K (ev2 (fun x y => sliceD x none (some y)) fa fb)) := by
  refine (pe_slice hr ha po_none (po_some hb)).imp fun σ H Q h => ?_
  have z := lift2 (fr := fr) (p := fun x y => sliceD x none (some y)) h
  obtain ⟨δ, M, F, μ, x, M', S, R, e0, k⟩ := z
  refine ⟨δ, M, F, μ, x, M', S, R, e0, fun F1 μ1 H1 v1 st1 S1 r1 => ?_⟩
  obtain ⟨δ, M, F, μ, x, M', S, R, e0, k⟩ := k F1 μ1 H1 v1 st1 S1 r1
  refine ⟨δ, M, F, μ, x, M', S, R, e0, fun F2 μ2 H2 v2 st2 S2 r2 => ?_⟩
  obtain ⟨F3, x3, y3, d, sb, rx, ry, hp, q⟩ := k F2 μ2 H2 v2 st2 S2 r2
  cases hb : bndD (some y3) with
  | none => simp only [sliceD, hb] at hp; cases hp
  | some o =>
    obtain ⟨i, rfl, rfl⟩ := bnd_int hb
    exact ⟨i, repT_int ry, F3, x3, d, sb, rx, hp, q⟩
def evSl (fa fb fc : Sl → Mem → Res Val) : Sl → Mem → Res Val := fun s M => (fa s M).bind fun v M1 => (fb s M1).bind fun w M2 => (fc s M2).bind fun u M3 => match view M3 v, view M3 w, view M3 u with
    | some x, some y, some z => Res.of ((sliceD x (some y) (some z)).map .d) M3
    | _, _, _ => .bad
theorem q_slLH {p2 : Pos} (hr : SlR X (rSlD fr X.K)) (ha : PE X a (LE false X.K fa)) (hb : PE X b (LE false X.K fb)) (hc : PE X c (LE false X.K fc)) : PE X (.Subscript a (.Slice (some b) (some c) none p2) pos) (LE fr X.K (evSl fa fb fc)) := by
  refine (pe_slice hr ha (po_some hb) (po_some hc)).imp fun σ H Q ⟨δ, M, F, μ, x, M', S, R, e0, k⟩ => ?_
  obtain ⟨v, M1, e1, e0⟩ := bind_ok e0
  obtain ⟨w, M2', e2, e0⟩ := bind_ok e0
  obtain ⟨u, M3, e3, e0⟩ := bind_ok e0
  refine ⟨δ, M, F, μ, v, M1, S, R, e1, fun F1 μ1 H1 v1 st1 S1 r1 => ⟨δ, M1, F1, μ1, w, M2', S1, R.mono st1.fr st1.whole, e2, fun F2 μ2 H2 v2 st2 S2 r2 => ?_⟩⟩
  cases hx : view M3 v with
  | none => simp only [hx] at e0; cases e0
  | some dx =>
    cases hy : view M3 w with
    | none => simp only [hx, hy] at e0; cases e0
    | some dy =>
      cases hz : view M3 u with
      | none => simp only [hx, hy, hz] at e0; cases e0
      | some dz =>
        simp only [hx, hy, hz] at e0
        obtain ⟨d, hd, rfl, rfl⟩ := res_map e0
        cases hb1 : bndD (some dy) with
        | none => simp only [sliceD, hb1] at hd; cases hd
        | some o1 =>
          cases hb2 : bndD (some dz) with
          | none => simp only [sliceD, hb1, hb2] at hd; cases hd
          | some o2 =>
            obtain ⟨i, rfl, rfl⟩ := bnd_int hb1
            obtain ⟨j, rfl, rfl⟩ := bnd_int hb2
            -- the bounds are plain numbers
            have hw : w = .d (.int i) := by
              cases w with
              | d y => cases hy; rfl
              | ref n =>
                rw [view_ref] at hy
                cases e : M'[n]? with
                | none => rw [e] at hy; cases hy
                | some o => rw [e] at hy; cases o <;> cases hy
            subst hw
            refine ⟨i, repT_int (.d (H := H2) r2), δ, M2', F2, μ2, u, M', S2, (R.mono st1.fr st1.whole).mono st2.fr st2.whole, e3, fun F3 μ3 H3 v3 st3 S3 r3 => ⟨j, repT_int (S3.view r3 hz), F3, dx, d, S3.sub, S3.view (RepV.mono st3.fr st3.whole (RepV.mono st2.fr st2.whole r1)) hx, hd, ?_⟩⟩
            exact PostD.of S3 (fun a h => st1.up a (st2.up a (st3.up a h))) fun F' H' u n S' q => k F' μ3 H' u (st1.transE (st2.transE (st3.transE n.step))) S' q
end
end DL
end P_DL3
section P_DL4
set_option Elab.async false
set_option linter.all false
set_option maxRecDepth 100000
set_option maxHeartbeats 1000000
/-! What is walked; targets; comprehensions; statements. -/
namespace DL
open PySem PySem.Spec PyProof.Rows L2
section
variable {X : Cx} {fa fb fc : Sl → Mem → Res Val} {fl : Sl → Mem → Res (List Val)} {a b c e tg iter elt : Expr} {es : List Expr} {pos : Pos} {fr : Bool}

/-! ### what is walked -/
/-- at turn i the walk J gives what stands for the i-th of xs, wherever F stands -/
structure Its (K : Fr) (F : Hp) (xs : List D) (J : L2.It) : Prop where
  few : xs.length ≤ big
  goes : ∀ i H, i < xs.length → Sub F H → J.go i H
  stops : ∀ H, Sub F H → J.stop xs.length H
  yields : ∀ i H x H' d F0, xs[i]? = some d → Sub F F0 → Sub F0 H → J.yld i H x H' → ∃ F1, NewF F0 H F1 H' ∧ Rep K F1 d x
def LI (K : Fr) (f : Sl → Mem → Res (List D)) : TI := fun σ H R => ∃ δ M F μ xs M', Sim K F μ M H ∧ RepS K F μ δ σ ∧ f δ M = .ok xs M' ∧
  ∀ F' μ' H' J, StepE F μ H F' μ' H' → Sim K F' μ' M' H' → Its K F' xs J → R J H'
theorem _root_.L2.PI.imp {X : Cx} {tg e : Expr} {t t' : TI} (h : PI X tg e t) (i : ∀ σ H Q, t' σ H Q → t σ H Q) : PI X tg e t' := ⟨fun pins s σ H Q I q => h.run pins s σ H Q I (i σ H Q q)⟩
theorem its_list {K : Fr} {F : Hp} {p : Addr} {vs : List V} {ds : List D} (hl : ds.length ≤ big) (h : SqL K F p vs) (r : Reps K F ds vs) : Its K F ds (Itl K p) where
  few := hl
  goes := fun i H hi s => ⟨vs, vs[i]'(by rw [← r.length]; exact hi), s.sqL h, by simp⟩
  stops := fun H s => ⟨vs, s.sqL h, by rw [r.length]; exact Nat.le_refl _⟩
  yields := fun i H x H' d F0 hd s0 s1 ⟨e, y⟩ => by
    obtain ⟨v, hv, rv⟩ := r.get hd
    have z := y vs ((s0.trans s1).sqL h)
    rw [hv] at z; cases z
    subst e
    exact ⟨F0, NewF.refl s1, rv.mono s0⟩
theorem its_tup {K : Fr} {F : Hp} {p : Addr} {vs : List V} {ds : List D} (hl : ds.length ≤ big) (h : SqT K F p vs) (r : Reps K F ds vs) : Its K F ds (Itt K p) where
  few := hl
  goes := fun i H hi s => ⟨vs, vs[i]'(by rw [← r.length]; exact hi), s.sqT h, by simp⟩
  stops := fun H s => ⟨vs, s.sqT h, by rw [r.length]; exact Nat.le_refl _⟩
  yields := fun i H x H' d F0 hd s0 s1 ⟨e, y⟩ => by
    obtain ⟨v, hv, rv⟩ := r.get hd
    have z := y vs ((s0.trans s1).sqT h)
    rw [hv] at z; cases z
    subst e
    exact ⟨F0, NewF.refl s1, rv.mono s0⟩
theorem enc_get {s : List Char} {i : Nat} {c : Nat} (h : (enc s).cps[i]? = some c) : ∃ ch, s[i]? = some ch ∧ c = ch.toNat := by
  unfold enc at h
  simp only [List.getElem?_toArray, List.getElem?_map] at h
  obtain ⟨ch, h1, h2⟩ := Option.map_eq_some_iff.mp h
  exact ⟨ch, h1, h2.symm⟩
theorem enc_size (s : List Char) : (enc s).cps.size = s.length := by simp [enc]
theorem enc_length (s : List Char) : (enc s).length = s.length := by simp [enc, Str.length]
theorem enc_one (c : Char) : enc [c] = ⟨#[c.toNat]⟩ := rfl
theorem its_str {K : Fr} {F : Hp} {s : List Char} (hl : s.length ≤ big) : Its K F (s.map fun c => .str [c]) (L2.Its (enc s)) where
  few := by rw [List.length_map]; exact hl
  goes := fun i H hi _ => walk_str.goes i H (by rw [enc_size]; rwa [List.length_map] at hi) trivial
  stops := fun H _ => by
    have z := (walk_str (z := enc s)).stops H trivial
    rw [enc_size] at z
    rw [List.length_map]; exact z
  yields := fun i H x H' d F0 hd s0 s1 y => by
    have hi : i < (enc s).cps.size := by
      rw [enc_size]
      have := (List.getElem?_eq_some_iff.mp hd).1
      rwa [List.length_map] at this
    obtain ⟨e, c, hc, rfl⟩ := (walk_str (z := enc s)).yields i H x H' hi trivial y
    subst e
    obtain ⟨ch, h1, rfl⟩ := enc_get hc
    rw [List.getElem?_map, h1] at hd
    cases hd
    exact ⟨F0, NewF.refl s1, Rep.str [ch] (by show 1 ≤ big; decide)⟩
theorem upto_length : ∀ (n : Nat) (i : Int), (upto n i).length = n
  | 0, _ => rfl
  | n + 1, i => congrArg (· + 1) (upto_length n (i + 1))
theorem upto_get : ∀ (n : Nat) (i : Int) (k : Nat), k < n → (upto n i)[k]? = some (.int (i + k))
  | n + 1, i, 0, _ => by simp [upto]
  | n + 1, i, k + 1, h => by
    have z := upto_get n (i + 1) k (by omega)
    simp only [upto, List.getElem?_cons_succ, z]
    congr 2
    omega
theorem its_range {K : Fr} {F : Hp} {lo : Int} {n : Nat} (hl : n ≤ big) : Its K F (upto n lo) (Itr lo n) where
  few := by rw [upto_length]; exact hl
  goes := fun i H hi _ => by rw [upto_length] at hi; exact hi
  stops := fun H _ => by rw [upto_length]; exact Nat.le_refl _
  yields := fun i H x H' d F0 hd s0 s1 ⟨e, y⟩ => by
    have hi : i < n := by
      have := (List.getElem?_eq_some_iff.mp hd).1
      rwa [upto_length] at this
    rw [upto_get n lo i hi] at hd
    cases hd
    subst e y
    exact ⟨F0, NewF.refl s1, .int _⟩
/-- an expression's value, walked: a list, a tuple, a text -/
def iAny (K : Fr) (te : TE) : TI := fun σ H R => te σ H fun x H1 => (∃ p, x = .ref p ∧ (∃ vs, SqL K H1 p vs) ∧ R (Itl K p) H1) ∨ (∃ p, x = .ref p ∧ (∃ vs, SqT K H1 p vs) ∧ R (Itt K p) H1) ∨ ∃ z, x = .str z ∧ R (L2.Its z) H1
/-- te as it is with one answer fixed -/
def atV (x : V) : TE := fun _ H Q => Q x H
theorem pi_any {te : TE} (he : PE X e te) : PI X tg e (iAny X.K te) := by
  refine ⟨fun pins s σ H R I h => ?_⟩
  refine thn (he.run pins s σ H _ I h) fun v s1 ⟨x, H1, I1, r1, q1⟩ => ?_
  rcases q1 with ⟨p, rfl, ⟨vs, hq⟩, q⟩ | ⟨p, rfl, ⟨vs, hq⟩, q⟩ | ⟨z, rfl, q⟩
  · cases r1
    obtain ⟨its, rv, pl, hz⟩ := I1.list hq
    refine wpAny_pyIter_list pl.isList ?_
    refine ⟨s1.heap.objs.size, [s1.heap.objs.size], _, _, H1, rfl, I1.kept (t' := s1.toks) fun b o e => Heap.get?_push_of_some _ e, turn_list p _, ⟨_, Heap.get?_push_size _ rfl, rfl, rfl⟩, fun b hb => ?_, q⟩
    have e : b = s1.heap.objs.size := by simpa using hb
    subst e
    exact I1.fpOk (Nat.le_refl _) (I1.hok.fresh (Nat.le_refl _))
  · cases r1
    obtain ⟨its, rv, pl, hz⟩ := I1.tuple hq
    refine wpAny_pyIter_tuple (show s1.heap.IsTuple p its.toArray from pl) ?_
    refine ⟨s1.heap.objs.size, [s1.heap.objs.size], _, _, H1, rfl, I1.kept (t' := s1.toks) fun b o e => Heap.get?_push_of_some _ e, turn_tuple p _, ⟨_, Heap.get?_push_size _ rfl, rfl, rfl⟩, fun b hb => ?_, q⟩
    have e : b = s1.heap.objs.size := by simpa using hb
    subst e
    exact I1.fpOk (Nat.le_refl _) (I1.hok.fresh (Nat.le_refl _))
  · obtain ⟨t, rfl⟩ := r1
    cases ha : z.cps.all (· < 128)
    · exact wpAny_pyIter_wide ha (pi_one (tk := s1.toks) I1 _ (turn_str _ z t "str_iterator" (.inr rfl)) ⟨_, Heap.get?_push_size _ rfl, rfl, rfl⟩ q)
    · exact wpAny_pyIter_ascii ha (pi_one (tk := s1.toks) I1 _ (turn_str _ z t "str_ascii_iterator" (.inl rfl)) ⟨_, Heap.get?_push_size _ rfl, rfl, rfl⟩ q)
def evIt (fa : Sl → Mem → Res Val) : Sl → Mem → Res (List D) := fun s M => (fa s M).bind fun v M1 => match v with
  | .d x => Res.of (items x) M1
  | _ => .bad
theorem q_it (he : PE X e (LE false X.K fa)) : PI X tg e (LI X.K (evIt fa)) := by
  refine (pi_any he).imp fun σ H R ⟨δ, M, F, μ, xs, M', S, RS, e0, k⟩ => ?_
  obtain ⟨v, M1, e1, e0⟩ := bind_ok e0
  cases v with
  | ref n => cases e0
  | d y =>
    obtain ⟨h1, rfl⟩ := of_ok e0
    refine ⟨δ, M, F, μ, .d y, M', S, RS, e1, fun F1 μ1 H1 v1 st1 S1 r1 => ?_⟩
    have r1' : Rep X.K F1 y v1 := r1
    cases r1' with
    | lst hl h r => cases h1; exact .inl ⟨_, rfl, ⟨_, S1.sub.sqL (SqL.of h)⟩, k F1 μ1 H1 _ st1 S1 (its_list hl (SqL.of h) r)⟩
    | scr hl h r => cases h1; exact .inl ⟨_, rfl, ⟨_, S1.sub.sqL h⟩, k F1 μ1 H1 _ st1 S1 (its_list hl h r)⟩
    | tup hl h r => cases h1; exact .inr (.inl ⟨_, rfl, ⟨_, S1.sub.sqT h⟩, k F1 μ1 H1 _ st1 S1 (its_tup hl h r)⟩)
    | str s hl => cases h1; exact .inr (.inr ⟨_, rfl, k F1 μ1 H1 _ st1 S1 (its_str hl)⟩)
    | _ => cases h1
def evRng (fl : Sl → Mem → Res (List Val)) : Sl → Mem → Res (List D) := fun s M => (fl s M).bind fun vs M1 => match views M1 vs with
  | some xs => Res.of (rngD xs) M1
  | none => .bad
theorem repTs_1 {K : Fr} {F H : Hp} {x : D} {vs : List V} (r : RepTs K F H [x] vs) : ∃ v, vs = [v] ∧ RepT K F H x v := by
  cases r with | cons a b => cases b; exact ⟨_, rfl, a⟩
theorem repTs_2 {K : Fr} {F H : Hp} {x y : D} {vs : List V} (r : RepTs K F H [x, y] vs) : ∃ v w, vs = [v, w] ∧ RepT K F H x v ∧ RepT K F H y w := by
  cases r with | cons a b => cases b with | cons c d => cases d; exact ⟨_, _, rfl, a, c⟩
def evNil : Sl → Mem → Res (List Val) := fun _ M => .ok [] M
theorem one_len {s : Sl} {M M1 : Mem} {vs : List Val} (h : evCons fa evNil s M = .ok vs M1) : vs.length = 1 := by
  obtain ⟨v, M2, e1, h⟩ := bind_ok h
  obtain ⟨ws, M3, e2, h⟩ := bind_ok h
  cases h; cases e2; rfl
theorem two_len {s : Sl} {M M1 : Mem} {vs : List Val} (h : evCons fa (evCons fb evNil) s M = .ok vs M1) : vs.length = 2 := by
  obtain ⟨v, M2, e1, h⟩ := bind_ok h
  obtain ⟨ws, M3, e2, h⟩ := bind_ok h
  cases h
  rw [List.length_cons, one_len e2]
theorem q_rng1 {p : Pos} (hg : Gl X "range") (hm : X.mg "range" = none) (ha : PE X a (LE false X.K fa)) (hp : plainArg a = true) : PI X tg (.Call (.Name "range" p) [a] [] pos) (LI X.K (evRng (evCons fa evNil))) := by
  refine (pi_range1 hg hm (q_cons hp ha q_nil) (star_plain hp [] X.env)).imp fun σ H R ⟨δ, M, F, μ, xs, M', S, RS, e0, k⟩ => ?_
  obtain ⟨vs, M1, e1, e0⟩ := bind_ok e0
  cases hx : views M1 vs with
  | none => simp only [hx] at e0; cases e0
  | some ys =>
    simp only [hx] at e0
    obtain ⟨h1, rfl⟩ := of_ok e0
    refine ⟨δ, M, F, μ, vs, M', S, RS, e1, fun F1 μ1 H1 vs1 st1 S1 r1 => ?_⟩
    have rt := S1.views r1 hx
    have hl := one_len e1
    unfold rngD at h1
    split at h1
    · rename_i n
      obtain ⟨v, rfl, rv⟩ := repTs_1 rt
      obtain rfl := repT_int rv
      split at h1
      · rename_i hn
        cases h1
        exact ⟨n, rfl, by omega, by omega, k F1 μ1 H1 _ st1 S1 (its_range (by show n.toNat ≤ 16777216; omega))⟩
      · cases h1
    · obtain ⟨v, w, rfl, _, _⟩ := repTs_2 rt
      cases r1 with | cons p q => cases q with | cons p' q' => cases q'; simp at hl
    · cases h1
theorem q_rng2 {p : Pos} (hg : Gl X "range") (hm : X.mg "range" = none) (ha : PE X a (LE false X.K fa)) (hb : PE X b (LE false X.K fb)) (hp : plainArg a = true) (hp2 : plainArg b = true) : PI X tg (.Call (.Name "range" p) [a, b] [] pos) (LI X.K (evRng (evCons fa (evCons fb evNil)))) := by
  refine (pi_range2 hg hm (q_cons hp ha (q_cons hp2 hb q_nil)) (by rw [star_plain hp, star_plain hp2]; rfl) (by rw [star_plain hp2]; rfl)).imp fun σ H R ⟨δ, M, F, μ, xs, M', S, RS, e0, k⟩ => ?_
  obtain ⟨vs, M1, e1, e0⟩ := bind_ok e0
  cases hx : views M1 vs with
  | none => simp only [hx] at e0; cases e0
  | some ys =>
    simp only [hx] at e0
    obtain ⟨h1, rfl⟩ := of_ok e0
    refine ⟨δ, M, F, μ, vs, M', S, RS, e1, fun F1 μ1 H1 vs1 st1 S1 r1 => ?_⟩
    have rt := S1.views r1 hx
    have hl := two_len e1
    unfold rngD at h1
    split at h1
    · obtain ⟨v, rfl, rv⟩ := repTs_1 rt
      cases r1 with | cons p q => cases q; simp at hl
    · rename_i i j
      obtain ⟨v, w, rfl, rv, rw'⟩ := repTs_2 rt
      obtain rfl := repT_int rv
      obtain rfl := repT_int rw'
      split at h1
      · rename_i hn
        cases h1
        exact ⟨i, j, rfl, ⟨by omega, by omega, by omega, by omega⟩, k F1 μ1 H1 _ st1 S1 (its_range (by show (j - i).toNat ≤ 16777216; omega))⟩
      · cases h1
    · cases h1

/-! ### targets -/
/-- behind a target: the slots as the evaluator has them; all others as they were -/
def LG (K : Fr) (t : Tg) (own : List Nat) : TG := fun v σ H Q => ∃ δ F μ x δ', RepS K F μ δ σ ∧ Rep K F x v ∧ Sub F H ∧ bindTg t x δ = some δ' ∧
  ∀ σ', RepS K F μ δ' σ' → σ'.length = σ.length → (∀ i, i ∉ own → σ'[i]? = σ[i]?) → Q σ' H
theorem _root_.L2.PG.imp {X : Cx} {e : Expr} {t t' : TG} (h : PG X e t) (i : ∀ v σ H Q, t' v σ H Q → t v σ H Q) : PG X e t' := ⟨fun pins s σ H v u Q I r q => h.run pins s σ H v u Q I r (i v σ H Q q)⟩
theorem RepS.put {K : Fr} {F : Hp} {μ : List Addr} {δ : Sl} {σ : L2.St} (R : RepS K F μ δ σ) {i : Nat} {x : Val} {v : V} (h : RepV K F μ x v) : RepS K F μ (δ.set i (some x)) (σ.set i (some v)) := by
  refine ⟨by rw [List.length_set, List.length_set]; exact R.len, fun j y e => ?_⟩
  by_cases hj : i = j
  · subst hj
    by_cases hi : i < δ.length
    · rw [List.getElem?_set_self hi] at e
      cases e
      exact ⟨v, List.getElem?_set_self (by rw [← R.len]; exact hi), h⟩
    · rw [List.getElem?_eq_none (by rw [List.length_set]; omega)] at e; cases e
  · rw [List.getElem?_set_ne hj] at e ⊢
    exact R.at_ j y e
theorem q_tgn {i : Nat} {x : Str} (hN : X.N.Nodup) (hi : X.N[i]? = some x) (hx : Loc X.env.scope x) (hf : X.fn x = true ∨ X.env.scope.names.lookup x = some .local) : PG X (.Name x pos) (LG X.K (.n i) [i]) := by
  refine (pg_name hN hi hx hf).imp fun v σ H Q ⟨δ, F, μ, y, δ', R, r, sb, hb, k⟩ => ?_
  unfold bindTg at hb
  split at hb
  · cases hb
    refine k _ (R.put (x := .d y) r) (List.length_set ..) fun j hj => ?_
    rw [List.getElem?_set_ne (by simpa [eq_comm] using hj)]
  · cases hb
def LGs (K : Fr) (ts : List Tg) (own : List Nat) : TGs := fun vs σ H Q => ∃ δ F μ xs δ', RepS K F μ δ σ ∧ Reps K F xs vs ∧ Sub F H ∧ bindTgs ts xs δ = some δ' ∧
  ∀ σ', RepS K F μ δ' σ' → σ'.length = σ.length → (∀ i, i ∉ own → σ'[i]? = σ[i]?) → Q σ' H
theorem _root_.L2.PGs.imp {X : Cx} {e : List Expr} {t t' : TGs} (h : PGs X e t) (i : ∀ v σ H Q, t' v σ H Q → t v σ H Q) : PGs X e t' := ⟨fun pins s σ H v u Q I r q => h.run pins s σ H v u Q I r (i v σ H Q q)⟩
theorem q_tgsnil : PGs X [] (LGs X.K [] []) := by
  refine pgs_nil.imp fun vs σ H Q ⟨δ, F, μ, xs, δ', R, r, sb, hb, k⟩ => ?_
  cases r with
  | nil => cases hb; exact ⟨rfl, k σ R rfl fun _ _ => rfl⟩
  | cons _ _ => cases hb
/-- e is no *e -/
theorem asg_plain (h : plainArg e = true) (es : List Expr) (env : Env) : assignEach (e :: es) env = (false, assign e env) :: assignEach es env := by
  cases e <;> first | rfl | cases h
theorem q_tgscons {t : Tg} {ts : List Tg} {o1 o2 : List Nat} (h1 : PG X e (LG X.K t o1)) (h2 : PGs X es (LGs X.K ts o2)) (hp : plainArg e = true) : PGs X (e :: es) (LGs X.K (t :: ts) (o1 ++ o2)) := by
  refine (pgs_cons h1 h2 (by rw [asg_plain hp]; rfl)).imp fun vs σ H Q ⟨δ, F, μ, xs, δ', R, r, sb, hb, k⟩ => ?_
  cases r with
  | nil => cases hb
  | @cons y v ys ws r rs =>
    unfold bindTgs at hb
    cases hd : bindTg t y δ with
    | none => simp only [hd] at hb; cases hb
    | some δ1 =>
      simp only [hd] at hb
      refine ⟨v, ws, rfl, δ, F, μ, y, δ1, R, r, sb, hd, fun σ1 R1 l1 s1 => ⟨δ1, F, μ, ys, δ', R1, rs, sb, hb, fun σ2 R2 l2 s2 => k σ2 R2 (l2.trans l1) fun i hi => ?_⟩⟩
      rw [List.mem_append, not_or] at hi
      rw [s2 i hi.2, s1 i hi.1]
theorem asg_len : ∀ {es : List Expr} {env : Env}, es.all plainArg = true → (assignEach es env).length = es.length := by
  intro es env
  induction es with
  | nil => intro _; rfl
  | cons e es ih =>
    intro h
    rw [List.all_cons, Bool.and_eq_true] at h
    rw [asg_plain h.1, List.length_cons, List.length_cons, ih h.2]
theorem asg_star : ∀ {es : List Expr} {env : Env}, es.all plainArg = true → (assignEach es env).findIdx? (·.1) = none := by
  intro es env
  induction es with
  | nil => intro _; rfl
  | cons e es ih =>
    intro h
    rw [List.all_cons, Bool.and_eq_true] at h
    rw [asg_plain h.1, List.findIdx?_cons, ih h.2]
    rfl
theorem bindTgs_len : ∀ {ts : List Tg} {xs : List D} {δ δ' : Sl}, bindTgs ts xs δ = some δ' → ts.length = xs.length
  | [], [], _, _, _ => rfl
  | [], _ :: _, _, _, h => by cases h
  | _ :: _, [], _, _, h => by cases h
  | t :: ts, x :: xs, δ, δ', h => by
    unfold bindTgs at h
    split at h
    · rw [List.length_cons, List.length_cons, bindTgs_len h]
    · cases h
theorem q_tgt {ts : List Tg} {o : List Nat} {kk : Nat} (hc : X.calm = true) (h : PGs X es (LGs X.K ts o)) (hp : es.all plainArg = true) (hl : es.length = ts.length) : PG X (.Tuple es kk pos) (LG X.K (.t ts) o) := by
  refine (pg_tup hc h (asg_len hp) (asg_star hp)).imp fun v σ H Q ⟨δ, F, μ, y, δ', R, r, sb, hb, k⟩ => ?_
  cases r with
  | @tup p vs ds hz hs rs =>
    unfold bindTg at hb
    exact ⟨p, vs, rfl, sb.sqT hs, by rw [hl, bindTgs_len hb, rs.length], δ, F, μ, ds, δ', R, rs, sb, hb, k⟩
  | _ => unfold bindTg at hb; cases hb

/-! ### comprehensions -/
theorem wipeS_length (s : Sl) : ∀ vs : List Nat, (wipeS s vs).length = s.length
  | [] => rfl
  | v :: vs => by unfold wipeS; rw [List.length_set, wipeS_length s vs]
theorem wipeS_get {s : Sl} {i : Nat} : ∀ {vs : List Nat}, i ∉ vs → (wipeS s vs)[i]? = s[i]?
  | [], _ => rfl
  | v :: vs, h => by
    rw [List.mem_cons, not_or] at h
    unfold wipeS
    rw [List.getElem?_set_ne (Ne.symm h.1), wipeS_get h.2]
theorem wipeS_in {s : Sl} {i : Nat} : ∀ {vs : List Nat}, i ∈ vs → ∀ x, (wipeS s vs)[i]? ≠ some (some x)
  | v :: vs, h, x, e => by
    unfold wipeS at e
    by_cases hv : v = i
    · subst hv
      by_cases hl : v < (wipeS s vs).length
      · rw [List.getElem?_set_self hl] at e; cases e
      · rw [List.getElem?_eq_none (by rw [List.length_set]; omega)] at e; cases e
    · rw [List.getElem?_set_ne hv] at e
      rcases List.mem_cons.mp h with h | h
      · exact hv h.symm
      · exact wipeS_in h x e
theorem wipe_getN {σ : L2.St} {i : Nat} : ∀ {vs : List Nat}, i ∉ vs → (wipe σ vs)[i]? = σ[i]?
  | [], _ => rfl
  | v :: vs, h => by
    rw [List.mem_cons, not_or] at h
    unfold wipe
    rw [List.getElem?_set_ne (Ne.symm h.1), wipe_getN h.2]
theorem wipe_getI {σ : L2.St} {i : Nat} : ∀ {vs : List Nat}, i ∈ vs → (wipe σ vs)[i]? = if i < σ.length then some none else none
  | v :: vs, h => by
    unfold wipe
    by_cases hv : v = i
    · subst hv
      by_cases hl : v < σ.length
      · rw [List.getElem?_set_self (by rw [wipe_length]; exact hl), if_pos hl]
      · rw [List.getElem?_eq_none (by rw [List.length_set, wipe_length]; omega), if_neg hl]
    · rw [List.getElem?_set_ne hv]
      rcases List.mem_cons.mp h with h | h
      · exact absurd h.symm hv
      · exact wipe_getI h
theorem RepS.wipe {K : Fr} {F : Hp} {μ : List Addr} {δ : Sl} {σ : L2.St} (R : RepS K F μ δ σ) (vs : List Nat) : RepS K F μ (wipeS δ vs) (wipe σ vs) := by
  refine ⟨by rw [wipeS_length, wipe_length]; exact R.len, fun i x e => ?_⟩
  by_cases hi : i ∈ vs
  · exact absurd e (wipeS_in hi x)
  · rw [wipeS_get hi] at e
    obtain ⟨v, e1, r⟩ := R.at_ i x e
    exact ⟨v, by rw [wipe_getN hi]; exact e1, r⟩
/-- slots changed within vs alone are the same behind the wipe -/
theorem wipe_same {σ τ : L2.St} {vs : List Nat} (hl : τ.length = σ.length) (h : ∀ i, i ∉ vs → τ[i]? = (wipe σ vs)[i]?) : wipe τ vs = wipe σ vs := by
  refine List.ext_getElem? fun i => ?_
  by_cases hi : i ∈ vs
  · rw [wipe_getI hi, wipe_getI hi, hl]
  · rw [wipe_getN hi, h i hi]
def evBlk (own : List Nat) (t : Tg) (fifs : Sl → Mem → Res Bool) (fa : Sl → Mem → Res Val) (s : Sl) : D → Mem → Res (Option D) := fun x M' => match bindTg t x (wipeS s own) with
  | some s' => (fifs s' M').bind fun b M2 => if b then (fa s' M2).bind fun v M3 => (match v with | .d y => .ok (some y) M3 | _ => .bad) else .ok none M2
  | none => .bad
def evLc (own : List Nat) (t : Tg) (fI : Sl → Mem → Res (List D)) (fifs : Sl → Mem → Res Bool) (fa : Sl → Mem → Res Val) : Sl → Mem → Res Val := fun s M => (fI s M).bind fun xs M1 =>
  (compLoop (evBlk own t fifs fa s) xs M1).bind fun ys M2 => .ok (.d (.lst ys)) M2
theorem compLoop_len {b : D → Mem → Res (Option D)} : ∀ {xs : List D} {M M' : Mem} {ys : List D}, compLoop b xs M = .ok ys M' → ys.length ≤ xs.length
  | [], _, _, _, h => by cases h; exact Nat.le_refl _
  | x :: xs, M, M', ys, h => by
    unfold compLoop at h
    obtain ⟨o, M1, e1, h⟩ := bind_ok h
    obtain ⟨zs, M2, e2, h⟩ := bind_ok h
    have := compLoop_len e2
    cases o with
    | none => cases h; rw [List.length_cons]; omega
    | some y => cases h; rw [List.length_cons, List.length_cons]; omega
/-- a new object's content is told anew -/
theorem Step.updNew {b : Nat} {F F' : Hp} {μ μ' : List Addr} {H H' : Hp} (s : Step b F μ H F' μ' H') {p : Addr} (hp : H p = none) (o : HO) : Step b F μ H F' μ' (upd H' p o) where
  fr := s.fr
  pre := s.pre
  new := s.new
  keep := fun a u h n => by rw [upd_ne (ne_of_none h hp)]; exact s.keep a u h n
  up := fun a h => by
    by_cases e : a = p
    · rw [e, upd_same] at h; cases h
    · rw [upd_ne e] at h; exact s.up a h
  newF := s.newF
theorem Sim.updNew {K : Fr} {F : Hp} {μ : List Addr} {M : Mem} {H : Hp} (S : Sim K F μ M H) {p : Addr} (h1 : F p = none) (h2 : p ∉ μ) (o : HO) : Sim K F μ M (upd H p o) where
  sub := fun a u h => by
    have e : a ≠ p := fun e => by rw [e, h1] at h; cases h
    rw [upd_ne e]; exact S.sub a u h
  out := S.out
  nd := S.nd
  len := S.len
  obj := fun i u a q1 q2 => by
    have e : a ≠ p := fun e => h2 (by rw [← e]; exact List.mem_of_getElem? q2)
    rw [upd_ne e]; exact S.obj i u a q1 q2
/-- what is neither still nor of the store stays so, and as it is -/
theorem Step.apart {F F' : Hp} {μ μ' : List Addr} {H H' : Hp} (s : StepE F μ H F' μ' H') {p : Addr} {o : HO} (hp : H p = some o) (h1 : F p = none) (h2 : p ∉ μ) : H' p = some o ∧ F' p = none ∧ p ∉ μ' := by
  refine ⟨s.keep p o hp h2, ?_, fun z => ?_⟩
  · cases q : F' p with
    | none => rfl
    | some u =>
      rcases s.newF p u q with z | z | ⟨z, _⟩
      · rw [h1] at z; cases z
      · rw [hp] at z; cases z
      · exact absurd z h2
  · rcases s.new p z with z | z
    · exact h2 z
    · rw [hp] at z; cases z
theorem liftLc {K : Fr} {own o : List Nat} {t : Tg} {fI : Sl → Mem → Res (List D)} {fifs : Sl → Mem → Res Bool} {σ : L2.St} {H : Hp} {Q : VK} (ho : ∀ i ∈ o, i ∈ own) (h : LE true K (evLc own t fI fifs fa) σ H Q) :
    tLc (LI K fI) (LG K t o) (LT K fifs) (LE false K fa) own σ H Q := by
  obtain ⟨δ, M, F, μ, x, M', S, R, e0, k⟩ := h
  obtain ⟨xs, M1, e1, e0⟩ := bind_ok e0
  obtain ⟨rs, M2', e2, e0⟩ := bind_ok e0
  cases e0
  refine ⟨δ, M, F, μ, xs, M1, S, R, e1, fun F1 μ1 H1 J st1 S1 its D hD => ?_⟩
  have wk : Walk J xs.length (fun H => Sub F1 H) (fun i H x H' => Sub F1 H ∧ J.yld i H x H') := ⟨fun i H hi g => its.goes i H hi g, its.stops, fun i H x H' hi g y => ⟨g, y⟩⟩
  have R1 := R.mono st1.fr st1.whole
  have F1D : F1 D = none := by
    cases q : F1 D with
    | none => rfl
    | some u => rw [S1.sub D u q] at hD; cases hD
  -- behind i items: ys are made, standing at D; the rest makes zs
  refine lc_it wk (fun i Hi => ∃ Fi μi Mi ys zs acc, StepE F1 μ1 H1 Fi μi Hi ∧ Sim K Fi μi Mi Hi ∧ Hi D = some (.lst acc) ∧ Fi D = none ∧ D ∉ μi ∧ Reps K Fi ys acc ∧ ys.length ≤ i ∧ rs = ys ++ zs ∧ compLoop (evBlk own t fifs fa δ) (xs.drop i) Mi = .ok zs M') ?_ ?_ ?_ ?_
  · exact ⟨F1, μ1, M1, [], rs, [], (Step.refl _ _ _ _).updNew hD _, S1.updNew F1D (fun z => S1.tracked z hD) _, upd_same, F1D, fun z => S1.tracked z hD, .nil, Nat.le_refl _, rfl, e2⟩
  · rintro i Hi _ ⟨Fi, μi, Mi, ys, zs, acc, st, Si, _⟩
    exact st.fr.trans Si.sub
  · rintro i v Hi H2 hi ⟨Fi, μi, Mi, ys, zs, acc, st, Si, hacc, FD, mD, ra, hyl, hrs, hrun⟩ ⟨_, hy⟩
    have hx : xs[i]? = some xs[i] := List.getElem?_eq_getElem hi
    rw [List.drop_eq_getElem_cons hi] at hrun
    unfold compLoop at hrun
    obtain ⟨oy, M3, e3, hrun⟩ := bind_ok hrun
    obtain ⟨zs', M4, e4, hrun⟩ := bind_ok hrun
    obtain ⟨F2, nf, rx⟩ := its.yields i Hi v H2 xs[i] Fi hx st.fr Si.sub hy
    have st2 : StepE Fi μi Hi F2 μi H2 := nf.step
    have S2 := nf.sim Si
    obtain ⟨hacc2, FD2, mD2⟩ := st2.apart hacc FD mD
    unfold evBlk at e3
    cases hb : bindTg t xs[i] (wipeS δ own) with
    | none => simp only [hb] at e3; cases e3
    | some δ' =>
      simp only [hb] at e3
      obtain ⟨b, M5, e5, e3⟩ := bind_ok e3
      have Rw : RepS K F2 μi (wipeS δ own) (wipe σ own) := ((R1.mono st.fr st.whole).mono st2.fr st2.whole).wipe own
      refine ⟨wipeS δ own, F2, μi, xs[i], δ', Rw, rx, S2.sub, hb, fun σ2 R2 l2 s2 => ⟨wipe_same (by rw [l2, wipe_length]) fun j hj => s2 j fun z => hj (ho j z), ?_⟩⟩
      refine ⟨δ', Mi, F2, μi, b, M5, S2, R2, e5, fun F5 μ5 H5 st5 S5 => ?_⟩
      obtain ⟨hacc5, FD5, mD5⟩ := st5.apart hacc2 FD2 mD2
      have r5 : Reps K F5 ys acc := Reps.mono (st2.fr.trans st5.fr) ra
      have stt := (Step.transE st (Step.transE st2 st5))
      cases b with
      | false =>
        rw [if_neg Bool.false_ne_true] at e3 ⊢
        cases e3
        cases hrun
        exact ⟨F5, μ5, _, ys, zs, acc, stt, S5, hacc5, FD5, mD5, r5, by omega, hrs, e4⟩
      | true =>
        rw [if_pos rfl] at e3 ⊢
        obtain ⟨w, M6, e6, e3⟩ := bind_ok e3
        cases w with
        | ref n => cases e3
        | d y =>
          cases e3
          cases hrun
          refine ⟨δ', M5, F5, μ5, .d y, _, S5, R2.mono st5.fr st5.whole, e6, fun F6 μ6 H6 w st6 S6 r6 => ?_⟩
          obtain ⟨hacc6, FD6, mD6⟩ := st6.apart hacc5 FD5 mD5
          have hfew : xs.length ≤ 16777216 := its.few
          refine ⟨acc, hacc6, by rw [← r5.length, sizeLine_eq]; omega, F6, μ6, _, ys ++ [y], zs', acc ++ [w], (stt.transE st6).updNew hD _, S6.updNew FD6 mD6 _, upd_same, FD6, mD6, (Reps.mono st6.fr r5).append (.cons r6 .nil), by rw [List.length_append, List.length_singleton]; omega, by rw [hrs, List.append_assoc]; rfl, e4⟩
  · rintro Hn ⟨Fi, μi, Mi, ys, zs, acc, st, Si, hacc, FD, mD, ra, hyl, hrs, hrun⟩
    rw [List.drop_length] at hrun
    cases hrun
    rw [List.append_nil] at hrs
    subst hrs
    have hfew : xs.length ≤ 16777216 := its.few
    refine k Fi μi Hn _ (st1.transE st) Si ⟨D, rs, acc, rfl, rfl, hacc, FD, mD, st1.up D hD, by show rs.length ≤ 16777216; omega, ra⟩
theorem q_lc {scope : Scope} {own : List (Str × Nat)} {ifs : List Expr} {o : List Nat} {t : Tg} {fI : Sl → Mem → Res (List D)} {fifs : Sl → Mem → Res Bool} (ho : ∀ i ∈ o, i ∈ own.map (·.2)) (hc : X.calm = true) (hN : X.N.Nodup) (hi : PI X tg iter (LI X.K fI)) (ok : BlkOk X.N X.env.scope scope own)
    (hg : ∀ (s : Shared) (H : Hp) (C : Addr) (cl : List (Str × Addr)) (fp : List Addr), PG (X.blk s H scope (compEnvC scope cl C X.env) fp) tg (LG X.K t o)) (ht : ∀ (s : Shared) (H : Hp) (C : Addr) (cl : List (Str × Addr)) (fp : List Addr), PTs (X.blk s H scope (compEnvC scope cl C X.env) fp) ifs (LT X.K fifs))
    (he : ∀ (s : Shared) (H : Hp) (C : Addr) (cl : List (Str × Addr)) (fp : List Addr), PE (X.blk s H scope (compEnvC scope cl C X.env) fp) elt (LE false X.K fa)) (hs : ∀ x, foldedSetIterable iter X.env x = pure x) :
    PE X (.ListComp elt [⟨tg, iter, ifs, 0⟩] scope pos) (LE true X.K (evLc (own.map (·.2)) t fI fifs fa)) :=
  (pe_lc hc hN hi ok hg ht he hs).imp fun _ _ _ h => liftLc ho h
theorem q_ifs0 : PTs X [] (LT X.K fun _ M => .ok true M) := by
  refine ⟨fun pins s σ H Q I ⟨δ, M, F, μ, x, M', S, R, e0, k⟩ => ?_⟩
  cases e0
  exact pts_nil.run pins s σ H Q I (k F μ H (Step.refl _ _ _ _) S)
theorem q_ifs1 {fT : Sl → Mem → Res Bool} (h : PT X e (LT X.K fT)) : PTs X [e] (LT X.K fun s M => (fT s M).bind fun b M1 => if b then .ok true M1 else .ok false M1) := by
  refine ⟨fun pins s σ H Q I ⟨δ, M, F, μ, x, M', S, R, e0, k⟩ => (pts_one h).run pins s σ H Q I ?_⟩
  obtain ⟨b, M1, e1, e0⟩ := bind_ok e0
  cases b <;> cases e0 <;> exact ⟨δ, M, F, μ, _, _, S, R, e1, k⟩
theorem folded_plain (h : ∀ es k p, iter ≠ .Set es k p) (env : Env) (x : Value) : foldedSetIterable iter env x = pure x := by
  cases iter <;> first | rfl | exact absurd rfl (h _ _ _)
end
end DL
end P_DL4
section P_DL5
set_option Elab.async false
set_option linter.all false
set_option maxRecDepth 100000
set_option maxHeartbeats 1000000
/-! Calls of defs; statements; a def by its body. -/
namespace DL
open PySem PySem.Spec PyProof.Rows L2

/-! ### a def's promise -/
/-- called with what stands for xs it hands back what g says -/
def spF (fr : Bool) (K : Fr) (n : Nat) (g : List Val → Mem → Res Val) : Sp := fun vs H Q _ => vs.length = n ∧ ∃ xs M F μ x M', Sim K F μ M H ∧ RepVs K F μ xs vs ∧ g xs M = .ok x M' ∧
  ∀ F' μ' H' v, StepE F μ H F' μ' H' → Sim K F' μ' M' H' → PostV fr K F' μ' H H' x v → Q v H'
section
variable {X : Cx} {fa fb fc : Sl → Mem → Res Val} {fl : Sl → Mem → Res (List Val)} {a b c e tg iter elt : Expr} {es : List Expr} {pos : Pos} {fr : Bool}
def evCall (g : List Val → Mem → Res Val) (fl : Sl → Mem → Res (List Val)) : Sl → Mem → Res Val := fun s M => (fl s M).bind fun vs M1 => g vs M1
theorem RepVs.length {K : Fr} {F : Hp} {μ : List Addr} : ∀ {xs : List Val} {vs : List V}, RepVs K F μ xs vs → xs.length = vs.length
  | _, _, .nil => rfl
  | _, _, .cons _ r => congrArg (· + 1) r.length
theorem PostV.back {K : Fr} {F : Hp} {μ : List Addr} {H0 H1 H : Hp} {x : Val} {v : V} (h : ∀ a, H1 a = none → H0 a = none) (p : PostV fr K F μ H1 H x v) : PostV fr K F μ H0 H x v := by
  cases fr with
  | false => exact p
  | true =>
    obtain ⟨a, ds, vs, h1, h2, h3, h4, h5, h6, h7⟩ := p
    exact ⟨a, ds, vs, h1, h2, h3, h4, h5, h a h6, h7⟩
theorem liftCall {K : Fr} {n : Nat} {g : List Val → Mem → Res Val} (hg : ∀ xs M x M', g xs M = .ok x M' → xs.length = n) {σ : L2.St} {H : Hp} {Q : VK} (h : LE fr K (evCall g fl) σ H Q) : tCall (spF fr K n g) [] E0 (LA K fl) σ H Q := by
  obtain ⟨δ, M, F, μ, x, M', S, R, e0, k⟩ := h
  obtain ⟨vs, M1, e1, e0⟩ := bind_ok e0
  refine ⟨δ, M, F, μ, vs, M1, S, R, e1, fun F1 μ1 H1 ws st1 S1 r1 => ?_⟩
  show spF fr K n g (ws ++ []) H1 Q E0
  rw [List.append_nil]
  exact ⟨by rw [← r1.length, hg _ _ _ _ e0], vs, M1, F1, μ1, x, M', S1, r1, e0, fun F' μ' H' v st S' p => k F' μ' H' v (st1.transE st) S' (p.back fun a => st1.up a)⟩
theorem q_call {n k : Nat} {f : Addr} {fd : FuncData} {x : Str} {p : Pos} {ps : List Str} {g : List Val → Mem → Res Val} (hl : ∀ xs M x M', g xs M = .ok x M' → xs.length = n) (F : FnOk X.prog X.w X.K X.mg X.base CX0 k f fd ps (spF fr X.K n g)) (hr : Room k X.A) (hg : Gl X x) (hm : X.mg x = some (.ref f))
    (hk : PySem.W.keepIn X.K (.ref f) = true) (hb : Binds X.K fd ps []) (ha : PA X (e :: es) (LA X.K fl)) (hp : (e :: es).all plainArg = true) (hdb : (x == ("__debug__" : Str)) = false) : PE X (.Call (.Name x p) (e :: es) [] pos) (LE fr X.K (evCall g fl)) := by
  rw [List.all_cons, Bool.and_eq_true] at hp
  exact (pe_call F hr hg hm hk hb .nil pass0 ha hdb (star_plain hp.1 es X.env) (star_any hp.2)).imp fun _ _ _ h => liftCall hl h

/-! ### keywords -/
theorem q_knil : PK X [] (LA X.K fun _ M => .ok [] M) :=
  pk_nil.imp fun σ H Q ⟨δ, M, F, μ, x, M', S, R, e0, k⟩ => by
    cases e0
    exact k F μ H [] (Step.refl _ _ _ _) S .nil
theorem q_kcons {nm : Option Str} {kpos : Pos} {kws : List Keyword} (ha : PE X e (LE false X.K fa)) (hr : PK X kws (LA X.K fl)) : PK X (⟨nm, e, kpos⟩ :: kws) (LA X.K (evCons fa fl)) :=
  (pk_cons ha hr).imp fun _ _ _ h => liftC h
/-- the values by place, then those by name (ks: their places), in the parameters' order -/
def placeBy {α : Type} (n : Nat) (us : List α) (ks : List Nat) (ws : List α) : List α := (List.range n).filterMap fun i => if i < us.length then us[i]? else ((ks.zip ws).find? (·.1 == i)).map (·.2)
def evCallK (n : Nat) (g : List Val → Mem → Res Val) (ks : List Nat) (fl fk : Sl → Mem → Res (List Val)) : Sl → Mem → Res Val := fun s M => (fl s M).bind fun vs M1 => (fk s M1).bind fun ws M2 => match byNames n vs ks ws with
    | some us => g us M2
    | none => .bad
theorem find_zip {α β : Type} {R : α → β → Prop} : ∀ (ks : List Nat) {us : List α} {ws : List β}, Paired R us ws → ∀ i, (∃ u w, ((ks.zip us).find? (·.1 == i)).map (·.2) = some u ∧ ((ks.zip ws).find? (·.1 == i)).map (·.2) = some w ∧ R u w) ∨
    (((ks.zip us).find? (·.1 == i)).map (·.2) = none ∧ ((ks.zip ws).find? (·.1 == i)).map (·.2) = none)
  | [], _, _, _, i => .inr ⟨rfl, rfl⟩
  | k :: ks, _, _, .nil, i => .inr ⟨rfl, rfl⟩
  | k :: ks, _, _, .cons (a := u) (b := w) r t, i => by
    by_cases h : (k == i) = true
    · exact .inl ⟨u, w, by simp [List.zip_cons_cons, List.find?_cons, h], by simp [List.zip_cons_cons, List.find?_cons, h], r⟩
    · have h' : (k == i) = false := by simpa using h
      rcases find_zip ks t i with ⟨u', w', e1, e2, q⟩ | ⟨e1, e2⟩
      · exact .inl ⟨u', w', by simp only [List.zip_cons_cons, List.find?_cons, h']; exact e1, by simp only [List.zip_cons_cons, List.find?_cons, h']; exact e2, q⟩
      · exact .inr ⟨by simp only [List.zip_cons_cons, List.find?_cons, h']; exact e1, by simp only [List.zip_cons_cons, List.find?_cons, h']; exact e2⟩
theorem Paired.getP {α β : Type} {R : α → β → Prop} : ∀ {us : List α} {ws : List β}, Paired R us ws → ∀ i : Nat, (∃ u w, us[i]? = some u ∧ ws[i]? = some w ∧ R u w) ∨ (us[i]? = none ∧ ws[i]? = none)
  | _, _, .nil, i => .inr ⟨by simp, by simp⟩
  | _, _, .cons (a := u) (b := w) r t, 0 => .inl ⟨u, w, rfl, rfl, r⟩
  | _, _, .cons r t, i + 1 => by simpa using Paired.getP t i
theorem place_pair {α β : Type} {R : α → β → Prop} {us : List α} {ws : List β} {us2 : List α} {ws2 : List β} (h : Paired R us ws) (h2 : Paired R us2 ws2) (ks : List Nat) : ∀ l : List Nat,
    Paired R (l.filterMap fun i => if i < us.length then us[i]? else ((ks.zip us2).find? (·.1 == i)).map (·.2)) (l.filterMap fun i => if i < ws.length then ws[i]? else ((ks.zip ws2).find? (·.1 == i)).map (·.2))
  | [] => .nil
  | i :: l => by
    have ih := place_pair h h2 ks l
    have hl := Paired.length h
    simp only [List.filterMap_cons]
    by_cases hi : i < us.length
    · rw [if_pos hi, if_pos (by omega)]
      rcases Paired.getP h i with ⟨u, w, e1, e2, r⟩ | ⟨e1, e2⟩
      · rw [e1, e2]; exact .cons r ih
      · rw [e1, e2]; exact ih
    · rw [if_neg hi, if_neg (by omega)]
      rcases find_zip ks h2 i with ⟨u, w, e1, e2, r⟩ | ⟨e1, e2⟩
      · rw [e1, e2]; exact .cons r ih
      · rw [e1, e2]; exact ih
theorem mapM_filter {α β : Type} {f : α → Option β} : ∀ {l : List α} {r : List β}, l.mapM f = some r → l.filterMap f = r
  | [], r, h => by cases h; rfl
  | a :: l, r, h => by
    rw [List.mapM_cons] at h
    cases e : f a with
    | none => rw [e] at h; cases h
    | some b =>
      rw [e] at h
      cases e2 : l.mapM f with
      | none => simp only [e2] at h; cases h
      | some rs =>
        simp only [e2] at h
        cases h
        rw [List.filterMap_cons, e, mapM_filter e2]
theorem RepVs.paired {K : Fr} {F : Hp} {μ : List Addr} : ∀ {xs : List Val} {vs : List V}, RepVs K F μ xs vs → Paired (RepV K F μ) xs vs
  | _, _, .nil => .nil
  | _, _, .cons a r => .cons a r.paired
theorem RepVs.of {K : Fr} {F : Hp} {μ : List Addr} : ∀ {xs : List Val} {vs : List V}, Paired (RepV K F μ) xs vs → RepVs K F μ xs vs
  | _, _, .nil => .nil
  | _, _, .cons a r => .cons a (RepVs.of r)
theorem q_callK {n k : Nat} {f : Addr} {fd : FuncData} {x : Str} {p : Pos} {ps kn : List Str} {ks : List Nat} {kws : List Keyword} {fk : Sl → Mem → Res (List Val)} {g : List Val → Mem → Res Val} (hl : ∀ xs M x M', g xs M = .ok x M' → xs.length = n) (F : FnOk X.prog X.w X.K X.mg X.base CX0 k f fd ps (spF fr X.K n g)) (hr : Room k X.A) (hg : Gl X x) (hm : X.mg x = some (.ref f))
    (hk : PySem.W.keepIn X.K (.ref f) = true) (hb : KBinds X.K fd ps kn (fun us ws => placeBy n us ks ws) (fun us ws => placeBy n us ks ws)) (ha : PA X (e :: es) (LA X.K fl)) (hkw : PK X kws (LA X.K fk)) (hall : (backToKw pos (keywordEach kws X.env)).all (·.1.isSome) = true) (hks : (backToKw pos (keywordEach kws X.env)).filterMap (·.1) = kn)
    (hdb : (x == ("__debug__" : Str)) = false) (hp : (e :: es).all plainArg = true) (hany : (backToKw pos (keywordEach kws X.env)).any (·.1.isNone) = false) :
    PE X (.Call (.Name x p) (e :: es) kws pos) (LE fr X.K (evCallK n g ks fl fk)) := by
  have hp' := hp
  rw [List.all_cons, Bool.and_eq_true] at hp
  refine (pe_callK F hr hg hm hk hb pass0 ha hkw hall hks hdb (star_plain hp.1 es X.env) (by rw [star_any hp', hany]; rfl)).imp fun σ H Q ⟨δ, M, F, μ, x, M', S, R, e0, k⟩ => ?_
  obtain ⟨vs, M1, e1, e0⟩ := bind_ok e0
  obtain ⟨ws, M2', e2, e0⟩ := bind_ok e0
  refine ⟨δ, M, F, μ, vs, M1, S, R, e1, fun F1 μ1 H1 v1 st1 S1 r1 => ⟨δ, M1, F1, μ1, ws, M2', S1, R.mono st1.fr st1.whole, e2, fun F2 μ2 H2 v2 st2 S2 r2 => ?_⟩⟩
  cases hbn : byNames n vs ks ws with
  | none => simp only [hbn] at e0; cases e0
  | some us =>
    simp only [hbn] at e0
    have hus : placeBy n vs ks ws = us := mapM_filter hbn
    have rr : RepVs X.K F2 μ2 us (placeBy n v1 ks v2) := by
      rw [← hus]
      exact RepVs.of (place_pair (r1.mono st2.fr st2.whole).paired r2.paired ks _)
    exact ⟨by rw [← rr.length, hl _ _ _ _ e0], us, M2', F2, μ2, x, M', S2, rr, e0, fun F' μ' H' v st S' p => k F' μ' H' v (st1.transE (st2.transE st)) S' (p.back fun a h => st1.up a (st2.up a h))⟩

/-! ### statements -/
variable {bs : Nat} {y : Str}
theorem LS.mono {bs : Nat} {K : Fr} {F F1 : Hp} {μ μ1 : List Addr} {H H1 : Hp} {M1 : Mem} (hb : bs ≤ μ.length) (st : StepE F μ H F1 μ1 H1) : bs ≤ μ1.length ∧ Step bs F μ H F1 μ1 H1 :=
  ⟨Nat.le_trans hb st.leE, Step.mono st hb⟩
/-- a value stored -/
def evAsg (fa : Sl → Mem → Res Val) (st : Val → Sl → Mem → Res Sl) : Sl → Mem → Res Flow := fun s M => (fa s M).bind fun v M1 => (st v s M1).bind fun s1 M2 => .ok (.nx s1) M2
def stN (i : Nat) : Val → Sl → Mem → Res Sl := fun v s M => if i < s.length then .ok (s.set i (some v)) M else .bad
theorem liftAsgN {K : Fr} {i : Nat} {D : Ends} {σ : L2.St} {H : Hp} (h : LS bs K (evAsg fa (stN i)) D σ H) : tAsg (LE false K fa) (gName i) D σ H := by
  obtain ⟨δ, M, F, μ, x, M', hb, S, R, e0, k⟩ := h
  obtain ⟨v, M1, e1, e0⟩ := bind_ok e0
  obtain ⟨s1, M2', e2, e0⟩ := bind_ok e0
  cases e0
  unfold stN at e2
  split at e2
  · cases e2
    refine ⟨δ, M, F, μ, v, _, S, R, e1, fun F1 μ1 H1 w st S1 r => ?_⟩
    exact k F1 μ1 H1 _ (Nat.le_trans hb st.leE) (Step.mono st hb) S1 ((R.mono st.fr st.whole).put r)
  · cases e2
theorem q_asgn {i : Nat} {py : Pos} (hN : X.N.Nodup) (hi : X.N[i]? = some y) (hx : Loc X.env.scope y) (he : PE X e (LE false X.K fa)) (hs : swapsWith e (some (.Name y py)) pos.line X.env = pure false) (hf : X.fn y = true ∨ X.env.scope.names.lookup y = some .local) :
    PS X (.Assign [.Name y py] e pos) (LS bs X.K (evAsg fa (stN i))) :=
  (ps_set hN hi hx he hs hf).imp fun _ _ _ h => liftAsgN h
theorem LE_frozen {K : Fr} {f : Sl → Mem → Res Val} {σ : L2.St} {H : Hp} {Q : VK} : LE false K f σ H Q → LE true K f σ H Q := fun ⟨δ, M, F, μ, x, M', S, R, ef, k⟩ => ⟨δ, M, F, μ, x, M', S, R, ef, fun F' μ' H' v st S' p => by
    obtain ⟨F'', st', S'', r⟩ := PostV.freeze st S' p
    exact k F'' μ' H' v st' S'' r⟩
def newOf (f : Sl → Mem → Res Val) : Sl → Mem → Res Val := fun δ M => (f δ M).bind fun v M1 => match v with
    | .d (.lst l) => .ok (.ref M1.length) (M1 ++ [.lst l])
    | .d (.dic l) => .ok (.ref M1.length) (M1 ++ [.dic l])
    | _ => .bad
theorem LE_newed {K : Fr} {f : Sl → Mem → Res Val} {σ : L2.St} {H : Hp} {Q : VK} : LE false K (newOf f) σ H Q → LE true K f σ H Q := fun ⟨δ, M, F, μ, x, M', S, R, ef, k⟩ => by
    obtain ⟨y, M1, e1, e2⟩ := bind_ok ef
    refine ⟨δ, M, F, μ, y, M1, S, R, e1, fun F' μ' H' v st S' p => ?_⟩
    obtain ⟨a, ds, vs, rfl, rfl, h1, h2, h3, h4, h6, h5⟩ := p
    cases e2
    refine k F' (μ' ++ [a]) H' (.ref a) ⟨st.fr, ?_, fun b hb => ?_, st.keep, st.up, st.newF⟩ ⟨S'.sub, fun b hb => ?_, ?_, ?_, fun i o b q1 q2 => ?_⟩ ⟨a, ?_, rfl⟩
    · rw [List.take_append_of_le_length st.leE]; exact st.pre
    · rcases List.mem_append.mp hb with hb | hb
      · exact st.new b hb
      · rw [List.mem_singleton.mp hb]; exact .inr h4
    · rcases List.mem_append.mp hb with hb | hb
      · exact S'.out b hb
      · rw [List.mem_singleton.mp hb]; exact h2
    · exact List.nodup_append.mpr ⟨S'.nd, (by simp), fun b hb c hc e => by rw [List.mem_singleton.mp hc] at e; exact h3 (by rw [← e]; exact hb)⟩
    · rw [List.length_append, List.length_append, S'.len]; rfl
    · have hl := S'.len
      by_cases hi : i < M1.length
      · rw [List.getElem?_append_left hi] at q1
        rw [List.getElem?_append_left (by omega)] at q2
        exact S'.obj i o b q1 q2
      · rw [List.getElem?_append_right (by omega)] at q1 q2
        have z : i - M1.length = 0 := by
          have := (List.getElem?_eq_some_iff.mp q1).1
          simp at this; omega
        rw [z] at q1
        rw [hl, z] at q2
        cases q1; cases q2
        rw [h1]; exact ⟨h6, h5⟩
    · rw [List.getElem?_append_right (by rw [S'.len]; exact Nat.le_refl _), S'.len, Nat.sub_self]; rfl
/-- name = [..] on one line -/
theorem q_setLc {i : Nat} {py : Pos} {spos : Pos} {scope : Scope} {own : List (Str × Nat)} {ifs : List Expr} {o : List Nat} {t : Tg} {fI : Sl → Mem → Res (List D)} {fifs : Sl → Mem → Res Bool} (ho : ∀ i ∈ o, i ∈ own.map (·.2)) (hc : X.calm = true) (hN : X.N.Nodup) (hy : X.N[i]? = some y) (hyl : X.env.scope.names.lookup y = some .local)
    (hsw : swapsWith (.ListComp elt [⟨tg, iter, ifs, 0⟩] scope pos) (some (.Name y py)) spos.line X.env = pure true) (hi : PI X tg iter (LI X.K fI)) (ok : BlkOk X.N X.env.scope scope own)
    (hg : ∀ (s : Shared) (H : Hp) (C : Addr) (cl : List (Str × Addr)) (fp : List Addr), PG (X.blk s H scope (compEnvC scope cl C X.env) fp) tg (LG X.K t o)) (ht : ∀ (s : Shared) (H : Hp) (C : Addr) (cl : List (Str × Addr)) (fp : List Addr), PTs (X.blk s H scope (compEnvC scope cl C X.env) fp) ifs (LT X.K fifs))
    (he : ∀ (s : Shared) (H : Hp) (C : Addr) (cl : List (Str × Addr)) (fp : List Addr), PE (X.blk s H scope (compEnvC scope cl C X.env) fp) elt (LE false X.K fa)) (hs : ∀ x, foldedSetIterable iter X.env x = pure x) :
    PS X (.Assign [.Name y py] (.ListComp elt [⟨tg, iter, ifs, 0⟩] scope pos) spos) (LS bs X.K (evAsg (evLc (own.map (·.2)) t fI fifs fa) (stN i))) ∧
    PS X (.Assign [.Name y py] (.ListComp elt [⟨tg, iter, ifs, 0⟩] scope pos) spos) (LS bs X.K (evAsg (newOf (evLc (own.map (·.2)) t fI fifs fa)) (stN i))) :=
  ⟨(ps_setLc hc hN hy hyl hsw hi ok hg ht he hs).imp fun _ _ _ h => liftLc ho (LE_frozen (liftAsgN h)), (ps_setLc hc hN hy hyl hsw hi ok hg ht he hs).imp fun _ _ _ h => liftLc ho (LE_newed (liftAsgN h))⟩

/-! ### stores of other forms -/
def LGa (K : Fr) (st : Val → Sl → Mem → Res Sl) : TG := fun v σ H Q => ∃ δ M F μ x δ' M', Sim K F μ M H ∧ RepS K F μ δ σ ∧ RepV K F μ x v ∧ st x δ M = .ok δ' M' ∧
  ∀ F' μ' H' σ', StepE F μ H F' μ' H' → Sim K F' μ' M' H' → RepS K F' μ' δ' σ' → Q σ' H'
def LGas (K : Fr) (st : List D → Sl → Mem → Res Sl) : TGs := fun vs σ H Q => ∃ δ M F μ xs δ' M', Sim K F μ M H ∧ RepS K F μ δ σ ∧ Reps K F xs vs ∧ st xs δ M = .ok δ' M' ∧
  ∀ F' μ' H' σ', StepE F μ H F' μ' H' → Sim K F' μ' M' H' → RepS K F' μ' δ' σ' → Q σ' H'
theorem q_an {i : Nat} (hN : X.N.Nodup) (hi : X.N[i]? = some y) (hx : Loc X.env.scope y) (hf : X.fn y = true ∨ X.env.scope.names.lookup y = some .local) : PG X (.Name y pos) (LGa X.K (stN i)) := by
  refine (pg_name hN hi hx hf).imp fun v σ H Q ⟨δ, M, F, μ, x, δ', M', S, R, r, e0, k⟩ => ?_
  unfold stN at e0
  split at e0
  · cases e0; exact k F μ H _ (Step.refl _ _ _ _) S (R.put r)
  · cases e0
/-- o[i] = v by values -/
def rSetD (K : Fr) : TSet := fun o i v H Q => ∃ F a ds ws k x es, o = .ref a ∧ H a = some (.lst ws) ∧ F a = none ∧ Sub F H ∧ ds.length ≤ big ∧ Reps K F ds ws ∧ RepT K F H k i ∧ Rep K F x v ∧ setD (.lst ds) k x = some (.lst es) ∧
  ∀ us, Reps K F es us → es.length ≤ big → Q (upd H a (.lst us))
def stSub (x : Nat) (fa : Sl → Mem → Res Val) : Val → Sl → Mem → Res Sl := fun v s M => match v with
  | .d y => (match s[x]? with
    | some (some (.ref n)) => (fa s M).bind fun w M1 => match M1[n]?, view M1 w with
      | some o, some k => match setD o k y with
        | some o' => .ok s (M1.set n o')
        | none => .bad
      | _, _ => .bad
    | _ => .bad)
  | _ => .bad
theorem setD_lst {o o' : MO} {k x : D} (h : setD o k x = some o') : ∃ es, o' = .lst es := by
  unfold setD at h
  split at h
  · split at h
    · cases h; exact ⟨_, rfl⟩
    · split at h
      · cases h; exact ⟨_, rfl⟩
      · cases h
  · cases h
theorem assign_sub (o : Expr) {i : Expr} (h : isSlice i = false) (p : Pos) (env : Env) (v : Value) : assign (.Subscript o i p) env v = (do
      let ov ← holding [v] (eval o env)
      let iv ← holding [v, ov] (eval i env)
      standAt p
      holding [v, ov, iv] (setItem ov iv v)
      release [v, ov, iv] []) := by
  rw [arm_assign_Subscript]
  cases i <;> first | rfl | (simp [isSlice] at h)
theorem q_asub {i : Nat} {x : Str} {px : Pos} (hs : PSet X (rSetD X.K)) (hN : X.N[i]? = some x) (hv : Vis X.env.scope x) (hd : (x == ("__debug__" : Str)) = false) (hcd : (x == ("__classdict__" : Str)) = false) (ha : PE X a (LE false X.K fa)) (hsl : isSlice a = false) : PG X (.Subscript (.Name x px) a pos) (LGa X.K (stSub i fa)) := by
  refine (pg_sub (pe_var hN hv hd hcd) ha hs (assign_sub _ hsl _ _)).imp fun v σ H Q ⟨δ, M, F, μ, z, δ', M', S, R, r, e0, k⟩ => ?_
  unfold stSub at e0
  cases z with
  | ref n => cases e0
  | d y =>
    simp only at e0
    cases h1 : δ[i]? with
    | none => simp only [h1] at e0; cases e0
    | some o =>
      cases o with
      | none => simp only [h1] at e0; cases e0
      | some w =>
        cases w with
        | d y => simp only [h1] at e0; cases e0
        | ref n =>
          simp only [h1] at e0
          obtain ⟨vv, ev, rr⟩ := R.at_ i _ h1
          obtain ⟨p, ha1, rfl⟩ := rr
          obtain ⟨w, M1, e1, e0⟩ := bind_ok e0
          cases hM : M1[n]? with
          | none => simp only [hM] at e0; cases e0
          | some o =>
            cases hx : view M1 w with
            | none => simp only [hM, hx] at e0; cases e0
            | some kx =>
              simp only [hM, hx] at e0
              cases hst : setD o kx y with
              | none => simp only [hst] at e0; cases e0
              | some o' =>
                simp only [hst] at e0
                cases e0
                refine ⟨_, ev, δ, M, F, μ, w, M1, S, R, e1, fun F1 μ1 H1 w1 st1 S1 r1 => ?_⟩
                have ha2 : μ1[n]? = some p := by
                  have hn : n < μ.length := (List.getElem?_eq_some_iff.mp ha1).1
                  rw [st1.get hn]; exact ha1
                have q1 := S1.obj n o p hM ha2
                cases o with
                | dic l => exact q1.elim
                | lst ds =>
                  cases hH : H1 p with
                  | none => rw [hH] at q1; exact q1.elim
                  | some u =>
                    rw [hH] at q1
                    cases u with
                    | lst ws =>
                      obtain ⟨es, rfl⟩ := setD_lst hst
                      refine ⟨F1, p, ds, ws, kx, y, es, rfl, hH, S1.out p (List.mem_of_getElem? ha2), S1.sub, q1.1, q1.2, S1.view r1 hx, Rep.mono st1.fr r, hst, fun us ru hl' => ?_⟩
                      exact k F1 μ1 _ σ (st1.transE (S1.putStep ha2 _)) (S1.put ha2 hl' ru) (R.mono st1.fr st1.whole)
                    | _ => exact q1.elim
def stNil : List D → Sl → Mem → Res Sl := fun xs s M => match xs with | [] => .ok s M | _ => .bad
def stCons (st : Val → Sl → Mem → Res Sl) (sts : List D → Sl → Mem → Res Sl) : List D → Sl → Mem → Res Sl := fun xs s M => match xs with
  | x :: xs => (st (.d x) s M).bind fun s1 M1 => sts xs s1 M1
  | [] => .bad
theorem q_anil : PGs X [] (LGas X.K stNil) := by
  refine pgs_nil.imp fun vs σ H Q ⟨δ, M, F, μ, xs, δ', M', S, R, r, e0, k⟩ => ?_
  cases r with
  | nil => cases e0; exact ⟨rfl, k F μ H σ (Step.refl _ _ _ _) S R⟩
  | cons _ _ => cases e0
theorem q_acons {st : Val → Sl → Mem → Res Sl} {sts : List D → Sl → Mem → Res Sl} (h1 : PG X e (LGa X.K st)) (h2 : PGs X es (LGas X.K sts)) (hp : plainArg e = true) : PGs X (e :: es) (LGas X.K (stCons st sts)) := by
  refine (pgs_cons h1 h2 (by rw [asg_plain hp]; rfl)).imp fun vs σ H Q ⟨δ, M, F, μ, xs, δ', M', S, R, r, e0, k⟩ => ?_
  cases r with
  | nil => cases e0
  | @cons y v ys ws r rs =>
    obtain ⟨s1, M1, e1, e0⟩ := bind_ok e0
    exact ⟨v, ws, rfl, δ, M, F, μ, .d y, s1, M1, S, R, r, e1, fun F1 μ1 H1 σ1 st1 S1 R1 => ⟨s1, M1, F1, μ1, ys, δ', M', S1, R1, rs.mono st1.fr, e0, fun F2 μ2 H2 σ2 st2 S2 R2 => k F2 μ2 H2 σ2 (st1.transE st2) S2 R2⟩⟩
def stTup (n : Nat) (sts : List D → Sl → Mem → Res Sl) : Val → Sl → Mem → Res Sl := fun v s M => match v with
  | .d (.tup xs) => if xs.length = n then sts xs s M else .bad
  | _ => .bad
theorem q_atup {sts : List D → Sl → Mem → Res Sl} {kk : Nat} (hc : X.calm = true) (h : PGs X es (LGas X.K sts)) (hp : es.all plainArg = true) : PG X (.Tuple es kk pos) (LGa X.K (stTup es.length sts)) := by
  refine (pg_tup hc h (asg_len hp) (asg_star hp)).imp fun v σ H Q ⟨δ, M, F, μ, x, δ', M', S, R, r, e0, k⟩ => ?_
  unfold stTup at e0
  cases x with
  | ref n => cases e0
  | d x =>
    have r' : Rep X.K F x v := r
    cases r' with
    | @tup p vs ds hz hs rs =>
      simp only at e0
      split at e0
      · rename_i hl
        exact ⟨p, vs, rfl, S.sub.sqT hs, by rw [← rs.length, hl], δ, M, F, μ, ds, δ', M', S, R, rs, e0, k⟩
      · cases e0
    | _ => cases e0
theorem q_asg {st : Val → Sl → Mem → Res Sl} (he : PE X e (LE false X.K fa)) (hg : PG X tg (LGa X.K st)) (hs : swapsWithSole [tg] e pos.line X.env = pure false) (hw : swappedStores [tg] e X.env = pure none) (hp : plainArg tg = true) :
    PS X (.Assign [tg] e pos) (LS bs X.K (evAsg fa st)) := by
  refine (ps_asg he hg hs hw (by rw [asg_plain hp]; rfl)).imp fun D σ H ⟨δ, M, F, μ, x, M', hb, S, R, e0, k⟩ => ?_
  obtain ⟨v, M1, e1, e0⟩ := bind_ok e0
  obtain ⟨s1, M2', e2, e0⟩ := bind_ok e0
  cases e0
  refine ⟨δ, M, F, μ, v, M1, S, R, e1, fun F1 μ1 H1 w st1 S1 r => ⟨δ, M1, F1, μ1, v, s1, _, S1, R.mono st1.fr st1.whole, r, e2, fun F2 μ2 H2 σ2 st2 S2 R2 => ?_⟩⟩
  exact k F2 μ2 H2 σ2 (Nat.le_trans hb (st1.transE st2).leE) (Step.mono (st1.transE st2) hb) S2 R2

/-! ### several names at once -/
def evPar (is : List Nat) (fl : Sl → Mem → Res (List Val)) : Sl → Mem → Res Flow := fun s M => (fl s M).bind fun vs M1 => match setMany is vs s with
  | some s1 => .ok (.nx s1) M1
  | none => .bad
theorem setMany_len : ∀ {is : List Nat} {vs : List Val} {s s' : Sl}, setMany is vs s = some s' → is.length = vs.length
  | [], [], _, _, _ => rfl
  | [], _ :: _, _, _, h => by cases h
  | _ :: _, [], _, _, h => by cases h
  | i :: is, v :: vs, s, s', h => by
    unfold setMany at h
    split at h
    · rw [List.length_cons, List.length_cons, setMany_len h]
    · cases h
def setV : List Nat → List V → L2.St → L2.St
  | i :: is, v :: vs, σ => setV is vs (σ.set i (some v))
  | _, _, σ => σ
theorem setMany_rep {K : Fr} {F : Hp} {μ : List Addr} : ∀ {is : List Nat} {xs : List Val} {vs : List V} {δ δ' : Sl} {σ : L2.St}, RepS K F μ δ σ → RepVs K F μ xs vs → setMany is xs δ = some δ' → RepS K F μ δ' (setV is vs σ)
  | [], [], _, _, _, _, R, .nil, h => by cases h; exact R
  | [], _ :: _, _, _, _, _, _, .cons _ _, h => by cases h
  | _ :: _, [], _, _, _, _, _, .nil, h => by cases h
  | i :: is, x :: xs, _, _, _, _, R, .cons r rs, h => by
    unfold setMany at h
    split at h
    · exact setMany_rep (is := is) (xs := xs) (R.put r) rs h
    · cases h
theorem q_par2 {i j : Nat} {x y : Str} {px py pt : Pos} {kt k2 pt2} (hc : X.calm = true) (hN : X.N.Nodup) (hi : X.N[i]? = some x) (hj : X.N[j]? = some y) (hij : i ≠ j)
    (hx : X.env.scope.names.lookup x = some .local) (hy : X.env.scope.names.lookup y = some .local) (ha : PA X [a, b] (LA X.K fl))
    (hw : swappedStores [.Tuple [.Name x px, .Name y py] kt pt] (.Tuple [a, b] k2 pt2) X.env = pure (some [x, y])) : PS X (.Assign [.Tuple [.Name x px, .Name y py] kt pt] (.Tuple [a, b] k2 pt2) pos) (LS bs X.K (evPar [i, j] fl)) := by
  refine (ps_par hc hN hi hj hij hx hy ha hw).imp fun D σ H ⟨δ, M, F, μ, x, M', hb, S, R, e0, k⟩ => ?_
  obtain ⟨vs, M1, e1, e0⟩ := bind_ok e0
  cases hs : setMany [i, j] vs δ with
  | none => simp only [hs] at e0; cases e0
  | some s1 =>
    simp only [hs] at e0
    cases e0
    refine ⟨δ, M, F, μ, vs, _, S, R, e1, fun F1 μ1 H1 ws st S1 r => ?_⟩
    have hl := setMany_len hs
    have rr := setMany_rep (R.mono st.fr st.whole) r hs
    cases r with
    | nil => cases hl
    | cons r1 r => cases r with
      | nil => cases hl
      | cons r2 r => cases r with
        | cons _ _ => cases hl
        | nil => exact ⟨_, _, rfl, k F1 μ1 H1 _ (Nat.le_trans hb st.leE) (Step.mono st hb) S1 rr⟩
theorem q_par3 {i j l : Nat} {x y z : Str} {px py pz pt : Pos} {kt k2 pt2} (hc : X.calm = true) (hN : X.N.Nodup) (hi : X.N[i]? = some x) (hj : X.N[j]? = some y) (hl : X.N[l]? = some z) (hij : i ≠ j) (hil : i ≠ l) (hjl : j ≠ l)
    (hx : X.env.scope.names.lookup x = some .local) (hy : X.env.scope.names.lookup y = some .local) (hz : X.env.scope.names.lookup z = some .local) (ha : PA X [a, b, c] (LA X.K fl))
    (hw : swappedStores [.Tuple [.Name x px, .Name y py, .Name z pz] kt pt] (.Tuple [a, b, c] k2 pt2) X.env = pure (some [x, y, z])) : PS X (.Assign [.Tuple [.Name x px, .Name y py, .Name z pz] kt pt] (.Tuple [a, b, c] k2 pt2) pos) (LS bs X.K (evPar [i, j, l] fl)) := by
  refine (ps_par3 hc hN hi hj hl hij hil hjl hx hy hz ha hw).imp fun D σ H ⟨δ, M, F, μ, x, M', hb, S, R, e0, k⟩ => ?_
  obtain ⟨vs, M1, e1, e0⟩ := bind_ok e0
  cases hs : setMany [i, j, l] vs δ with
  | none => simp only [hs] at e0; cases e0
  | some s1 =>
    simp only [hs] at e0
    cases e0
    refine ⟨δ, M, F, μ, vs, _, S, R, e1, fun F1 μ1 H1 ws st S1 r => ?_⟩
    have hl := setMany_len hs
    have rr := setMany_rep (R.mono st.fr st.whole) r hs
    cases r with
    | nil => cases hl
    | cons r1 r => cases r with
      | nil => cases hl
      | cons r2 r => cases r with
        | nil => cases hl
        | cons r3 r => cases r with
          | cons _ _ => cases hl
          | nil => exact ⟨_, _, _, rfl, k F1 μ1 H1 _ (Nat.le_trans hb st.leE) (Step.mono st hb) S1 rr⟩
/-- names taken one by one -/
def gNs (is : List Nat) : TGs := fun vs σ H Q => vs.length = is.length ∧ Q (setV is vs σ) H
theorem q_names0 : PGs X [] (gNs []) := pgs_nil.imp fun vs σ H Q ⟨h, q⟩ => by
  cases vs with
  | nil => exact ⟨rfl, q⟩
  | cons _ _ => cases h
theorem q_names {i : Nat} {is : List Nat} {p : Pos} (hN : X.N.Nodup) (hi : X.N[i]? = some y) (hx : Loc X.env.scope y) (hf : X.fn y = true ∨ X.env.scope.names.lookup y = some .local) (h : PGs X es (gNs is)) : PGs X (.Name y p :: es) (gNs (i :: is)) :=
  (pgs_cons (pg_name hN hi hx hf) h rfl).imp fun vs σ H Q ⟨hl, q⟩ => by
    cases vs with
    | nil => cases hl
    | cons v vs => exact ⟨v, vs, rfl, by simpa using hl, q⟩
/-- through a tuple that is made and taken apart -/
theorem q_parT {is : List Nat} {ns vs : List Expr} {kt k2 : Nat} {pt pt2 : Pos} (hc : X.calm = true) (ha : PA X vs (LA X.K fl)) (hg : PGs X ns (gNs is)) (hp : ns.all plainArg = true) (hl : ns.length = is.length) (hbig : ns.length ≤ 100)
    (hw : swappedStores [.Tuple ns kt pt] (.Tuple vs k2 pt2) X.env = pure none) : PS X (.Assign [.Tuple ns kt pt] (.Tuple vs k2 pt2) pos) (LS bs X.K (evPar is fl)) := by
  refine (ps_asg (pe_tup ha) (pg_tup hc hg (asg_len hp) (asg_star hp)) rfl hw rfl).imp fun D σ H ⟨δ, M, F, μ, x, M', hb, S, R, e0, k⟩ => ?_
  obtain ⟨ws, M1, e1, e0⟩ := bind_ok e0
  cases hs : setMany is ws δ with
  | none => simp only [hs] at e0; cases e0
  | some s1 =>
    simp only [hs] at e0
    cases e0
    refine ⟨δ, M, F, μ, ws, _, S, R, e1, fun F1 μ1 H1 us st S1 r => ?_⟩
    have hl2 := setMany_len hs
    have hl3 := r.length
    have rr := setMany_rep (R.mono st.fr st.whole) r hs
    refine ⟨by rw [sizeLine_eq]; omega, fun p hpn => ?_⟩
    refine ⟨p, us, rfl, SqT.of upd_same, by omega, by omega, ?_⟩
    have n1 : F1 p = none := by
      cases q : F1 p with
      | none => rfl
      | some u => rw [S1.sub p u q] at hpn; cases hpn
    have n2 : p ∉ μ1 := fun z => S1.tracked z hpn
    exact k F1 μ1 _ _ (Nat.le_trans hb st.leE) (Step.mono (st.transE ((Step.refl _ _ _ _).updNew hpn _)) hb) (S1.updNew n1 n2 _) rr

/-! ### small statements -/
theorem q_ex (he : PE X e (LE false X.K fa)) (hs : swapsWith e none pos.line X.env = pure false) : PS X (.Expr e pos) (LS bs X.K fun s M => (fa s M).bind fun _ M1 => .ok (.nx s) M1) := by
  refine (ps_expr he hs).imp fun D σ H ⟨δ, M, F, μ, x, M', hb, S, R, e0, k⟩ => ?_
  obtain ⟨v, M1, e1, e0⟩ := bind_ok e0
  cases e0
  exact ⟨δ, M, F, μ, v, _, S, R, e1, fun F1 μ1 H1 w st S1 r => k F1 μ1 H1 σ (Nat.le_trans hb st.leE) (Step.mono st hb) S1 (R.mono st.fr st.whole)⟩
theorem q_ret (he : PE X e (LE false X.K fa)) : PS X (.Return (some e) pos) (LS bs X.K fun s M => (fa s M).bind fun v M1 => .ok (.ret v) M1) := by
  refine (ps_ret he).imp fun D σ H ⟨δ, M, F, μ, x, M', hb, S, R, e0, k⟩ => ?_
  obtain ⟨v, M1, e1, e0⟩ := bind_ok e0
  cases e0
  exact ⟨δ, M, F, μ, v, _, S, R, e1, fun F1 μ1 H1 w st S1 r => k F1 μ1 H1 w (Nat.le_trans hb st.leE) (Step.mono st hb) S1 r⟩
theorem q_retN : PS X (.Return none pos) (LS bs X.K fun _ M => .ok (.ret (.d .non)) M) := by
  refine ps_retN.imp fun D σ H ⟨δ, M, F, μ, x, M', hb, S, R, e0, k⟩ => ?_
  cases e0
  exact k F μ H .non hb (Step.refl _ _ _ _) S .non
theorem q_pass : PS X (.Pass pos) (LS bs X.K fun s M => .ok (.nx s) M) := by
  refine ps_pass.imp fun D σ H ⟨δ, M, F, μ, x, M', hb, S, R, e0, k⟩ => ?_
  cases e0
  exact k F μ H σ hb (Step.refl _ _ _ _) S R
theorem q_brk : PS X (.Break pos) (LS bs X.K fun s M => .ok (.brk s) M) := by
  refine ps_break.imp fun D σ H ⟨δ, M, F, μ, x, M', hb, S, R, e0, k⟩ => ?_
  cases e0
  exact k F μ H σ hb (Step.refl _ _ _ _) S R
theorem q_cont : PS X (.Continue pos) (LS bs X.K fun s M => .ok (.cont s) M) := by
  refine ps_continue.imp fun D σ H ⟨δ, M, F, μ, x, M', hb, S, R, e0, k⟩ => ?_
  cases e0
  exact k F μ H σ hb (Step.refl _ _ _ _) S R
theorem q_never {st : Stmt} : PS X st (LS bs X.K fun _ _ => .bad) := ps_never.imp fun D σ H ⟨δ, M, F, μ, x, M', hb, S, R, e0, k⟩ => by cases e0
/-- one result after another: from the state behind a step -/
theorem LS.after {bs : Nat} {K : Fr} {f : Sl → Mem → Res Flow} {D : Ends} {F F1 : Hp} {μ μ1 : List Addr} {H H1 : Hp} {σ1 : L2.St} {δ1 : Sl} {M1 M' : Mem} {x : Flow} (st : Step bs F μ H F1 μ1 H1) (hb : bs ≤ μ1.length) (S : Sim K F1 μ1 M1 H1) (R : RepS K F1 μ1 δ1 σ1) (e : f δ1 M1 = .ok x M')
    (k : LSk bs K D F μ H M' x) : LS bs K f D σ1 H1 := ⟨δ1, M1, F1, μ1, x, M', hb, S, R, e, k.back st⟩
def evIte (fT : Sl → Mem → Res Bool) (f g : Sl → Mem → Res Flow) : Sl → Mem → Res Flow := fun s M => (fT s M).bind fun t M1 => if t then f s M1 else g s M1
theorem q_ite {fT : Sl → Mem → Res Bool} {f g : Sl → Mem → Res Flow} {s1 s2 : List Stmt} (hc : PT X c (LT X.K fT)) (h1 : PSs X s1 (LS bs X.K f)) (h2 : PSs X s2 (LS bs X.K g)) : PS X (.If c s1 s2 pos) (LS bs X.K (evIte fT f g)) := by
  refine (ps_if hc h1 h2).imp fun D σ H ⟨δ, M, F, μ, x, M', hb, S, R, e0, k⟩ => ?_
  obtain ⟨t, M1, e1, e0⟩ := bind_ok e0
  refine ⟨δ, M, F, μ, t, M1, S, R, e1, fun F1 μ1 H1 st S1 => ?_⟩
  cases t with
  | true => rw [if_pos rfl] at e0 ⊢; exact LS.after (Step.mono st hb) (Nat.le_trans hb st.leE) S1 (R.mono st.fr st.whole) e0 k
  | false => rw [if_neg Bool.false_ne_true] at e0 ⊢; exact LS.after (Step.mono st hb) (Nat.le_trans hb st.leE) S1 (R.mono st.fr st.whole) e0 k
def evSeq (f g : Sl → Mem → Res Flow) : Sl → Mem → Res Flow := fun s M => (f s M).bind fun x M1 => match x with
  | .nx s1 => g s1 M1
  | .ret v => .ok (.ret v) M1
  | .brk s1 => .ok (.brk s1) M1
  | .cont s1 => .ok (.cont s1) M1
theorem q_snil : PSs X [] (LS bs X.K fun s M => .ok (.nx s) M) := by
  refine pss_nil.imp fun D σ H ⟨δ, M, F, μ, x, M', hb, S, R, e0, k⟩ => ?_
  cases e0
  exact k F μ H σ hb (Step.refl _ _ _ _) S R
theorem q_scons {st : Stmt} {r : List Stmt} {f g : Sl → Mem → Res Flow} (h1 : PS X st (LS bs X.K f)) (h2 : PSs X r (LS bs X.K g)) : PSs X (st :: r) (LS bs X.K (evSeq f g)) := by
  refine (pss_cons h1 h2).imp fun D σ H ⟨δ, M, F, μ, x, M', hb, S, R, e0, k⟩ => ?_
  obtain ⟨y, M1, e1, e0⟩ := bind_ok e0
  refine ⟨δ, M, F, μ, y, M1, hb, S, R, e1, ?_⟩
  cases y with
  | nx s1 => exact fun F1 μ1 H1 σ1 hb1 st S1 R1 => LS.after st hb1 S1 R1 e0 k
  | ret v => cases e0; exact k
  | brk s1 => cases e0; exact k
  | cont s1 => cases e0; exact k

/-! ### loops -/
def evFor (t : Tg) (fI : Sl → Mem → Res (List D)) (fb : Sl → Mem → Res Flow) : Sl → Mem → Res Flow := fun s M => (fI s M).bind fun xs M1 => forLoop fb t xs s M1
theorem q_for {body : List Stmt} {o : List Nat} {t : Tg} {fI : Sl → Mem → Res (List D)} {f : Sl → Mem → Res Flow} (hx : X.xe = fun _ _ => False) (hc : X.calm = true) (hi : PI X tg iter (LI X.K fI)) (hg : PG X tg (LG X.K t o)) (hb : PSs X body (LS bs X.K f)) (hs : ∀ x, foldedSetIterable iter X.env x = pure x) :
    PS X (.For tg iter body [] pos) (LS bs X.K (evFor t fI f)) := by
  refine (ps_for (by rw [hx]; exact PassesOwn.never) hc hi hg hb hs).imp fun D σ H ⟨δ, M, F, μ, x, M', hbs, S, R, e0, k⟩ => ?_
  obtain ⟨xs, M1, e1, e0⟩ := bind_ok e0
  refine ⟨δ, M, F, μ, xs, M1, S, R, e1, fun F1 μ1 H1 J st1 S1 its => ?_⟩
  have k1 : LSk bs X.K D F1 μ1 H1 M' x := k.back (Step.mono st1 hbs)
  have wk : Walk J xs.length (fun H => Sub F1 H) (fun i H x H' => Sub F1 H ∧ J.yld i H x H') := ⟨fun i H hi g => its.goes i H hi g, its.stops, fun i H x H' hi g y => ⟨g, y⟩⟩
  refine for_it wk (fun i σi Hi => ∃ δi Fi μi Mi, bs ≤ μi.length ∧ Step bs F1 μ1 H1 Fi μi Hi ∧ Sim X.K Fi μi Mi Hi ∧ RepS X.K Fi μi δi σi ∧ forLoop f t (xs.drop i) δi Mi = .ok x M') ?_ ?_ ?_ ?_
  · exact ⟨δ, F1, μ1, M1, Nat.le_trans hbs st1.leE, Step.refl _ _ _ _, S1, R.mono st1.fr st1.whole, e0⟩
  · rintro i σi Hi _ ⟨δi, Fi, μi, Mi, _, st, Si, _⟩
    exact st.fr.trans Si.sub
  · rintro i v σi Hi H2 hi ⟨δi, Fi, μi, Mi, hbi, st, Si, Ri, run⟩ ⟨_, hy⟩
    have hx : xs[i]? = some xs[i] := List.getElem?_eq_getElem hi
    rw [List.drop_eq_getElem_cons hi] at run
    unfold forLoop at run
    obtain ⟨F2, nf, rx⟩ := its.yields i Hi v H2 xs[i] Fi hx st.fr Si.sub hy
    have st2 : StepE Fi μi Hi F2 μi H2 := nf.step
    have S2 := nf.sim Si
    cases hbt : bindTg t xs[i] δi with
    | none => simp only [hbt] at run; cases run
    | some δ2 =>
      simp only [hbt] at run
      obtain ⟨fl, M3, e3, run⟩ := bind_ok run
      refine ⟨δi, F2, μi, xs[i], δ2, Ri.mono st2.fr st2.whole, rx, S2.sub, hbt, fun σ2 R2 _ _ => ?_⟩
      have stt : Step bs F1 μ1 H1 F2 μi H2 := st.trans (Step.mono st2 hbi)
      refine LS.after (F := F1) (μ := μ1) (H := H1) stt hbi S2 R2 e3 ?_
      cases fl with
      | nx δ' => exact fun F' μ' H' σ' h1 h2 S' R' => ⟨δ', F', μ', M3, h1, h2, S', R', run⟩
      | cont δ' => exact fun F' μ' H' σ' h1 h2 S' R' => ⟨δ', F', μ', M3, h1, h2, S', R', run⟩
      | brk δ' => cases run; exact k1
      | ret w => cases run; exact k1
  · rintro σn Hn ⟨δn, Fn, μn, Mn, hbn, st, Sn, Rn, run⟩
    rw [List.drop_length] at run
    cases run
    exact k1 Fn μn Hn σn hbn st Sn Rn
theorem q_while {body : List Stmt} {fT : Sl → Mem → Res Bool} {f : Sl → Mem → Res Flow} (hx : X.xe = fun _ _ => False) (hc : PT X c (LT X.K fT)) (hb : PSs X body (LS bs X.K f)) : PS X (.While c body [] pos) (LS bs X.K fun s M => whileLoop fT f turns s M) := by
  refine (ps_while (by rw [hx]; exact PassesOwn.never) hc hb).imp fun D σ H ⟨δ, M, F, μ, x, M', hbs, S, R, e0, k⟩ => ?_
  refine ⟨fun n σi Hi => ∃ δi Fi μi Mi, bs ≤ μi.length ∧ Step bs F μ H Fi μi Hi ∧ Sim X.K Fi μi Mi Hi ∧ RepS X.K Fi μi δi σi ∧ whileLoop fT f n δi Mi = .ok x M', ⟨turns, δ, F, μ, M, hbs, Step.refl _ _ _ _, S, R, e0⟩, ?_⟩
  rintro n σi Hi ⟨δi, Fi, μi, Mi, hbi, st, Si, Ri, run⟩
  cases n with
  | zero => cases run
  | succ n =>
    unfold whileLoop at run
    obtain ⟨t, M1, e1, run⟩ := bind_ok run
    refine ⟨δi, Mi, Fi, μi, t, M1, Si, Ri, e1, fun F1 μ1 H1 st1 S1 => ?_⟩
    have hb1 := Nat.le_trans hbi st1.leE
    have stt : Step bs F μ H F1 μ1 H1 := st.trans (Step.mono st1 hbi)
    cases t with
    | false =>
      rw [if_neg Bool.false_ne_true] at run
      refine iteF ?_
      cases run
      exact k F1 μ1 H1 σi hb1 stt S1 (Ri.mono st1.fr st1.whole)
    | true =>
      rw [if_pos rfl] at run
      refine iteT ?_
      obtain ⟨fl, M3, e3, run⟩ := bind_ok run
      refine ⟨fun σ' H' => ∃ δ' F' μ' M', bs ≤ μ'.length ∧ Step bs F μ H F' μ' H' ∧ Sim X.K F' μ' M' H' ∧ RepS X.K F' μ' δ' σ' ∧ whileLoop fT f n δ' M' = .ok x _, fun σ' H' h => ⟨n, Nat.lt_succ_self n, h⟩, ?_⟩
      refine LS.after (F := F) (μ := μ) (H := H) stt hb1 S1 (Ri.mono st1.fr st1.whole) e3 ?_
      cases fl with
      | nx δ' => exact fun F' μ' H' σ' h1 h2 S' R' => ⟨δ', F', μ', M3, h1, h2, S', R', run⟩
      | cont δ' => exact fun F' μ' H' σ' h1 h2 S' R' => ⟨δ', F', μ', M3, h1, h2, S', R', run⟩
      | brk δ' => cases run; exact k
      | ret w => cases run; exact k
end
end DL
end P_DL5
section P_DL6
set_option Elab.async false
set_option linter.all false
set_option maxRecDepth 100000
set_option maxHeartbeats 1000000
/-! A list of the store becomes plain data; a def by its body. -/
namespace DL
open PySem PySem.Spec PyProof.Rows L2
section
variable {X : Cx} {bs : Nat} {y : Str} {pos : Pos}
/-- the slot holds no reference to n -/
def notRef (n : Nat) : Option Val → Bool := fun v => match v with | some (.ref k) => k != n | _ => true
/-- slot j is given what stands at slot i, the last of the store, which no other slot holds -/
def evMv (bs j i : Nat) : Sl → Mem → Res Flow := fun s M => match s[i]? with
  | some (some (.ref n)) => if n + 1 = M.length ∧ bs ≤ n ∧ j < s.length ∧ (s.set i none).all (notRef n) then
      (match M[n]? with
        | some o => .ok (.nx ((s.set i none).set j (some (.d o.toD)))) (M.take n)
        | none => .bad)
    else .bad
  | _ => .bad
theorem take_ne {μ : List Addr} {n : Nat} {a b : Addr} (nd : μ.Nodup) (h : μ[n]? = some a) (hb : b ∈ μ.take n) : b ≠ a := by
  intro e
  subst e
  obtain ⟨i, hi, e⟩ := List.getElem_of_mem hb
  rw [List.length_take] at hi
  rw [List.getElem_take] at e
  obtain ⟨p, q⟩ := List.getElem?_eq_some_iff.mp h
  have := (List.getElem_inj nd).mp (e.trans q.symm)
  omega
theorem Sim.freeze {K : Fr} {F : Hp} {μ : List Addr} {M : Mem} {H : Hp} (S : Sim K F μ M H) {n : Nat} {a : Addr} {ds : List D} (ha : μ[n]? = some a) (hM : M[n]? = some (.lst ds)) (hn : n + 1 = M.length) :
    ∃ F', Sub F F' ∧ Sim K F' (μ.take n) (M.take n) H ∧ Rep K F' (.lst ds) (.ref a) ∧ (∀ b o, F' b = some o → F b = some o ∨ b = a) := by
  have q := S.obj n _ a hM ha
  cases hH : H a with
  | none => rw [hH] at q; exact q.elim
  | some u =>
    rw [hH] at q
    cases u with
    | lst vs =>
      have Fa := S.out a (List.mem_of_getElem? ha)
      have sb : Sub F (upd F a (.lst vs)) := fun b o h => by
        have e : b ≠ a := fun e => by subst e; rw [Fa] at h; cases h
        rw [upd_ne e]; exact h
      refine ⟨upd F a (.lst vs), sb, ⟨fun b o h => ?_, fun b hb => ?_, S.nd.sublist (List.take_sublist _ _), ?_, fun i o b h1 h2 => ?_⟩, Rep.lst q.1 upd_same (Reps.mono sb q.2), fun b o h => ?_⟩
      · by_cases e : b = a
        · subst e; rw [upd_same] at h; cases h; exact hH
        · rw [upd_ne e] at h; exact S.sub b o h
      · rw [upd_ne (take_ne S.nd ha hb)]; exact S.out b (List.mem_of_mem_take hb)
      · rw [List.length_take, List.length_take, S.len]
      · rw [List.getElem?_take] at h1 h2
        split at h1
        · rename_i hi
          rw [if_pos hi] at h2
          have z := S.obj i o b h1 h2
          cases o with
          | lst l =>
            cases e : H b with
            | none => rw [e] at z; exact z
            | some u => rw [e] at z; cases u <;> first | exact z.elim | exact ⟨z.1, Reps.mono sb z.2⟩
          | dic l => exact z.elim
        · cases h1
      · by_cases e : b = a
        · exact .inr e
        · rw [upd_ne e] at h; exact .inl h
    | _ => exact q.elim
theorem q_mv {i j : Nat} {x : Str} {px py : Pos} (hN : X.N.Nodup) (hj : X.N[j]? = some y) (hy : Loc X.env.scope y) (hi : X.N[i]? = some x) (hv : Vis X.env.scope x) (hd : (x == ("__debug__" : Str)) = false) (hcd : (x == ("__classdict__" : Str)) = false)
    (hs : swapsWith (.Name x px) (some (.Name y py)) pos.line X.env = pure false) (hf : X.fn y = true ∨ X.env.scope.names.lookup y = some .local) : PS X (.Assign [.Name y py] (.Name x px) pos) (LS bs X.K (evMv bs j i)) := by
  refine (ps_set hN hj hy (pe_var hi hv hd hcd) hs hf).imp fun D σ H ⟨δ, M, F, μ, x, M', hb, S, R, e0, k⟩ => ?_
  unfold evMv at e0
  split at e0
  · rename_i n e1
    split at e0
    · rename_i hc
      obtain ⟨hn, hbn, hj', hal⟩ := hc
      split at e0
      · rename_i o hM
        cases e0
        obtain ⟨v, e2, a, ha, rfl⟩ := R.at_ i _ e1
        have q := S.obj n o a hM ha
        cases o with
        | dic l => exact q.elim
        | lst ds =>
          obtain ⟨F', sb, S', r', nf⟩ := S.freeze ha hM hn
          refine ⟨_, e2, k F' (μ.take n) H _ (by rw [List.length_take]; have := S.len; omega) ⟨sb, ?_, fun b hb => .inl (List.mem_of_mem_take hb), fun b o h _ => h, fun b h => h, fun b o h => ?_⟩ S' ?_⟩
          · rw [List.take_take, Nat.min_eq_left hbn]
          · rcases nf b o h with z | z
            · exact .inl z
            · subst z
              refine .inr (.inr ⟨List.mem_of_getElem? ha, fun z => ?_⟩)
              have : b ∈ μ.take n := by
                have e : μ.take bs = (μ.take n).take bs := by rw [List.take_take, Nat.min_eq_left hbn]
                rw [e] at z
                exact List.mem_of_mem_take z
              exact take_ne S.nd ha this rfl
          · refine ⟨by rw [List.length_set, List.length_set, List.length_set]; exact R.len, fun l z e => ?_⟩
            by_cases hl : j = l
            · subst hl
              rw [List.getElem?_set_self (by rw [List.length_set]; exact hj')] at e
              cases e
              exact ⟨.ref a, List.getElem?_set_self (by rw [← R.len]; exact hj'), r'⟩
            · rw [List.getElem?_set_ne hl] at e ⊢
              by_cases hl2 : i = l
              · subst hl2
                by_cases hlen : i < δ.length
                · rw [List.getElem?_set_self hlen] at e; cases e
                · rw [List.getElem?_eq_none (by rw [List.length_set]; omega)] at e; cases e
              · have e' := e
                rw [List.getElem?_set_ne hl2] at e
                obtain ⟨v, ev, rv⟩ := R.at_ l z e
                refine ⟨v, ev, ?_⟩
                cases z with
                | d z => exact Rep.mono sb rv
                | ref m =>
                  obtain ⟨b, hb1, rfl⟩ := rv
                  refine ⟨b, ?_, rfl⟩
                  have hm := List.all_eq_true.mp hal _ (List.mem_of_getElem? e')
                  have hm' : m ≠ n := by simpa [notRef] using hm
                  have := S.alen hb1
                  rw [List.getElem?_take, if_pos (by omega)]
                  exact hb1
      · cases e0
    · cases e0
  · cases e0

/-! ### defs -/
/-- a def of n parameters and m other names -/
def defG (fr : Bool) (n m : Nat) (f : Nat → Sl → Mem → Res Flow) : List Val → Mem → Res Val := fun vs M => if vs.length = n then
    (f M.length (vs.map some ++ List.replicate m none) M).bind fun fl M1 => handBack fr M.length fl M1
  else .bad
theorem defG_len {fr : Bool} {n m : Nat} {f : Nat → Sl → Mem → Res Flow} (xs : List Val) (M : Mem) (x : Val) (M' : Mem) (h : defG fr n m f xs M = .ok x M') : xs.length = n := by
  unfold defG at h
  split at h
  · assumption
  · cases h
theorem RepS.start {K : Fr} {F : Hp} {μ : List Addr} {xs : List Val} {vs : List V} {N : List Str} {m : Nat} (r : RepVs K F μ xs vs) (hm : N.length = xs.length + m) : RepS K F μ (xs.map some ++ List.replicate m none) (L2.start N vs) := by
  have hl := r.length
  have e : L2.start N vs = vs.map some ++ List.replicate m none := by
    unfold L2.start
    rw [show N.length - vs.length = m by omega]
  rw [e]
  refine ⟨by simp [hl], fun i x h => ?_⟩
  by_cases hi : i < xs.length
  · rw [List.getElem?_append_left (by rw [List.length_map]; exact hi), List.getElem?_map] at h
    rw [List.getElem?_append_left (by rw [List.length_map]; omega), List.getElem?_map]
    cases e : xs[i]? with
    | none => rw [e] at h; cases h
    | some z =>
      rw [e] at h
      cases h
      rcases Paired.getP r.paired i with ⟨u, w, h1, h2, h3⟩ | ⟨h1, h2⟩
      · rw [e] at h1; cases h1; exact ⟨w, by rw [h2]; rfl, h3⟩
      · rw [e] at h1; cases h1
  · rw [List.getElem?_append_right (by rw [List.length_map]; omega)] at h
    obtain ⟨h1, h2⟩ := List.getElem?_eq_some_iff.mp h
    rw [List.getElem_replicate] at h2
    cases h2
theorem RepV.take {K : Fr} {F : Hp} {μ : List Addr} {b : Nat} {x : D} {v : V} (r : RepV K F μ (.d x) v) : RepV K F (μ.take b) (.d x) v := r
theorem Sim.take {K : Fr} {F : Hp} {μ : List Addr} {M : Mem} {H : Hp} (S : Sim K F μ M H) (b : Nat) : Sim K F (μ.take b) (M.take b) H where
  sub := S.sub
  out := fun a h => S.out a (List.mem_of_mem_take h)
  nd := S.nd.sublist (List.take_sublist _ _)
  len := by rw [List.length_take, List.length_take, S.len]
  obj := fun i o a h1 h2 => by
    rw [List.getElem?_take] at h1 h2
    split at h1
    · rename_i hi
      rw [if_pos hi] at h2
      exact S.obj i o a h1 h2
    · cases h1
theorem Step.cutE {F : Hp} {μ : List Addr} {H : Hp} {F' : Hp} {μ' : List Addr} {H' : Hp} (s : StepE F μ H F' μ' H') : StepE F μ H F' (μ'.take μ.length) H' where
  fr := s.fr
  pre := by rw [List.take_take, Nat.min_self]; exact s.pre
  new := fun a h => s.new a (List.mem_of_mem_take h)
  keep := s.keep
  up := s.up
  newF := s.newF
/-- a def by the reading of its body -/
theorem def_body {fr : Bool} {n m : Nat} {f : Nat → Sl → Mem → Res Flow} {N : List Str} {K : Fr} {vs : List V} {H : Hp} {Q : VK} {E : XK} (hN : N.length = n + m) (h : spF fr K n (defG fr n m f) vs H Q E) :
    ∃ b, LS b K (f b) { nx := fun _ H' => Q .non H', rt := Q } (L2.start N vs) H := by
  obtain ⟨hl, xs, M, F, μ, x, M', S, r, e0, k⟩ := h
  unfold defG at e0
  split at e0
  · rename_i hn
    obtain ⟨fl, M1, e1, e2⟩ := bind_ok e0
    have hμ := S.len
    refine ⟨M.length, _, M, F, μ, fl, M1, by omega, S, RepS.start r (by omega), e1, ?_⟩
    have stE : ∀ {F' μ' H'}, Step M.length F μ H F' μ' H' → StepE F μ H F' (μ'.take M.length) H' := fun {F' μ' H'} st => by
      rw [← hμ] at st ⊢
      exact st.cutE
    cases fl with
    | nx s =>
      intro F' μ' H' σ' hb st S' R'
      cases fr with
      | true => cases e2
      | false => cases e2; exact k F' _ H' .non (stE st) (S'.take _) .non
    | brk s => cases e2
    | cont s => cases e2
    | ret v =>
      intro F' μ' H' u hb st S' rv
      cases v with
      | d y =>
        cases fr with
        | true => cases e2
        | false => cases e2; exact k F' _ H' u (stE st) (S'.take _) rv
      | ref l =>
        replace e2 : (if fr ∧ M.length ≤ l then (match M1[l]? with | some o => Res.ok (Val.d o.toD) (M1.take M.length) | none => .bad) else .bad) = .ok x M' := e2
        split at e2
        · rename_i hc
          obtain ⟨hfr, hbl⟩ := hc
          cases fr with
          | false => cases hfr
          | true =>
            obtain ⟨a, ha, rfl⟩ := rv
            cases hM : M1[l]? with
            | none => simp only [hM] at e2; cases e2
            | some o =>
              simp only [hM] at e2
              cases e2
              have q := S'.obj l o a hM ha
              cases o with
              | dic _ => exact q.elim
              | lst ds =>
                cases hH : H' a with
                | none => rw [hH] at q; exact q.elim
                | some w =>
                  rw [hH] at q
                  cases w with
                  | lst ws =>
                    have nt : a ∉ μ'.take M.length := fun z => by
                      have e : μ'.take M.length = (μ'.take l).take M.length := by rw [List.take_take, Nat.min_eq_left hbl]
                      rw [e] at z
                      exact take_ne S'.nd ha (List.mem_of_mem_take z) rfl
                    refine k F' _ H' (.ref a) (stE st) (S'.take _) ⟨a, ds, ws, rfl, rfl, hH, S'.out a (List.mem_of_getElem? ha), nt, ?_, q.1, q.2⟩
                    rcases st.new a (List.mem_of_getElem? ha) with z | z
                    · have e := st.pre
                      rw [show μ.take M.length = μ by rw [← hμ, List.take_length]] at e
                      rw [← e] at z
                      exact absurd z nt
                    · exact z
                  | _ => exact q.elim
        · cases e2
  · cases e0
end
end DL
end P_DL6
section P_DL7
set_option Elab.async false
set_option linter.all false
set_option maxRecDepth 100000
set_option maxHeartbeats 1000000
/-! Operators by values. -/
namespace DL
open PySem PySem.Spec PyProof.Rows L2
section
variable {X : Cx} {K : Fr} {F H : Hp} {Q : VK}
theorem repT_non {v : V} (r : RepT K F H .non v) : v = .non := by cases r with | d r => cases r; rfl
theorem repT_bl {b : Bool} {v : V} (r : RepT K F H (.bl b) v) : v = .bl b := by cases r with | d r => cases r; rfl
theorem repT_str {s : List Char} {v : V} (r : RepT K F H (.str s) v) : v = .str (enc s) ∧ s.length ≤ big := by cases r with | d r => cases r with | str _ h => exact ⟨rfl, h⟩
theorem repT_tup {l : List D} {v : V} (r : RepT K F H (.tup l) v) : Rep K F (.tup l) v ∧ ∃ a vs, v = .ref a ∧ SqT K F a vs ∧ Reps K F l vs ∧ l.length ≤ big := by
  cases r with | d r => exact ⟨r, by cases r with | tup z h q => exact ⟨_, _, rfl, h, q, z⟩⟩
theorem repT_lst (sb : Sub F H) {l : List D} {v : V} (r : RepT K F H (.lst l) v) : ∃ a vs, v = .ref a ∧ H a = some (.lst vs) ∧ Reps K F l vs ∧ l.length ≤ big := by
  cases r with
  | d r => cases r with | lst z h q => exact ⟨_, _, rfl, sb _ _ h, q, z⟩
  | lst z h q => exact ⟨_, _, rfl, h, q, z⟩
theorem repT_scr {l : List D} {v : V} (r : RepT K F H (.scr l) v) : ∃ a vs, v = .ref a ∧ SqL K F a vs ∧ Reps K F l vs ∧ l.length ≤ big := by
  cases r with | d r => cases r with | scr z h q => exact ⟨_, _, rfl, h, q, z⟩
theorem repT_dic {l : List (D × D)} {v : V} (r : RepT K F H (.dic l) v) : ∃ (a : Addr) (k : List (List Char × Int)), l = k.map (fun p => (D.str p.1, D.int p.2)) ∧ v = .ref a ∧ (k.map (·.1)).Nodup ∧ F a = some (.dK (k.map fun p => (Sum.inr (enc p.1), V.int p.2))) := by
  cases r with | d r => cases r with | dic k z h => exact ⟨_, k, rfl, rfl, z, h⟩
theorem big_ge {n : Nat} (h : n ≤ big) : n ≤ sizeLine := by rw [sizeLine_eq]; exact h
theorem postSame {d : D} {v : V} (sb : Sub F H) (k : PostD false K F H d Q) (r : Rep K F d v) : Q v H := k F H v (NewF.refl sb) r
theorem postTup {ds : List D} {vs : List V} {p : Addr} (sb : Sub F H) (k : PostD false K F H (.tup ds) Q) (hl : ds.length ≤ big) (r : Reps K F ds vs) (hp : H p = none) : Q (.ref p) (upd H p (.tup vs)) := by
  have n := NewF.alloc sb hp (.tup vs)
  exact k _ _ _ n (Rep.tup hl (.inl (.inl upd_same)) (Reps.mono n.fr r))
theorem postLst {ds : List D} {vs : List V} {p : Addr} (sb : Sub F H) (k : PostD false K F H (.lst ds) Q) (hl : ds.length ≤ big) (r : Reps K F ds vs) (hp : H p = none) : Q (.ref p) (upd H p (.lst vs)) := by
  have n := NewF.alloc sb hp (.lst vs)
  exact k _ _ _ n (Rep.lst hl upd_same (Reps.mono n.fr r))
theorem postNew {ds : List D} {vs : List V} {p : Addr} (sb : Sub F H) (k : PostD true K F H (.lst ds) Q) (hl : ds.length ≤ big) (r : Reps K F ds vs) (hp : H p = none) : Q (.ref p) (upd H p (.lst vs)) := by
  have n := NewF.alloc sb hp (.lst vs)
  refine k F _ p ds vs ⟨Sub.refl _, sb.trans n.keep, n.keep, fun a o h => .inl h⟩ rfl upd_same ?_ hp hl r
  cases q : F p with
  | none => rfl
  | some o => rw [sb p o q] at hp; cases hp
/-- only where the answer is a list -/
def onlyL2 (p : D → D → Option D) : D → D → Option D := fun x y => match p x y with
  | some (.lst l) => some (.lst l)
  | _ => none
def onlyL1 (p : D → Option D) : D → Option D := fun x => match p x with
  | some (.lst l) => some (.lst l)
  | _ => none
def onlyLs (p : List D → Option D) : List D → Option D := fun x => match p x with
  | some (.lst l) => some (.lst l)
  | _ => none
theorem enc_append (x y : List Char) : enc (x ++ y) = enc x ++ enc y := by
  show enc (x ++ y) = (⟨(enc x).cps ++ (enc y).cps⟩ : Str)
  unfold enc
  rw [List.map_append]
  simp
theorem rep_eq {α : Type} (l : List α) : ∀ n : Nat, rep n l = (List.replicate n l).flatten
  | 0 => rfl
  | n + 1 => by rw [List.replicate_succ, List.flatten_cons, ← rep_eq l n]; rfl
theorem rep_length {α : Type} (l : List α) : ∀ n : Nat, (rep n l).length = n * l.length
  | 0 => by simp [rep]
  | n + 1 => by rw [rep, List.length_append, rep_length l n, Nat.succ_mul, Nat.add_comm]

theorem ob_add : OpR X (binaryOp .Add) (r2D false X.K (binD .add)) := by
  intro pins s σ H x y v u Q I rx ry ⟨F, dx, dy, d, sb, tx, ty, e, k⟩
  cases dx <;> cases dy <;> first | cases e | skip
  · cases repT_int tx; cases repT_int ty
    exact op_add pins s σ H _ _ v u Q I rx ry ⟨_, _, rfl, rfl, postSame sb k (.int _)⟩
  · rename_i a b
    obtain ⟨rfl, ha⟩ := repT_str tx
    obtain ⟨rfl, hb⟩ := repT_str ty
    simp only [binD] at e
    split at e
    · rename_i hz
      cases e
      refine op_add_str pins s σ H _ _ v u Q I rx ry ⟨_, _, rfl, rfl, by rw [enc_length, enc_length]; exact big_ge hz, ?_⟩
      rw [← enc_append]
      exact postSame sb k (.str _ (by rw [List.length_append]; exact hz))
    · cases e
  · obtain ⟨hx, a, as, rfl, ha, ra, la⟩ := repT_tup tx
    obtain ⟨hy, b, bs, rfl, hb, rb, lb⟩ := repT_tup ty
    simp only [binD] at e
    split at e
    · rename_i l1 l2 hz
      cases e
      refine op_catA pins s σ H _ _ v u Q I rx ry ⟨a, b, as, bs, rfl, rfl, sb.sqT ha, sb.sqT hb, by rw [← ra.length, ← rb.length]; exact big_ge hz, fun z => ?_, fun _ z => ?_, fun _ _ p hp => ?_⟩
      · subst z
        cases ra
        exact postSame sb k hy
      · subst z
        cases rb
        rw [List.append_nil] at k
        exact postSame sb k hx
      · exact postTup sb k (by rw [List.length_append]; exact hz) (ra.append rb) hp
    · cases e
  · obtain ⟨a, as, rfl, ha, ra, la⟩ := repT_lst sb tx
    obtain ⟨b, bs, rfl, hb, rb, lb⟩ := repT_lst sb ty
    simp only [binD] at e
    split at e
    · rename_i l1 l2 hz
      cases e
      refine op_cat pins s σ H _ _ v u Q I rx ry ⟨a, b, as, bs, rfl, rfl, ha, hb, by rw [← ra.length, ← rb.length]; exact big_ge hz, fun p hp => ?_⟩
      exact postLst sb k (by rw [List.length_append]; exact hz) (ra.append rb) hp
    · cases e
theorem ob_addL : OpR X (binaryOp .Add) (r2D true X.K (onlyL2 (binD .add))) := by
  intro pins s σ H x y v u Q I rx ry ⟨F, dx, dy, d, sb, tx, ty, e, k⟩
  unfold onlyL2 at e
  cases dx <;> cases dy <;> first | cases e | skip
  · simp only [binD] at e; split at e <;> cases e <;> (rename_i h; split at h <;> cases h)
  · simp only [binD] at e; split at e <;> cases e <;> (rename_i h; split at h <;> cases h)
  · obtain ⟨a, as, rfl, ha, ra, la⟩ := repT_lst sb tx
    obtain ⟨b, bs, rfl, hb, rb, lb⟩ := repT_lst sb ty
    simp only [binD] at e
    rename_i l1 l2
    by_cases hz : l1.length + l2.length ≤ big
    · rw [if_pos hz] at e
      cases e
      refine op_cat pins s σ H _ _ v u Q I rx ry ⟨a, b, as, bs, rfl, rfl, ha, hb, by rw [← ra.length, ← rb.length]; exact big_ge hz, fun p hp => ?_⟩
      exact postNew sb k (by rw [List.length_append]; exact hz) (ra.append rb) hp
    · rw [if_neg hz] at e; cases e
theorem ob_sub : OpR X (binaryOp .Sub) (r2D false X.K (binD .sub)) := by
  intro pins s σ H x y v u Q I rx ry ⟨F, dx, dy, d, sb, tx, ty, e, k⟩
  cases dx <;> cases dy <;> first | cases e | skip
  cases repT_int tx; cases repT_int ty
  exact op_sub pins s σ H _ _ v u Q I rx ry ⟨_, _, rfl, rfl, postSame sb k (.int _)⟩
theorem ob_fdiv : OpR X (binaryOp .FloorDiv) (r2D false X.K (binD .fdiv)) := by
  intro pins s σ H x y v u Q I rx ry ⟨F, dx, dy, d, sb, tx, ty, e, k⟩
  cases dx <;> cases dy <;> first | cases e | skip
  cases repT_int tx; cases repT_int ty
  simp only [binD] at e
  split at e
  · rename_i h
    cases e
    exact op_fdiv pins s σ H _ _ v u Q I rx ry ⟨_, _, rfl, rfl, h, postSame sb k (.int _)⟩
  · cases e
theorem ob_mod : OpR X (binaryOp .Mod) (r2D false X.K (binD .mod)) := by
  intro pins s σ H x y v u Q I rx ry ⟨F, dx, dy, d, sb, tx, ty, e, k⟩
  cases dx <;> cases dy <;> first | cases e | skip
  cases repT_int tx; cases repT_int ty
  simp only [binD] at e
  split at e
  · rename_i h
    cases e
    exact op_mod pins s σ H _ _ v u Q I rx ry ⟨_, _, rfl, rfl, h, postSame sb k (.int _)⟩
  · cases e
theorem ob_pow : OpR X (binaryOp .Pow) (r2D false X.K (binD .pow)) := by
  intro pins s σ H x y v u Q I rx ry ⟨F, dx, dy, d, sb, tx, ty, e, k⟩
  cases dx <;> cases dy <;> first | cases e | skip
  cases repT_int tx; cases repT_int ty
  simp only [binD] at e
  split at e
  · rename_i h
    cases e
    exact op_pow pins s σ H _ _ v u Q I rx ry ⟨_, _, rfl, rfl, h, postSame sb k (.int _)⟩
  · cases e
theorem Reps.repl {ds : List D} {vs : List V} (h : Reps K F ds vs) : ∀ n : Nat, Reps K F (DL.rep n ds) (List.replicate n vs).flatten
  | 0 => .nil
  | n + 1 => by rw [List.replicate_succ, List.flatten_cons]; exact h.append (h.repl n)
theorem foldl_repA (l : List Nat) : ∀ (n : Nat) (acc : Array Nat), (List.replicate n l.toArray).foldl (· ++ ·) acc = acc ++ (DL.rep n l).toArray
  | 0, acc => by simp [DL.rep]
  | n + 1, acc => by
    rw [List.replicate_succ, List.foldl_cons, foldl_repA l n]
    simp [DL.rep]
theorem enc_rep (l : List Char) : ∀ n : Nat, enc (DL.rep n l) = ⟨(DL.rep n (l.map Char.toNat)).toArray⟩
  | 0 => rfl
  | n + 1 => by
    have ih := enc_rep l n
    show enc (l ++ DL.rep n l) = ⟨((l.map Char.toNat) ++ DL.rep n (l.map Char.toNat)).toArray⟩
    rw [enc_append, ih]
    show (⟨(enc l).cps ++ (DL.rep n (l.map Char.toNat)).toArray⟩ : Str) = _
    simp [enc]
theorem mul_strD {pins : List (Addr × Obj)} {s : Shared} {σ : L2.St} {l : List Char} {j : Int} {v u : Value} (I : L2.Inv X pins σ H s) (rx : L2.RelV (.str (enc l)) v) (ry : L2.RelV (.int j) u) (h0 : 0 ≤ j) (h1 : j < 1000) (h2 : l.length ≤ 1000) (sb : Sub F H)
    (k : PostD false X.K F H (.str (DL.rep j.toNat l)) Q) : wpAny (model X.prog X.w) X.A (binaryOp .Mult v u) (EP X pins σ Q) X.xe s := by
  obtain ⟨t, rfl⟩ := rx
  obtain ⟨t', rfl⟩ := ry
  have hb : (DL.rep j.toNat l).length ≤ big := by
    rw [rep_length]
    have h1 : j.toNat ≤ 1000 := by omega
    calc j.toNat * l.length ≤ 1000 * 1000 := Nat.mul_le_mul h1 h2
      _ ≤ big := by decide
  have hl : (enc l).length = l.length := enc_length l
  have fin := postSame sb k (.str _ hb)
  have fin_s : ∀ {z : List Char}, Q (.str (enc z)) H → EP X pins σ Q (.str (enc z) s.toks) { s with toks := s.toks + 1 } := fun {z} q => ⟨.str (enc z), H, I.tok _, ⟨_, rfl⟩, q⟩
  refine PySem.P.mul_str (by rw [Bool.or_eq_false_iff]; exact ⟨decide_eq_false (by omega), decide_eq_false (by omega)⟩) (fun h _ => ?_) (fun h _ => ?_) ?_
  · rw [hl]
    have : (1000 : Int) ≤ (2 ^ 63 - 1 : Int) / j := (Int.le_ediv_iff_mul_le (by omega)).mpr (by omega)
    omega
  · refine PyProof.Rows.short24 ?_
    rw [hl, Nat.mul_comm, ← rep_length]
    exact hb
  · by_cases c1 : j < 1
    · rw [if_pos c1]
      have e : j.toNat = 0 := by omega
      rw [e] at fin
      exact ⟨Nat.zero_le _, fin_s fin⟩
    · rw [if_neg c1]
      by_cases c2 : (j == 1 || (enc l).length == 0) = true
      · rw [if_pos c2]
        have e : DL.rep j.toNat l = l := by
          rw [Bool.or_eq_true, beq_iff_eq, beq_iff_eq, hl] at c2
          rcases c2 with c2 | c2
          · rw [c2]; show l ++ [] = l; rw [List.append_nil]
          · have := List.eq_nil_of_length_eq_zero c2
            subst this
            exact List.eq_nil_of_length_eq_zero (by rw [rep_length]; simp)
        rw [e] at fin
        exact (⟨.str (enc l), H, I, ⟨_, rfl⟩, fin⟩ : EP X pins σ Q _ _)
      · rw [if_neg c2]
        have e : (⟨(List.replicate j.toNat (enc l).cps).foldl (· ++ ·) #[]⟩ : Str) = enc (DL.rep j.toNat l) := by
          rw [enc_rep]
          unfold enc
          simp only
          rw [foldl_repA]
          simp
        rw [e]
        exact ⟨by rw [enc_length]; exact big_ge hb, fin_s fin⟩
theorem ob_mul : OpR X (binaryOp .Mult) (r2D false X.K (binD .mul)) := by
  intro pins s σ H x y v u Q I rx ry ⟨F, dx, dy, d, sb, tx, ty, e, k⟩
  cases dx <;> cases dy <;> first | cases e | skip
  · cases repT_int tx; cases repT_int ty
    simp only [binD] at e
    split at e
    · rename_i h
      cases e
      exact op_mul pins s σ H _ _ v u Q I rx ry ⟨_, _, rfl, rfl, (show CMul _ _ from of_decide_eq_true (p := (_ ∨ _)) h), postSame sb k (.int _)⟩
    · cases e
  · cases repT_int ty
    obtain ⟨rfl, la⟩ := repT_str tx
    simp only [binD] at e
    split at e
    · rename_i l j h
      cases e
      exact mul_strD I rx ry h.1 h.2.1 h.2.2 sb k
    · cases e
  · cases repT_int ty
    obtain ⟨hx, a, as, rfl, ha, ra, la⟩ := repT_tup tx
    simp only [binD] at e
    split at e
    · rename_i l j h
      cases e
      have hb : l.length * j.toNat ≤ big := by
        have h1 : j.toNat ≤ 1000 := by omega
        calc l.length * j.toNat ≤ 1000 * 1000 := Nat.mul_le_mul h.2.2.1 h1
          _ ≤ big := by decide
      have hl := ra.length
      refine op_repT pins s σ H _ _ v u Q I rx ry ⟨a, _, as, rfl, rfl, sb.sqT ha, fun z => ?_, h.1, by omega, by omega, fun p hp => ?_⟩
      · have h0 := h.2.2.2
        rw [hl, z] at h0
        exact absurd h0 (by simp)
      · exact postTup sb k (by rw [rep_length, Nat.mul_comm]; exact hb) (ra.repl _) hp
    · cases e
  · cases repT_int ty
    obtain ⟨a, as, rfl, ha, ra, la⟩ := repT_lst sb tx
    simp only [binD] at e
    split at e
    · rename_i l j h
      cases e
      have hb : l.length * j.toNat ≤ big := by
        have h1 : j.toNat ≤ 1000 := by omega
        calc l.length * j.toNat ≤ 1000 * 1000 := Nat.mul_le_mul h.2.2 h1
          _ ≤ big := by decide
      refine op_rep pins s σ H _ _ v u Q I rx ry ⟨a, _, as, rfl, rfl, ha, by omega, by omega, by rw [← ra.length]; exact big_ge hb, fun p hp => ?_⟩
      exact postLst sb k (by rw [rep_length, Nat.mul_comm]; exact hb) (ra.repl _) hp
    · cases e
theorem ob_mulL : OpR X (binaryOp .Mult) (r2D true X.K (onlyL2 (binD .mul))) := by
  intro pins s σ H x y v u Q I rx ry ⟨F, dx, dy, d, sb, tx, ty, e, k⟩
  unfold onlyL2 at e
  cases dx <;> cases dy <;> first | cases e | skip
  · simp only [binD] at e; split at e <;> cases e <;> (rename_i h; split at h <;> cases h)
  · simp only [binD] at e; split at e <;> cases e <;> (rename_i h; split at h <;> cases h)
  · simp only [binD] at e; split at e <;> cases e <;> (rename_i h; split at h <;> cases h)
  · cases repT_int ty
    obtain ⟨a, as, rfl, ha, ra, la⟩ := repT_lst sb tx
    simp only [binD] at e
    rename_i l j
    by_cases h : 0 ≤ j ∧ j < 1000 ∧ l.length ≤ 1000
    · rw [if_pos h] at e
      cases e
      have hb : l.length * j.toNat ≤ big := by
        have h1 : j.toNat ≤ 1000 := by omega
        calc l.length * j.toNat ≤ 1000 * 1000 := Nat.mul_le_mul h.2.2 h1
          _ ≤ big := by decide
      refine op_rep pins s σ H _ _ v u Q I rx ry ⟨a, _, as, rfl, rfl, ha, by omega, by omega, by rw [← ra.length]; exact big_ge hb, fun p hp => ?_⟩
      exact postNew sb k (by rw [rep_length, Nat.mul_comm]; exact hb) (ra.repl _) hp
    · rw [if_neg h] at e; cases e

/-! ### comparisons -/
mutual
def toPy : D → PyData
  | .non => .none
  | .bl b => .bool b
  | .int i => .int i
  | .str s => .str (enc s)
  | .tup l => .tuple (toPys l)
  | .lst l => .list (toPys l)
  | .dic _ => .none
  | .scr _ => .none
def toPys : List D → List PyData
  | [] => []
  | x :: xs => toPy x :: toPys xs
end
theorem char_inj {a b : Char} (h : a.toNat = b.toNat) : a = b := by
  cases a; cases b
  simp only [Char.toNat] at h
  congr
  exact UInt32.toNat_inj.mp h
theorem map_nat_inj : ∀ {x y : List Char}, x.map Char.toNat = y.map Char.toNat → x = y
  | [], [], _ => rfl
  | [], _ :: _, h => by simp at h
  | _ :: _, [], h => by simp at h
  | a :: x, b :: y, h => by
    rw [List.map_cons, List.map_cons] at h
    injection h with h1 h2
    rw [char_inj h1, map_nat_inj h2]
theorem enc_inj {x y : List Char} (h : enc x = enc y) : x = y := by
  unfold enc at h
  injection h with h
  have h2 : x.map Char.toNat = y.map Char.toNat := by simpa using congrArg Array.toList h
  exact map_nat_inj h2
theorem enc_beq (x y : List Char) : (enc x == enc y) = (x == y) := by
  rw [Bool.eq_iff_iff, beq_iff_eq, beq_iff_eq]
  exact ⟨enc_inj, fun h => by rw [h]⟩
mutual
/-- no dict within -/
def D.plain : D → Bool
  | .non | .bl _ | .int _ | .str _ => true
  | .tup l => D.plains l
  | .lst l => D.plains l
  | .dic _ | .scr _ => false
def D.plains : List D → Bool
  | [] => true
  | x :: xs => D.plain x && D.plains xs
end
mutual
theorem shal_plain : ∀ (n : Nat) (x : D), x.shal n = true → x.plain = true
  | _, .non, _ | _, .bl _, _ | _, .int _, _ | _, .str _, _ => rfl
  | n + 1, .tup l, h => shals_plain n l h
  | n + 1, .lst l, h => shals_plain n l h
  | 0, .tup l, h | 0, .lst l, h | 0, .dic l, h | 0, .scr l, h => by simp [D.shal] at h
  | n + 1, .dic l, h | n + 1, .scr l, h => by simp [D.shal] at h
theorem shals_plain : ∀ (n : Nat) (x : List D), D.shals n x = true → D.plains x = true
  | _, [], _ => rfl
  | n, x :: xs, h => by
    simp only [D.shals, Bool.and_eq_true] at h
    simp only [D.plains, Bool.and_eq_true]
    exact ⟨shal_plain n x h.1, shals_plain n xs h.2⟩
end
mutual
theorem shal_depth : ∀ (n : Nat) (x : D), x.shal n = true → (toPy x).depth ≤ n
  | _, .non, _ | _, .bl _, _ | _, .int _, _ | _, .str _, _ => Nat.zero_le _
  | n + 1, .tup l, h => Nat.succ_le_succ (shals_depth n l h)
  | n + 1, .lst l, h => Nat.succ_le_succ (shals_depth n l h)
  | 0, .tup l, h | 0, .lst l, h | 0, .dic l, h | 0, .scr l, h => by simp [D.shal] at h
  | n + 1, .dic l, h | n + 1, .scr l, h => by simp [D.shal] at h
theorem shals_depth : ∀ (n : Nat) (x : List D), D.shals n x = true → PyData.depthAll (toPys x) ≤ n
  | _, [], _ => Nat.zero_le _
  | n, x :: xs, h => by
    simp only [D.shals, Bool.and_eq_true] at h
    exact Nat.max_le.mpr ⟨shal_depth n x h.1, shals_depth n xs h.2⟩
end
theorem enc_ok (s : List Char) : PyData.strOk (enc s) = true := by
  unfold PyData.strOk enc
  rw [Array.all_eq_true']
  intro c hc
  simp only [List.mem_toArray, List.mem_map] at hc
  obtain ⟨a, _, rfl⟩ := hc
  refine decide_eq_true ?_
  have := a.valid
  simp only [Char.toNat]
  rcases this with h | h
  · have h' : a.val.toNat < 0xd800 := h
    omega
  · exact h.2
mutual
theorem plain_lay : ∀ (x : D), x.plain = true → (toPy x).canLay0 = true
  | .non, _ | .bl _, _ | .int _, _ => rfl
  | .str s, _ => enc_ok s
  | .tup l, h => plains_lay l h
  | .lst l, h => plains_lay l h
  | .dic l, h | .scr l, h => by simp [D.plain] at h
theorem plains_lay : ∀ (x : List D), D.plains x = true → PyData.canLayAll0 (toPys x) = true
  | [], _ => rfl
  | x :: xs, h => by
    simp only [D.plains, Bool.and_eq_true] at h
    show (PyData.canLay0 (toPy x) && PyData.canLayAll0 (toPys xs)) = true
    rw [plain_lay x h.1, plains_lay xs h.2]
    rfl
end
theorem shaped_of {x : D} (h : x.shal 60 = true) : SeqAt.shaped (toPy x) = true := by
  unfold SeqAt.shaped
  rw [plain_lay x (shal_plain _ _ h), Bool.true_and]
  exact decide_eq_true (Nat.le_trans (shal_depth _ _ h) (by decide))
mutual
theorem eqv_py : ∀ (x y : D), x.plain = true → y.plain = true → PyData.eqv (toPy x) (toPy y) = x.eqv y := fun x y hx hy => by
  cases x with
  | tup l =>
    cases y with
    | tup m => show PyData.eqvAll (toPys l) (toPys m) = D.eqvs l m; exact eqvs_py l m hx hy
    | dic l => simp [D.plain] at hy
    | scr l => simp [D.plain] at hy
    | _ => rfl
  | lst l =>
    cases y with
    | lst m => show PyData.eqvAll (toPys l) (toPys m) = D.eqvs l m; exact eqvs_py l m hx hy
    | dic l => simp [D.plain] at hy
    | scr l => simp [D.plain] at hy
    | _ => rfl
  | str s =>
    cases y with
    | str t => exact enc_beq s t
    | dic l => simp [D.plain] at hy
    | scr l => simp [D.plain] at hy
    | _ => rfl
  | dic l => simp [D.plain] at hx
  | scr l => simp [D.plain] at hx
  | _ =>
    cases y with
    | dic l => simp [D.plain] at hy
    | scr l => simp [D.plain] at hy
    | _ => rfl
theorem eqvs_py : ∀ (x y : List D), D.plains x = true → D.plains y = true → PyData.eqvAll (toPys x) (toPys y) = D.eqvs x y
  | [], [], _, _ => rfl
  | [], _ :: _, _, _ => rfl
  | _ :: _, [], _, _ => rfl
  | x :: xs, y :: ys, hx, hy => by
    simp only [D.plains, Bool.and_eq_true] at hx hy
    show (PyData.eqv (toPy x) (toPy y) && PyData.eqvAll (toPys xs) (toPys ys)) = (x.eqv y && D.eqvs xs ys)
    rw [eqv_py x y hx.1 hy.1, eqvs_py xs ys hx.2 hy.2]
end
mutual
theorem Rep.dp (sb : Sub F H) : ∀ {x : D} {v : V}, Rep K F x v → x.plain = true → Dp K H v (toPy x)
  | _, _, .non, _ => .non
  | _, _, .bl b, _ => .bl b
  | _, _, .int i, _ => .int i
  | _, _, .str s _, _ => .str _
  | _, _, .tup z h r, p => .tup (sb.sqT h) (Reps.dp sb r p)
  | _, _, .lst z h r, p => .lst (SqL.of (sb _ _ h)) (Reps.dp sb r p)
  | _, _, .scr z h r, p => by simp [D.plain] at p
  | _, _, .dic l z h, p => by simp [D.plain] at p
theorem Reps.dp (sb : Sub F H) : ∀ {x : List D} {v : List V}, Reps K F x v → D.plains x = true → DpAll K H v (toPys x)
  | _, _, .nil, _ => .nil
  | _, _, .cons a r, p => by
    simp only [D.plains, Bool.and_eq_true] at p
    exact .cons (Rep.dp sb a p.1) (Reps.dp sb r p.2)
end
theorem RepT.dp (sb : Sub F H) {x : D} {v : V} (r : RepT K F H x v) (p : x.plain = true) : Dp K H v (toPy x) := by
  cases r with
  | d r => exact r.dp sb p
  | lst z h r => exact .lst (SqL.of h) (Reps.dp sb r p)
theorem flat_shal {x : D} (h : x.flat = true) : x.shal 60 = true := by cases x <;> first | rfl | cases h
theorem eqD_shal {x y : D} {b : Bool} (h : eqD x y = some b) : x.shal 60 = true ∧ y.shal 60 = true ∧ b = x.eqv y := by
  unfold eqD at h
  split at h
  · rename_i hh
    cases h
    rw [Bool.or_eq_true, Bool.and_eq_true, Bool.and_eq_true] at hh
    rcases hh with ⟨a, b⟩ | ⟨a, b⟩
    · exact ⟨flat_shal a, flat_shal b, rfl⟩
    · exact ⟨a, b, rfl⟩
  · cases h
theorem ob_eq {k : Nat} (hr : Room k X.A) : OpR X (compareOp .Eq) (r2D false X.K (cmpV .eq)) := by
  intro pins s σ H x y v u Q I rx ry ⟨F, dx, dy, d, sb, tx, ty, e, q⟩
  obtain ⟨b, hb, rfl⟩ := Option.map_eq_some_iff.mp e
  obtain ⟨h1, h2, rfl⟩ := eqD_shal hb
  refine op_eqD hr.units pins s σ H x y v u Q I rx ry ⟨_, _, tx.dp sb (shal_plain _ _ h1), ty.dp sb (shal_plain _ _ h2), shaped_of h1, shaped_of h2, ?_⟩
  rw [eqv_py _ _ (shal_plain _ _ h1) (shal_plain _ _ h2)]
  exact postSame sb q (.bl _)
theorem ob_ne {k : Nat} (hr : Room k X.A) : OpR X (compareOp .NotEq) (r2D false X.K (cmpV .ne)) := by
  intro pins s σ H x y v u Q I rx ry ⟨F, dx, dy, d, sb, tx, ty, e, q⟩
  obtain ⟨b1, hb1, rfl⟩ := Option.map_eq_some_iff.mp e
  obtain ⟨b, hb, rfl⟩ := Option.map_eq_some_iff.mp (show (eqD dx dy).map (!·) = some b1 from hb1)
  obtain ⟨h1, h2, rfl⟩ := eqD_shal hb
  refine op_neD hr.units pins s σ H x y v u Q I rx ry ⟨_, _, tx.dp sb (shal_plain _ _ h1), ty.dp sb (shal_plain _ _ h2), shaped_of h1, shaped_of h2, ?_⟩
  rw [eqv_py _ _ (shal_plain _ _ h1) (shal_plain _ _ h2)]
  exact postSame sb q (.bl _)

theorem lt_ofL {x y : List Char} : ltS x y = decide ((enc x).cps.toList < (enc y).cps.toList) := by
  show ltS x y = decide ((x.map Char.toNat).toArray.toList < (y.map Char.toNat).toArray.toList)
  induction x generalizing y with
  | nil =>
    cases y with
    | nil => rfl
    | cons b y => rfl
  | cons a x ih =>
    cases y with
    | nil => rfl
    | cons b y =>
      simp only [ltS, List.map_cons, List.cons_lt_cons_iff]
      by_cases h1 : a.toNat < b.toNat
      · simp [h1]
      · by_cases h2 : a.toNat = b.toNat
        · rw [if_neg h1, if_pos h2, ih]
          simp [h1, h2]
        · rw [if_neg h1, if_neg h2]
          simp [h1, h2]
theorem cmp_flat {op : CmpOp} {c : Cop} {gi : Int → Int → Bool} {gs : Str → Str → Bool} (hI : OpR X (compareOp op) (rI0 fun i j => .bl (gi i j)))
    (hS : OpR X (compareOp op) (fun x y H Q => ∃ i j, x = .str i ∧ y = .str j ∧ Q (.bl (gs i j)) H))
    (h : ∀ x y b, cmpD c x y = some b → (∃ i j, x = .int i ∧ y = .int j ∧ b = gi i j) ∨ (∃ i j, x = .str i ∧ y = .str j ∧ b = gs (enc i) (enc j))) : OpR X (compareOp op) (r2D false X.K (cmpV c)) := by
  intro pins s σ H x y v u Q I rx ry ⟨F, dx, dy, d, sb, tx, ty, e, q⟩
  obtain ⟨b, hb, rfl⟩ := Option.map_eq_some_iff.mp e
  rcases h _ _ _ hb with ⟨i, j, rfl, rfl, rfl⟩ | ⟨i, j, rfl, rfl, rfl⟩
  · cases repT_int tx; cases repT_int ty
    exact hI pins s σ H _ _ v u Q I rx ry ⟨_, _, rfl, rfl, postSame sb q (.bl _)⟩
  · obtain ⟨rfl, _⟩ := repT_str tx
    obtain ⟨rfl, _⟩ := repT_str ty
    exact hS pins s σ H _ _ v u Q I rx ry ⟨_, _, rfl, rfl, postSame sb q (.bl _)⟩
theorem ltFlat_cases {x y : D} {b : Bool} (h : ltFlat x y = some b) : (∃ i j, x = .int i ∧ y = .int j ∧ b = decide (i < j)) ∨ (∃ i j, x = .str i ∧ y = .str j ∧ b = decide ((enc i).cps.toList < (enc j).cps.toList)) := by
  cases x <;> cases y <;> first | (cases h; done) | (cases h; exact .inl ⟨_, _, rfl, rfl, rfl⟩) | (cases h; exact .inr ⟨_, _, rfl, rfl, lt_ofL⟩)
theorem ltFlat_casesM {x y : D} {b : Bool} (h : (ltFlat x y).map (!·) = some b) : (∃ i j, x = .int i ∧ y = .int j ∧ b = !decide (i < j)) ∨ (∃ i j, x = .str i ∧ y = .str j ∧ b = !decide ((enc i).cps.toList < (enc j).cps.toList)) := by
  obtain ⟨c, hc, rfl⟩ := Option.map_eq_some_iff.mp h
  rcases ltFlat_cases hc with ⟨i, j, rfl, rfl, rfl⟩ | ⟨i, j, rfl, rfl, rfl⟩
  · exact .inl ⟨_, _, rfl, rfl, rfl⟩
  · exact .inr ⟨_, _, rfl, rfl, rfl⟩
theorem ob_lt : OpR X (compareOp .Lt) (r2D false X.K (cmpV .lt)) := cmp_flat op_lt op_lt_str fun x y b h => ltFlat_cases h
theorem ob_gt : OpR X (compareOp .Gt) (r2D false X.K (cmpV .gt)) := cmp_flat op_gt op_gt_str fun x y b h => by
  rcases ltFlat_cases (x := y) (y := x) h with ⟨i, j, rfl, rfl, rfl⟩ | ⟨i, j, rfl, rfl, rfl⟩
  · exact .inl ⟨_, _, rfl, rfl, rfl⟩
  · exact .inr ⟨_, _, rfl, rfl, rfl⟩
theorem ob_le : OpR X (compareOp .LtE) (r2D false X.K (cmpV .le)) := cmp_flat op_le op_le_str fun x y b h => by
  rcases ltFlat_casesM (x := y) (y := x) h with ⟨i, j, rfl, rfl, rfl⟩ | ⟨i, j, rfl, rfl, rfl⟩
  · exact .inl ⟨_, _, rfl, rfl, by rw [Bool.eq_iff_iff]; simp⟩
  · exact .inr ⟨_, _, rfl, rfl, rfl⟩
theorem ob_ge : OpR X (compareOp .GtE) (r2D false X.K (cmpV .ge)) := cmp_flat op_ge op_ge_str fun x y b h => by
  rcases ltFlat_casesM h with ⟨i, j, rfl, rfl, rfl⟩ | ⟨i, j, rfl, rfl, rfl⟩
  · exact .inl ⟨_, _, rfl, rfl, by rw [Bool.eq_iff_iff]; simp⟩
  · exact .inr ⟨_, _, rfl, rfl, rfl⟩
/-! is -/
theorem V_non {x : D} {v : V} (r : RepT K F H x v) : decide (v = V.non) = (match x with | .non => true | _ => false) := by
  cases r with
  | d r => cases r <;> rfl
  | lst _ _ _ => rfl
theorem is_bl_rel {x : V} {v : Value} {b : Bool} (r : RelV x v) : plainIs v (.bool b) = true := by
  cases x <;> first | (cases r; rfl) | (obtain ⟨t, rfl⟩ := r; rfl)
theorem is_bl_ne {x : V} {v : Value} {b : Bool} (r : RelV x v) (h : x ≠ .bl b) : v ≠ .bool b := by
  cases x <;> first | (obtain ⟨t, rfl⟩ := r; intro e; cases e; done) | (cases r; intro e; cases e; exact h rfl) | (cases r; intro e; cases e)
theorem op_is_blA {X : Cx} : OpR X (compareOp .Is) (fun x y H Q => ∃ b, y = .bl b ∧ x ≠ .bl b ∧ Q (.bl false) H) := by
  intro pins s σ H x y v u Q I rx ry h
  obtain ⟨b, rfl, hx, q⟩ := h
  cases (show u = Value.bool b from ry)
  exact wpAny_is_other (is_bl_rel rx) (is_bl_ne rx hx) ⟨.bl false, H, I, rfl, q⟩
theorem op_isnot_blA {X : Cx} : OpR X (compareOp .IsNot) (fun x y H Q => ∃ b, y = .bl b ∧ x ≠ .bl b ∧ Q (.bl true) H) := by
  intro pins s σ H x y v u Q I rx ry h
  obtain ⟨b, rfl, hx, q⟩ := h
  cases (show u = Value.bool b from ry)
  exact wpAny_isNot_other (is_bl_rel rx) (is_bl_ne rx hx) ⟨.bl true, H, I, rfl, q⟩
theorem RepT_nbl {K : Fr} {F H : Hp} {x : D} {v : V} (r : RepT K F H x v) (h : ∀ a, x ≠ .bl a) (b : Bool) : v ≠ .bl b := by
  cases r with
  | d r =>
    cases r <;> first | (intro e; cases e; done) | skip
    exact fun _ => h _ rfl
  | lst _ _ _ => intro e; cases e
theorem ob_is : OpR X (compareOp .Is) (r2D false X.K (cmpV .is)) := by
  intro pins s σ H x y v u Q I rx ry ⟨F, dx, dy, d, sb, tx, ty, e, q⟩
  obtain ⟨b, hb, rfl⟩ := Option.map_eq_some_iff.mp e
  cases dy with
  | non =>
    cases repT_non ty
    refine op_isN pins s σ H x _ v u Q I rx ry ⟨rfl, ?_⟩
    rw [V_non tx]
    cases dx <;> cases hb <;> exact postSame sb q (.bl _)
  | bl b2 =>
    cases repT_bl ty
    by_cases hx : ∃ a, dx = .bl a
    · obtain ⟨a, rfl⟩ := hx
      cases hb
      cases repT_bl tx
      exact op_is_bl pins s σ H _ _ v u Q I rx ry ⟨_, _, rfl, rfl, postSame sb q (.bl _)⟩
    · refine op_is_blA pins s σ H x _ v u Q I rx ry ⟨_, rfl, RepT_nbl tx (fun a e => hx ⟨a, e⟩) _, ?_⟩
      cases dx <;> first | exact absurd ⟨_, rfl⟩ hx | (cases hb; exact postSame sb q (.bl _))
  | _ => cases dx <;> cases hb
theorem ob_isnot : OpR X (compareOp .IsNot) (r2D false X.K (cmpV .isnot)) := by
  intro pins s σ H x y v u Q I rx ry ⟨F, dx, dy, d, sb, tx, ty, e, q⟩
  obtain ⟨b, hb, rfl⟩ := Option.map_eq_some_iff.mp e
  cases dy with
  | non =>
    cases repT_non ty
    refine op_notN pins s σ H x _ v u Q I rx ry ⟨rfl, ?_⟩
    rw [V_non tx]
    cases dx <;> cases hb <;> exact postSame sb q (.bl _)
  | bl b2 =>
    cases repT_bl ty
    by_cases hx : ∃ a, dx = .bl a
    · obtain ⟨a, rfl⟩ := hx
      cases hb
      cases repT_bl tx
      exact op_isnot_bl pins s σ H _ _ v u Q I rx ry ⟨_, _, rfl, rfl, postSame sb q (.bl _)⟩
    · refine op_isnot_blA pins s σ H x _ v u Q I rx ry ⟨_, rfl, RepT_nbl tx (fun a e => hx ⟨a, e⟩) _, ?_⟩
      cases dx <;> first | exact absurd ⟨_, rfl⟩ hx | (cases hb; exact postSame sb q (.bl _))
  | _ => cases dx <;> cases hb
/-! in -/
theorem any_py {x : D} (hx : x.plain = true) : ∀ {l : List D}, D.plains l = true → ((toPys l).any fun z => PyData.eqv z (toPy x)) = l.any fun y => y.eqv x
  | [], _ => rfl
  | y :: l, h => by
    simp only [D.plains, Bool.and_eq_true] at h
    show (PyData.eqv (toPy y) (toPy x) || (toPys l).any fun z => PyData.eqv z (toPy x)) = _
    rw [eqv_py _ _ h.1 hx, any_py hx h.2, List.any_cons]
theorem in_units {k n : Nat} {x : PyData} {l : List PyData} (hr : Room k X.A) (h : x.depth ≤ 60) : X.A.units + 1 + min (PyData.depthAll l) x.depth < cLine := by
  have h1 : min (PyData.depthAll l) x.depth ≤ x.depth := Nat.min_le_right _ _
  have := hr.un
  omega
theorem inD_cases {x y : D} {b : Bool} (h : inD x y = some b) : (∃ c s, x = .str [c] ∧ y = .str s ∧ b = s.contains c) ∨ ∃ l, (y = .lst l ∨ y = .tup l) ∧ x.shal 60 = true ∧ D.shals 60 l = true ∧ b = l.any fun y => y.eqv x := by
  unfold inD at h
  split at h
  · cases h; exact .inl ⟨_, _, rfl, rfl, rfl⟩
  · split at h
    · rename_i hh; cases h; rw [Bool.and_eq_true] at hh; exact .inr ⟨_, .inl rfl, hh.1, hh.2, rfl⟩
    · cases h
  · split at h
    · rename_i hh; cases h; rw [Bool.and_eq_true] at hh; exact .inr ⟨_, .inr rfl, hh.1, hh.2, rfl⟩
    · cases h
  · cases h
theorem enc_mem (s : List Char) (c : Char) : decide (c.toNat ∈ (enc s).cps.toList) = s.contains c := by
  rw [Bool.eq_iff_iff, decide_eq_true_iff, List.contains_iff_mem]
  show c.toNat ∈ s.map Char.toNat ↔ c ∈ s
  rw [List.mem_map]
  exact ⟨fun ⟨a, h, e⟩ => by rw [← char_inj e]; exact h, fun h => ⟨c, h, rfl⟩⟩
theorem ob_in {k : Nat} (hr : Room k X.A) : OpR X (compareOp .In) (r2D false X.K (cmpV .isin)) := by
  intro pins s σ H x y v u Q I rx ry ⟨F, dx, dy, d, sb, tx, ty, e, q⟩
  obtain ⟨b, hb, rfl⟩ := Option.map_eq_some_iff.mp e
  rcases inD_cases hb with ⟨c, t, rfl, rfl, rfl⟩ | ⟨l, hy, h1, h2, rfl⟩
  · obtain ⟨rfl, _⟩ := repT_str tx
    obtain ⟨rfl, _⟩ := repT_str ty
    refine op_in_sign pins s σ H _ _ v u Q I rx ry ⟨_, _, rfl, rfl, ?_⟩
    rw [enc_mem]
    exact postSame sb q (.bl _)
  · obtain ⟨bs, r1⟩ := Dp.reads I _ x v (tx.dp sb (shal_plain _ _ h1)) rx
    have hp := shals_plain _ _ h2
    have qq : Q (.bl ((toPys l).any fun z => PyData.eqv z (toPy dx))) H := by rw [any_py (shal_plain _ _ h1) hp]; exact postSame sb q (.bl _)
    rcases hy with rfl | rfl
    · obtain ⟨as, r2⟩ := Dp.reads I _ y u (ty.dp sb (show (D.lst l).plain = true from hp)) ry
      exact SeqAt.in_list_reads r2 r1 (plains_lay _ hp) (plain_lay _ (shal_plain _ _ h1)) (in_units (n := 0) hr (shal_depth _ _ h1)) ⟨.bl _, H, I, rfl, qq⟩
    · obtain ⟨as, r2⟩ := Dp.reads I _ y u (ty.dp sb (show (D.tup l).plain = true from hp)) ry
      exact SeqAt.in_tuple_reads r2 r1 (plains_lay _ hp) (plain_lay _ (shal_plain _ _ h1)) (in_units (n := 0) hr (shal_depth _ _ h1)) ⟨.bl _, H, I, rfl, qq⟩
theorem ob_notin {k : Nat} (hr : Room k X.A) : OpR X (compareOp .NotIn) (r2D false X.K (cmpV .notin)) := by
  intro pins s σ H x y v u Q I rx ry ⟨F, dx, dy, d, sb, tx, ty, e, q⟩
  obtain ⟨b1, hb1, rfl⟩ := Option.map_eq_some_iff.mp e
  obtain ⟨b, hb, rfl⟩ := Option.map_eq_some_iff.mp (show (inD dx dy).map (!·) = some b1 from hb1)
  rcases inD_cases hb with ⟨c, t, rfl, rfl, rfl⟩ | ⟨l, hy, h1, h2, rfl⟩
  · obtain ⟨rfl, _⟩ := repT_str tx
    obtain ⟨rfl, _⟩ := repT_str ty
    refine op_notIn_sign pins s σ H _ _ v u Q I rx ry ⟨_, _, rfl, rfl, ?_⟩
    rw [enc_mem]
    exact postSame sb q (.bl _)
  · obtain ⟨bs, r1⟩ := Dp.reads I _ x v (tx.dp sb (shal_plain _ _ h1)) rx
    have hp := shals_plain _ _ h2
    have qq : Q (.bl (!(toPys l).any fun z => PyData.eqv z (toPy dx))) H := by rw [any_py (shal_plain _ _ h1) hp]; exact postSame sb q (.bl _)
    rcases hy with rfl | rfl
    · obtain ⟨as, r2⟩ := Dp.reads I _ y u (ty.dp sb (show (D.lst l).plain = true from hp)) ry
      exact SeqAt.notIn_list_reads r2 r1 (plains_lay _ hp) (plain_lay _ (shal_plain _ _ h1)) (in_units (n := 0) hr (shal_depth _ _ h1)) ⟨.bl _, H, I, rfl, qq⟩
    · obtain ⟨as, r2⟩ := Dp.reads I _ y u (ty.dp sb (show (D.tup l).plain = true from hp)) ry
      exact SeqAt.notIn_tuple_reads r2 r1 (plains_lay _ hp) (plain_lay _ (shal_plain _ _ h1)) (in_units (n := 0) hr (shal_depth _ _ h1)) ⟨.bl _, H, I, rfl, qq⟩
/-! -x -/
def negD : D → Option D
  | .int i => some (.int (-i))
  | _ => none
theorem ob_neg : UnR X (unaryOp .USub) (r1D false X.K negD) := by
  intro pins s σ H x v Q I rx ⟨F, dx, d, sb, tx, e, q⟩
  cases dx <;> first | (cases e; done) | skip
  cases e
  cases repT_int tx
  exact un_neg pins s σ H _ v Q I rx ⟨_, rfl, postSame sb q (.int _)⟩
/-! x[i] -/
theorem at_eq {α : Type} (l : List α) (i : Int) : at_ l i = atI l i := by
  unfold at_ atI ixN
  by_cases h0 : 0 ≤ i
  · rw [if_pos h0, if_pos h0]
    by_cases h1 : i < l.length
    · rw [if_pos h1]; rfl
    · rw [if_neg h1]
      exact List.getElem?_eq_none (by omega)
  · rw [if_neg h0, if_neg h0]
    by_cases h1 : -(l.length : Int) ≤ i
    · rw [if_pos h1, if_pos (by omega)]; rfl
    · rw [if_neg h1, if_neg (by omega)]; rfl
theorem at_rep {l : List D} {vs : List V} {i : Int} {d : D} (r : Reps K F l vs) (h : at_ l i = some d) : ∃ v, atI vs i = some v ∧ Rep K F d v := by
  rw [at_eq] at h
  unfold atI at h ⊢
  rw [r.length] at h
  cases e : ixN vs.length i with
  | none => rw [e] at h; cases h
  | some j => rw [e] at h; exact r.get h
theorem ob_sub_ix : IxR X (r2D false X.K subD) := by
  intro value slice pins s σ H x y v u Q I rx ry ⟨F, dx, dy, d, sb, tx, ty, e, q⟩ hs
  cases dx <;> cases dy <;> first | (cases e; done) | skip
  · cases repT_int ty
    obtain ⟨rfl, hl⟩ := repT_str tx
    rename_i t i
    obtain ⟨c, hc, rfl⟩ := Option.map_eq_some_iff.mp (show (at_ t i).map (fun c => D.str [c]) = some d from e)
    refine ix_str value slice pins s σ H _ _ v u Q I rx ry ⟨_, _, c.toNat, rfl, rfl, by rw [enc_length]; exact big_ge hl, ?_, postSame sb q (.str [c] (by show 1 ≤ big; decide))⟩ hs
    rw [at_eq] at hc
    show atI (t.map Char.toNat) i = _
    unfold atI at hc ⊢
    rw [List.length_map]
    cases e2 : ixN t.length i with
    | none => rw [e2] at hc; cases hc
    | some j =>
      rw [e2] at hc
      show (t.map Char.toNat)[j]? = _
      rw [List.getElem?_map, show t[j]? = some c from hc]; rfl
  · cases repT_int ty
    obtain ⟨_, a, as, rfl, ha, ra, _⟩ := repT_tup tx
    obtain ⟨w, hw, rw'⟩ := at_rep ra (show at_ _ _ = some d from e)
    exact ix_tup value slice pins s σ H _ _ v u Q I rx ry ⟨a, as, _, w, rfl, rfl, sb.sqT ha, hw, postSame sb q rw'⟩ hs
  · cases repT_int ty
    obtain ⟨a, as, rfl, ha, ra, _⟩ := repT_lst sb tx
    obtain ⟨w, hw, rw'⟩ := at_rep ra (show at_ _ _ = some d from e)
    exact ix_list value slice pins s σ H _ _ v u Q I rx ry ⟨a, as, _, w, rfl, rfl, SqL.of ha, hw, postSame sb q rw'⟩ hs
  · cases repT_int ty
    obtain ⟨a, as, rfl, ha, ra, _⟩ := repT_scr tx
    obtain ⟨w, hw, rw'⟩ := at_rep ra (show at_ _ _ = some d from e)
    exact ix_list value slice pins s σ H _ _ v u Q I rx ry ⟨a, as, _, w, rfl, rfl, sb.sqL ha, hw, postSame sb q rw'⟩ hs
end
end DL
end P_DL7
section P_DL8
set_option Elab.async false
set_option linter.all false
set_option maxRecDepth 100000
set_option maxHeartbeats 1000000
/-! Slices, built-in functions, methods by values. -/
namespace DL
open PySem PySem.Spec PyProof.Rows L2 PySem.SeqAt
open PySem.W (dataLt dataLt_int dataLt_str minD maxD AlikeAll alike min_list_data min_tuple_data max_list_data max_tuple_data)
section
variable {X : Cx} {K : Fr} {F H : Hp} {Q : VK}
/-! ### slices -/
theorem bound_lo (n : Nat) (o : Option Int) : (match o with | some i => bound n i | none => 0) = HT.sIx n 0 o := by
  cases o with
  | none => rfl
  | some i =>
    show bound n i = if i < 0 then (i + n).toNat else min i.toNat n
    unfold bound
    by_cases h : 0 ≤ i
    · rw [if_pos h, if_neg (by omega)]
    · rw [if_neg h, if_pos (by omega)]
theorem bound_hi (n : Nat) (o : Option Int) : (match o with | some i => bound n i | none => n) = HT.sIx n n o := by
  cases o with
  | none => rfl
  | some i =>
    show bound n i = if i < 0 then (i + n).toNat else min i.toNat n
    unfold bound
    by_cases h : 0 ≤ i
    · rw [if_pos h, if_neg (by omega)]
    · rw [if_neg h, if_pos (by omega)]
theorem cut_eq {α : Type} (l : List α) (lo hi : Option Int) : cut l lo hi = (l.drop (HT.sIx l.length 0 lo)).take (HT.sIx l.length l.length hi - HT.sIx l.length 0 lo) := by
  show (l.drop (match lo with | some i => bound l.length i | none => 0)).take ((match hi with | some i => bound l.length i | none => l.length) - (match lo with | some i => bound l.length i | none => 0)) = _
  rw [bound_lo, bound_hi]
theorem cut_rep {l : List D} {vs : List V} (lo hi : Option Int) (r : Reps K F l vs) : Reps K F (cut l lo hi) (cutV vs lo hi) := by
  rw [cut_eq]
  unfold cutV
  rw [← r.length]
  exact (r.drop _).take _
theorem cut_length {α : Type} (l : List α) (lo hi : Option Int) : (cut l lo hi).length ≤ l.length := by
  rw [cut_eq, List.length_take, List.length_drop]; omega
theorem cut_full {α : Type} (l : List α) (lo hi : Option Int) (h1 : HT.sIx l.length 0 lo = 0) (h2 : HT.sIx l.length l.length hi = l.length) : cut l lo hi = l := by
  rw [cut_eq, h1, h2, List.drop_zero, Nat.sub_zero, List.take_length]
theorem sb_slice : SlR X (rSlD false X.K) := by
  intro pins s σ H x v vl vu lo hi sl Q I rx hs pl pu ⟨F, dx, d, sb, tx, e, q⟩
  cases dx with
  | lst l =>
    cases e
    obtain ⟨a, as, rfl, ha, ra, la⟩ := repT_lst sb tx
    exact sl_list pins s σ H _ v vl vu lo hi sl Q I rx hs pl pu ⟨a, as, rfl, SqL.of ha, fun p hp => postLst sb q (Nat.le_trans (cut_length _ _ _) la) (cut_rep lo hi ra) hp⟩
  | scr l =>
    cases e
    obtain ⟨a, as, rfl, ha, ra, la⟩ := repT_scr tx
    exact sl_list pins s σ H _ v vl vu lo hi sl Q I rx hs pl pu ⟨a, as, rfl, sb.sqL ha, fun p hp => postLst sb q (Nat.le_trans (cut_length _ _ _) la) (cut_rep lo hi ra) hp⟩
  | tup l =>
    cases e
    obtain ⟨hx, a, as, rfl, ha, ra, la⟩ := repT_tup tx
    refine sl_tupA pins s σ H _ v vl vu lo hi sl Q I rx hs pl pu ⟨a, as, rfl, sb.sqT ha, fun ⟨z1, z2⟩ => ?_, fun _ p hp => postTup sb q (Nat.le_trans (cut_length _ _ _) la) (cut_rep lo hi ra) hp⟩
    rw [← ra.length] at z1 z2
    rw [cut_full l lo hi z1 z2] at q
    exact postSame sb q hx
  | str t =>
    cases e
    obtain ⟨rfl, la⟩ := repT_str tx
    refine sl_str pins s σ H _ v vl vu lo hi sl Q I rx hs pl pu ⟨_, rfl, by rw [enc_length]; exact big_ge la, ?_⟩
    have e : cutS (enc t) lo hi = enc (cut t lo hi) := by
      rw [cut_eq]
      unfold cutS enc
      simp only [Str.length, List.size_toArray, List.length_map]
      rw [List.map_take, List.map_drop]
    rw [e]
    exact postSame sb q (.str _ (Nat.le_trans (cut_length _ _ _) la))
  | _ => cases e
def rSlL' (K : Fr) : V → Option Int → Option Int → Hp → VK → Prop := fun v lo hi H Q => ∃ F x d, Sub F H ∧ RepT K F H x v ∧ (match x with
  | .lst l => some (.lst (cut l lo hi))
  | .scr l => some (.lst (cut l lo hi))
  | _ => none) = some d ∧ PostD true K F H d Q

/-! ### len, int, abs, .. -/
theorem repTs_0 {vs : List V} (r : RepTs K F H [] vs) : vs = [] := by cases r; rfl
theorem len1 {p : D → Option D} {xs : List D} {d : D} (h : (match xs with | [x] => p x | _ => none) = some d) : ∃ x, xs = [x] ∧ p x = some d := by
  split at h
  · exact ⟨_, rfl, h⟩
  · cases h
theorem bb_len : CallR X (.builtin "len") (rLD false X.K (biD .len)) := by
  intro pins s σ H vs us Q I r ⟨F, xs, d, sb, tx, e, q⟩
  match xs, e, tx with
  | [x], e, tx =>
    obtain ⟨v, rfl, rx⟩ := repTs_1 tx
    obtain ⟨n, hn, rfl⟩ := Option.map_eq_some_iff.mp (show (lenD x).map D.int = some d from e)
    have fin : Q (.int n) H := postSame sb q (.int _)
    cases x with
    | str t =>
      cases hn
      obtain ⟨rfl, la⟩ := repT_str rx
      refine call_len_str pins s σ H _ us Q I r ⟨_, rfl, by rw [enc_length]; exact big_ge la, ?_⟩
      rw [enc_length]; exact fin
    | lst l =>
      cases hn
      obtain ⟨a, as, rfl, ha, ra, la⟩ := repT_lst sb rx
      exact call_len_seq pins s σ H _ us Q I r ⟨a, as, rfl, .inl (SqL.of ha), by rw [← ra.length]; exact fin⟩
    | tup l =>
      cases hn
      obtain ⟨_, a, as, rfl, ha, ra, la⟩ := repT_tup rx
      exact call_len_seq pins s σ H _ us Q I r ⟨a, as, rfl, .inr (sb.sqT ha), by rw [← ra.length]; exact fin⟩
    | scr l =>
      cases hn
      obtain ⟨a, as, rfl, ha, ra, la⟩ := repT_scr rx
      exact call_len_seq pins s σ H _ us Q I r ⟨a, as, rfl, .inl (sb.sqL ha), by rw [← ra.length]; exact fin⟩
    | _ => cases hn
theorem bb_int : CallR X (.type "int") (rLD false X.K (biD .int)) := by
  intro pins s σ H vs us Q I r ⟨F, xs, d, sb, tx, e, q⟩
  match xs, e, tx with
  | [.int i], e, tx =>
    obtain ⟨v, rfl, rx⟩ := repTs_1 tx
    cases repT_int rx
    cases e
    exact call_int1 pins s σ H _ us Q I r (.inl ⟨i, rfl, postSame sb q (.int _)⟩)
  | [.bl b], e, tx =>
    obtain ⟨v, rfl, rx⟩ := repTs_1 tx
    cases repT_bl rx
    cases e
    exact call_int1 pins s σ H _ us Q I r (.inr ⟨b, rfl, postSame sb q (.int _)⟩)
theorem bb_abs : CallR X (.builtin "abs") (rLD false X.K (biD .abs)) := by
  intro pins s σ H vs us Q I r ⟨F, xs, d, sb, tx, e, q⟩
  match xs, e, tx with
  | [.int i], e, tx =>
    obtain ⟨v, rfl, rx⟩ := repTs_1 tx
    cases repT_int rx
    cases e
    exact call_abs pins s σ H _ us Q I r ⟨i, rfl, postSame sb q (.int _)⟩
theorem bb_max2 (hc : X.calm = true) : CallR X (.builtin "max") (rLD false X.K (biD .max2)) := by
  intro pins s σ H vs us Q I r ⟨F, xs, d, sb, tx, e, q⟩
  match xs, e, tx with
  | [.int i, .int j], e, tx =>
    obtain ⟨v, w, rfl, rx, ry⟩ := repTs_2 tx
    cases repT_int rx; cases repT_int ry
    cases e
    exact call_max2 hc pins s σ H _ us Q I r ⟨i, j, rfl, postSame sb q (.int _)⟩
theorem bb_min2 (hc : X.calm = true) : CallR X (.builtin "min") (rLD false X.K (biD .min2)) := by
  intro pins s σ H vs us Q I r ⟨F, xs, d, sb, tx, e, q⟩
  match xs, e, tx with
  | [.int i, .int j], e, tx =>
    obtain ⟨v, w, rfl, rx, ry⟩ := repTs_2 tx
    cases repT_int rx; cases repT_int ry
    cases e
    exact call_min2 hc pins s σ H _ us Q I r ⟨i, j, rfl, postSame sb q (.int _)⟩
theorem bb_divmod : CallR X (.builtin "divmod") (rLD false X.K (biD .divmod)) := by
  intro pins s σ H vs us Q I r ⟨F, xs, d, sb, tx, e, q⟩
  match xs, e, tx with
  | [.int i, .int j], e, tx =>
    obtain ⟨v, w, rfl, rx, ry⟩ := repTs_2 tx
    cases repT_int rx; cases repT_int ry
    simp only [biD] at e
    split at e
    · rename_i h
      cases e
      exact call_divmod pins s σ H _ us Q I r ⟨i, j, rfl, h, fun p hp => postTup sb q (by show 2 ≤ big; decide) (.cons (.int _) (.cons (.int _) .nil)) hp⟩
    · cases e
theorem sumInts_ok : ∀ {l : List D} {n : Int} {vs : List V}, sumInts l = some n → Reps K F l vs → ∃ ns : List Int, vs = ns.map V.int ∧ ns.sum = n
  | [], _, _, h, .nil => by cases h; exact ⟨[], rfl, rfl⟩
  | .int i :: l, n, _, h, .cons a r => by
    cases a
    obtain ⟨m, hm, rfl⟩ := Option.map_eq_some_iff.mp (show (sumInts l).map (i + ·) = some n from h)
    obtain ⟨ns, rfl, rfl⟩ := sumInts_ok hm r
    exact ⟨i :: ns, rfl, by simp⟩
theorem bb_sum (hc : X.calm = true) : CallR X (.builtin "sum") (rLD false X.K (biD .sum)) := by
  intro pins s σ H vs us Q I r ⟨F, xs, d, sb, tx, e, q⟩
  match xs, e, tx with
  | [.lst l], e, tx =>
    obtain ⟨v, rfl, rx⟩ := repTs_1 tx
    obtain ⟨n, hn, rfl⟩ := Option.map_eq_some_iff.mp (show (sumInts l).map D.int = some d from e)
    obtain ⟨a, as, rfl, ha, ra, la⟩ := repT_lst sb rx
    obtain ⟨ns, rfl, rfl⟩ := sumInts_ok hn ra
    exact cr_sum hc pins s σ H _ us Q I r ⟨a, ns, rfl, SqL.of ha, postSame sb q (.int _)⟩
theorem allBl_ok : ∀ {l : List D} {n : Bool} {vs : List V}, allBl l = some n → Reps K F l vs → ∃ ns : List Bool, vs = ns.map V.bl ∧ ns.all id = n
  | [], _, _, h, .nil => by cases h; exact ⟨[], rfl, rfl⟩
  | .bl i :: l, n, _, h, .cons a r => by
    cases a
    obtain ⟨m, hm, rfl⟩ := Option.map_eq_some_iff.mp (show (allBl l).map (i && ·) = some n from h)
    obtain ⟨ns, rfl, rfl⟩ := allBl_ok hm r
    exact ⟨i :: ns, rfl, by simp⟩
theorem anyBl_ok : ∀ {l : List D} {n : Bool} {vs : List V}, anyBl l = some n → Reps K F l vs → ∃ ns : List Bool, vs = ns.map V.bl ∧ ns.any id = n
  | [], _, _, h, .nil => by cases h; exact ⟨[], rfl, rfl⟩
  | .bl i :: l, n, _, h, .cons a r => by
    cases a
    obtain ⟨m, hm, rfl⟩ := Option.map_eq_some_iff.mp (show (anyBl l).map (i || ·) = some n from h)
    obtain ⟨ns, rfl, rfl⟩ := anyBl_ok hm r
    exact ⟨i :: ns, rfl, by simp⟩
theorem bb_all (hc : X.calm = true) : CallR X (.builtin "all") (rLD false X.K (biD .all)) := by
  intro pins s σ H vs us Q I r ⟨F, xs, d, sb, tx, e, q⟩
  match xs, e, tx with
  | [.lst l], e, tx =>
    obtain ⟨v, rfl, rx⟩ := repTs_1 tx
    obtain ⟨n, hn, rfl⟩ := Option.map_eq_some_iff.mp (show (allBl l).map D.bl = some d from e)
    obtain ⟨a, as, rfl, ha, ra, la⟩ := repT_lst sb rx
    obtain ⟨ns, rfl, rfl⟩ := allBl_ok hn ra
    exact cr_all hc pins s σ H _ us Q I r ⟨a, ns, rfl, SqL.of ha, postSame sb q (.bl _)⟩
theorem bb_any (hc : X.calm = true) : CallR X (.builtin "any") (rLD false X.K (biD .any)) := by
  intro pins s σ H vs us Q I r ⟨F, xs, d, sb, tx, e, q⟩
  match xs, e, tx with
  | [.lst l], e, tx =>
    obtain ⟨v, rfl, rx⟩ := repTs_1 tx
    obtain ⟨n, hn, rfl⟩ := Option.map_eq_some_iff.mp (show (anyBl l).map D.bl = some d from e)
    obtain ⟨a, as, rfl, ha, ra, la⟩ := repT_lst sb rx
    obtain ⟨ns, rfl, rfl⟩ := anyBl_ok hn ra
    exact cr_any hc pins s σ H _ us Q I r ⟨a, ns, rfl, SqL.of ha, postSame sb q (.bl _)⟩
theorem bb_tuple : CallR X (.type "tuple") (rLD false X.K (biD .tuple)) := by
  intro pins s σ H vs us Q I r ⟨F, xs, d, sb, tx, e, q⟩
  match xs, e, tx with
  | [.lst l], e, tx =>
    obtain ⟨v, rfl, rx⟩ := repTs_1 tx
    cases e
    obtain ⟨a, as, rfl, ha, ra, la⟩ := repT_lst sb rx
    exact call_tuple_of pins s σ H _ us Q I r ⟨a, as, rfl, .inl ⟨SqL.of ha, fun p hp => postTup sb q la ra hp⟩⟩
  | [.tup l], e, tx =>
    obtain ⟨v, rfl, rx⟩ := repTs_1 tx
    cases e
    obtain ⟨hx, a, as, rfl, ha, ra, la⟩ := repT_tup rx
    exact call_tuple_of pins s σ H _ us Q I r ⟨a, as, rfl, .inr ⟨sb.sqT ha, postSame sb q hx⟩⟩

/-! ### the least, the greatest -/
theorem like2_trans {x y z : D} (h : like2 x y = true) (h2 : like2 y z = true) : like2 x z = true := by
  cases x <;> cases y <;> cases z <;> first | rfl | (cases h; done) | (cases h2; done)
theorem like2_symm {x y : D} (h : like2 x y = true) : like2 y x = true := by cases x <;> cases y <;> first | rfl | cases h
theorem ltFlat_like {x y : D} {b : Bool} (h : ltFlat x y = some b) : like2 x y = true := by cases x <;> cases y <;> first | rfl | cases h
theorem ltFlat_data {x y : D} {b : Bool} (h : ltFlat x y = some b) : dataLt (toPy x) (toPy y) = b := by
  rcases ltFlat_cases h with ⟨i, j, rfl, rfl, rfl⟩ | ⟨i, j, rfl, rfl, rfl⟩
  · exact dataLt_int i j
  · exact dataLt_str _ _
theorem like2_alike {x y : D} (h : like2 x y = true) : alike (toPy x) (toPy y) = true := by
  cases x <;> cases y <;> first | (cases h; done) | (simp [toPy, alike])
theorem like2_flat {x y : D} (h : like2 x y = true) : x.flat = true ∧ toPy x ≠ .none := by
  cases x <;> cases y <;> first | (cases h; done) | exact ⟨rfl, by simp [toPy]⟩
theorem best_like {bt : D → D → Option Bool} (hb : ∀ x y b, bt y x = some b → like2 x y = true) : ∀ {l : List D} {x d : D}, bestD bt x l = some d → ∀ y ∈ l, like2 x y = true
  | [], _, _, _, y, hy => by cases hy
  | z :: l, x, d, h, y, hy => by
    unfold bestD at h
    cases e : bt z x with
    | none => rw [e] at h; cases h
    | some b =>
      rw [e] at h
      have l1 := hb _ _ _ e
      rcases List.mem_cons.mp hy with rfl | hy
      · exact l1
      · cases b with
        | true => exact like2_trans l1 (best_like hb h y hy)
        | false => exact best_like hb h y hy
theorem best_min : ∀ {l : List D} {x d : D}, bestD ltFlat x l = some d → minD (toPy x) (toPys l) = toPy d
  | [], _, _, h => by cases h; rfl
  | z :: l, x, d, h => by
    unfold bestD at h
    cases e : ltFlat z x with
    | none => rw [e] at h; cases h
    | some b =>
      rw [e] at h
      show List.foldl _ (if dataLt (toPy z) (toPy x) = true then toPy z else toPy x) (toPys l) = _
      rw [ltFlat_data e]
      cases b with
      | true => exact best_min h
      | false => exact best_min h
theorem best_max : ∀ {l : List D} {x d : D}, bestD (fun a b => ltFlat b a) x l = some d → maxD (toPy x) (toPys l) = toPy d
  | [], _, _, h => by cases h; rfl
  | z :: l, x, d, h => by
    unfold bestD at h
    cases e : ltFlat x z with
    | none => simp only [e] at h; cases h
    | some b =>
      simp only [e] at h
      show List.foldl _ (if dataLt (toPy x) (toPy z) = true then toPy z else toPy x) (toPys l) = _
      rw [ltFlat_data e]
      cases b with
      | true => exact best_max h
      | false => exact best_max h
theorem best_mem {bt : D → D → Option Bool} : ∀ {l : List D} {x d : D}, bestD bt x l = some d → d = x ∨ d ∈ l
  | [], _, _, h => by cases h; exact .inl rfl
  | z :: l, x, d, h => by
    unfold bestD at h
    cases e : bt z x with
    | none => rw [e] at h; cases h
    | some b =>
      rw [e] at h
      cases b with
      | true => rcases best_mem h with h | h
                · exact .inr (by rw [h]; exact List.mem_cons_self)
                · exact .inr (List.mem_cons_of_mem _ h)
      | false => rcases best_mem h with h | h
                 · exact .inl h
                 · exact .inr (List.mem_cons_of_mem _ h)
theorem toPys_mem {l : List D} {p : PyData} (h : p ∈ toPys l) : ∃ x ∈ l, p = toPy x := by
  induction l with
  | nil => cases h
  | cons a l ih =>
    rcases List.mem_cons.mp (show p ∈ toPy a :: toPys l from h) with rfl | h
    · exact ⟨a, List.mem_cons_self, rfl⟩
    · obtain ⟨x, hx, e⟩ := ih h
      exact ⟨x, List.mem_cons_of_mem _ hx, e⟩
theorem alike_all {x : D} {l : List D} (h : ∀ y ∈ l, like2 x y = true) (hx : like2 x x = true) : AlikeAll (toPys (x :: l)) := by
  have all : ∀ y ∈ x :: l, like2 x y = true := fun y hy => by
    rcases List.mem_cons.mp hy with rfl | hy
    · exact hx
    · exact h y hy
  refine ⟨fun p hp q hq => ?_, fun p hp => ?_⟩
  · obtain ⟨y, hy, rfl⟩ := toPys_mem hp
    obtain ⟨z, hz, rfl⟩ := toPys_mem hq
    exact like2_alike (like2_trans (like2_symm (all y hy)) (all z hz))
  · obtain ⟨y, hy, rfl⟩ := toPys_mem hp
    exact (like2_flat (like2_symm (all y hy))).2
theorem flat_depth {x : D} (h : x.flat = true) : (toPy x).depth = 0 := by cases x <;> first | rfl | cases h
theorem flats_depth : ∀ {l : List D}, (∀ y ∈ l, y.flat = true) → PyData.depthAll (toPys l) = 0
  | [], _ => rfl
  | x :: l, h => by
    show max (toPy x).depth (PyData.depthAll (toPys l)) = 0
    rw [flat_depth (h x List.mem_cons_self), flats_depth fun y hy => h y (List.mem_cons_of_mem _ hy)]
    rfl
theorem flat_plain {x : D} (h : x.flat = true) : x.plain = true := shal_plain _ _ (flat_shal h)
theorem flats_plain : ∀ {l : List D}, (∀ y ∈ l, y.flat = true) → D.plains l = true
  | [], _ => rfl
  | x :: l, h => by
    simp only [D.plains, Bool.and_eq_true]
    exact ⟨flat_plain (h x List.mem_cons_self), flats_plain fun y hy => h y (List.mem_cons_of_mem _ hy)⟩
mutual
theorem toPy_inj : ∀ (x y : D), x.plain = true → y.plain = true → toPy x = toPy y → x = y := fun x y hx hy h => by
  cases x <;> cases y <;> first
    | (simp [D.plain] at hx; done)
    | (simp [D.plain] at hy; done)
    | (simp [toPy] at h; done)
    | rfl
    | (simp only [toPy, PyData.bool.injEq] at h; rw [h])
    | (simp only [toPy, PyData.int.injEq] at h; rw [h])
    | (simp only [toPy, PyData.str.injEq] at h; rw [enc_inj h])
    | (simp only [toPy, PyData.tuple.injEq] at h; rw [toPys_inj _ _ hx hy h])
    | (simp only [toPy, PyData.list.injEq] at h; rw [toPys_inj _ _ hx hy h])
theorem toPys_inj : ∀ (x y : List D), D.plains x = true → D.plains y = true → toPys x = toPys y → x = y
  | [], [], _, _, _ => rfl
  | [], _ :: _, _, _, h => by simp [toPys] at h
  | _ :: _, [], _, _, h => by simp [toPys] at h
  | x :: xs, y :: ys, hx, hy, h => by
    simp only [D.plains, Bool.and_eq_true] at hx hy
    simp only [toPys, List.cons.injEq] at h
    rw [toPy_inj x y hx.1 hy.1 h.1, toPys_inj xs ys hx.2 hy.2 h.2]
end
theorem mem_plains : ∀ {l : List D} {x : D}, D.plains l = true → x ∈ l → x.plain = true
  | a :: l, x, h, hm => by
    simp only [D.plains, Bool.and_eq_true] at h
    rcases List.mem_cons.mp hm with rfl | hm
    · exact h.1
    · exact mem_plains h.2 hm
/-- what the machine's least item is among the values -/
theorem pick_item {pins : List (Addr × Obj)} {σ : L2.St} {s : Shared} {l : List D} {vs : List V} {its : List Value} {i : Nat} {u : Value} {h' : Heap} {as : List Addr} {d : D} {tk : Nat} (I : L2.Inv X pins σ H s) (sb : Sub F H) (ra : Reps X.K F l vs) (rv : Vals vs its) (hu : its[i]? = some u)
    (hr : Reads h' u (toPy d) as) (hd : d.plain = true) (hl : D.plains l = true) (hk : ∀ b o, s.heap.get? b = some o → h'.get? b = some o) (q : PostD false X.K F H d Q) : EP X pins σ Q u { s with heap := h', toks := tk } := by
  have hi : i < vs.length := by rw [rv.length]; exact (List.getElem?_eq_some_iff.mp hu).1
  have hv : vs[i]? = some vs[i] := List.getElem?_eq_getElem hi
  obtain ⟨u2, hu2, rl⟩ := rv.get hv
  rw [hu] at hu2
  cases hu2
  obtain ⟨x, hx, rx⟩ := ra.getV hv
  have I' : L2.Inv X pins σ H { s with heap := h', toks := tk } := I.kept hk
  have hxp : x.plain = true := mem_plains hl (List.mem_of_getElem? hx)
  obtain ⟨bs, r2⟩ := Dp.reads I' _ _ _ (rx.dp sb hxp) rl
  have e : x = d := toPy_inj _ _ hxp hd (SeqAt.plain_unique _ _ _ _ _ (PyData.plain_of_canLay0 _ (plain_lay _ hxp)) r2 hr)
  subst e
  exact ⟨_, H, I', rl, postSame sb q rx⟩
theorem readsL {pins : List (Addr × Obj)} {σ : L2.St} {s : Shared} {l : List D} {vs : List V} {its : List Value} (I : L2.Inv X pins σ H s) (sb : Sub F H) (ra : Reps X.K F l vs) (rv : Vals vs its) (hl : D.plains l = true) : ∃ as, ReadsAll s.heap its (toPys l) as :=
  Dp.readsAll I _ _ _ (ra.dp sb hl) rv
theorem best_facts {bt : D → D → Option Bool} (hb : ∀ x y b, bt y x = some b → like2 x y = true) {x d : D} {l : List D} (h : (if like2 x x then bestD bt x l else none) = some d) : bestD bt x l = some d ∧ AlikeAll (toPys (x :: l)) ∧ PyData.depthAll (toPys (x :: l)) = 0 ∧ D.plains (x :: l) = true ∧ d.plain = true := by
  split at h
  case isFalse => cases h
  rename_i hx
  have hl := best_like hb h
  have hf : ∀ y ∈ x :: l, y.flat = true := fun y hy => by
    rcases List.mem_cons.mp hy with rfl | hy
    · exact (like2_flat hx).1
    · exact (like2_flat (like2_symm (hl y hy))).1
  refine ⟨h, alike_all hl hx, flats_depth hf, flats_plain hf, ?_⟩
  rcases best_mem h with rfl | hm
  · exact flat_plain (hf _ List.mem_cons_self)
  · exact flat_plain (hf _ (List.mem_cons_of_mem _ hm))
theorem bb_min {k : Nat} (hc : X.calm = true) (hr : Room k X.A) : CallR X (.builtin "min") (rLD false X.K (biD .min)) := by
  intro pins s σ H vs us Q I r ⟨F, xs, d, sb, tx, e, q⟩
  have hb : ∀ x y b, ltFlat y x = some b → like2 x y = true := fun x y b h => like2_symm (ltFlat_like h)
  match xs, e, tx with
  | [.lst (x :: l)], e, tx =>
    obtain ⟨v, rfl, rx⟩ := repTs_1 tx
    obtain ⟨a, as, rfl, ha, ra, la⟩ := repT_lst sb rx
    rw [Vals.ref1 r]
    obtain ⟨its, rv, pl, hz⟩ := I.list (SqL.of ha)
    obtain ⟨f0, f1, f2, f3, f4⟩ := best_facts (bt := ltFlat) hb e
    obtain ⟨bs, rd⟩ := readsL I sb ra rv f3
    refine min_list_data (I.ok.hd hc) pl.isList (by rw [List.toList_toArray]; exact rd) f1 (by have := hr.un; show X.A.units + 1 + PyData.depthAll (toPys (x :: l)) < cLine; rw [f2]; omega) fun i u h' tk cs hu hrd hk => ?_
    rw [best_min f0] at hrd
    exact pick_item I sb ra rv (by simpa using hu) hrd f4 f3 hk q
  | [.tup (x :: l)], e, tx =>
    obtain ⟨v, rfl, rx⟩ := repTs_1 tx
    obtain ⟨_, a, as, rfl, ha, ra, la⟩ := repT_tup rx
    rw [Vals.ref1 r]
    obtain ⟨its, rv, pl, hz⟩ := I.tuple (sb.sqT ha)
    obtain ⟨f0, f1, f2, f3, f4⟩ := best_facts (bt := ltFlat) hb e
    obtain ⟨bs, rd⟩ := readsL I sb ra rv f3
    refine min_tuple_data (I.ok.hd hc) pl (by rw [List.toList_toArray]; exact rd) f1 (by have := hr.un; show X.A.units + 1 + PyData.depthAll (toPys (x :: l)) < cLine; rw [f2]; omega) fun i u h' tk cs hu hrd hk => ?_
    rw [best_min f0] at hrd
    exact pick_item I sb ra rv (by simpa using hu) hrd f4 f3 hk q
theorem bb_max {k : Nat} (hc : X.calm = true) (hr : Room k X.A) : CallR X (.builtin "max") (rLD false X.K (biD .max)) := by
  intro pins s σ H vs us Q I r ⟨F, xs, d, sb, tx, e, q⟩
  have hb : ∀ x y b, ltFlat x y = some b → like2 x y = true := fun x y b h => ltFlat_like h
  match xs, e, tx with
  | [.lst (x :: l)], e, tx =>
    obtain ⟨v, rfl, rx⟩ := repTs_1 tx
    obtain ⟨a, as, rfl, ha, ra, la⟩ := repT_lst sb rx
    rw [Vals.ref1 r]
    obtain ⟨its, rv, pl, hz⟩ := I.list (SqL.of ha)
    obtain ⟨f0, f1, f2, f3, f4⟩ := best_facts (bt := fun a b => ltFlat b a) hb e
    obtain ⟨bs, rd⟩ := readsL I sb ra rv f3
    refine max_list_data (I.ok.hd hc) pl.isList (by rw [List.toList_toArray]; exact rd) f1 (by have := hr.un; show X.A.units + 1 + PyData.depthAll (toPys (x :: l)) < cLine; rw [f2]; omega) fun i u h' tk cs hu hrd hk => ?_
    rw [best_max f0] at hrd
    exact pick_item I sb ra rv (by simpa using hu) hrd f4 f3 hk q
  | [.tup (x :: l)], e, tx =>
    obtain ⟨v, rfl, rx⟩ := repTs_1 tx
    obtain ⟨_, a, as, rfl, ha, ra, la⟩ := repT_tup rx
    rw [Vals.ref1 r]
    obtain ⟨its, rv, pl, hz⟩ := I.tuple (sb.sqT ha)
    obtain ⟨f0, f1, f2, f3, f4⟩ := best_facts (bt := fun a b => ltFlat b a) hb e
    obtain ⟨bs, rd⟩ := readsL I sb ra rv f3
    refine max_tuple_data (I.ok.hd hc) pl (by rw [List.toList_toArray]; exact rd) f1 (by have := hr.un; show X.A.units + 1 + PyData.depthAll (toPys (x :: l)) < cLine; rw [f2]; omega) fun i u h' tk cs hu hrd hk => ?_
    rw [best_max f0] at hrd
    exact pick_item I sb ra rv (by simpa using hu) hrd f4 f3 hk q
end
end DL
end P_DL8
section P_DL9
set_option Elab.async false
set_option linter.all false
set_option maxRecDepth 100000
set_option maxHeartbeats 1000000
/-! Methods, isinstance, list(x), stores by values. -/
namespace DL
open PySem PySem.Spec PyProof.Rows L2 PySem.SeqAt
section
variable {X : Cx} {K : Fr} {F H : Hp} {Q : VK}
/-! ### list(x) -/
theorem reps_chars (s : List Char) : Reps K F (s.map fun c => D.str [c]) (s.map fun c => V.str (enc [c])) := by
  induction s with
  | nil => exact .nil
  | cons c s ih => exact .cons (.str [c] (by show 1 ≤ big; decide)) ih
theorem signs_vals (s : List Char) : ∀ (its : List Value), its.length = s.length → (∀ i (h : i < its.length), ∃ t, its[i] = Value.str ⟨#[((enc s).cps[i]?).getD 0]⟩ t) → Vals (s.map fun c => V.str (enc [c])) its := by
  induction s with
  | nil =>
    intro its hl _
    cases its with
    | nil => exact .nil
    | cons a its => simp at hl
  | cons c s ih =>
    intro its hl h
    cases its with
    | nil => simp at hl
    | cons a its =>
      obtain ⟨t, e⟩ := h 0 (by simp)
      refine .cons ⟨t, ?_⟩ (ih its (by simpa using hl) fun i hi => ?_)
      · simpa [enc] using e
      · obtain ⟨t, e⟩ := h (i + 1) (by simpa using hi)
        exact ⟨t, by simpa [enc] using e⟩
theorem bb_list (hc : X.calm = true) : CallR X (.type "list") (rLD true X.K (biD .list)) := by
  intro pins s σ H vs us Q I r ⟨F, xs, d, sb, tx, e, q⟩
  match xs, e, tx with
  | [.lst l], e, tx =>
    obtain ⟨v, rfl, rx⟩ := repTs_1 tx
    cases e
    obtain ⟨a, as, rfl, ha, ra, la⟩ := repT_lst sb rx
    exact call_list_of pins s σ H _ us Q I r ⟨a, as, rfl, .inl (SqL.of ha), fun p hp => postNew sb q la ra hp⟩
  | [.tup l], e, tx =>
    obtain ⟨v, rfl, rx⟩ := repTs_1 tx
    cases e
    obtain ⟨hx, a, as, rfl, ha, ra, la⟩ := repT_tup rx
    exact call_list_of pins s σ H _ us Q I r ⟨a, as, rfl, .inr (sb.sqT ha), fun p hp => postNew sb q la ra hp⟩
  | [.str t], e, tx =>
    obtain ⟨v, rfl, rx⟩ := repTs_1 tx
    cases e
    obtain ⟨rfl, la⟩ := repT_str rx
    obtain ⟨u, rfl, tk, rfl⟩ := vals1 r
    have hsz : (enc t).cps.size ≤ sizeLine := by rw [enc_size]; exact big_ge la
    refine call_list_str (I.ok.hd hc) (enc t) tk (fun h' tk' acc c hk ho hi => ?_) hsz
    have rv : Vals (t.map fun c => V.str (enc [c])) acc.toList := by
      refine signs_vals t _ (by rw [Array.length_toList, hi.1, enc_size]) fun i h => ?_
      obtain ⟨c, u, hc, e⟩ := hi.2 i acc.toList[i] (by rw [← Array.getElem?_toList]; exact List.getElem?_eq_getElem h)
      exact ⟨u, by rw [e, hc]; rfl⟩
    have hp : H s.heap.objs.size = none := I.hok.fresh (Nat.le_refl _)
    refine ⟨.ref s.heap.objs.size, _, I.laid (t' := tk') hk (Nat.le_refl _) (show ObjOk X.prog X.w _ h' _ (.lst _) from ⟨by rw [List.length_map]; exact big_ge la, acc.toList, c, rv, by simpa using ho⟩), rfl, ?_⟩
    exact postNew sb q (by rw [List.length_map]; exact la) (reps_chars t) hp
/-! ### isinstance -/
def tyName : Ty → String
  | .int => "int" | .bool => "bool" | .str => "str" | .tuple => "tuple" | .list => "list" | .dict => "dict"
theorem kit_isi (t : Ty) {d : D} {v : V} {b : D} (sb : Sub F H) (r : RepT K F H d v) (h : isiD t d = some b) : ∃ ty k, TyX K H v ty ∧ PySem.W.kitOne K ty (.type (tyName t)) = some k ∧ b = .bl k := by
  cases d with
  | non => cases repT_non r; cases h; exact ⟨_, false, .base .non, by cases t <;> rfl, rfl⟩
  | bl x => cases repT_bl r; cases h; exact ⟨_, _, .base (.bl x), by cases t <;> rfl, rfl⟩
  | int x => cases repT_int r; cases h; exact ⟨_, _, .base (.int x), by cases t <;> rfl, rfl⟩
  | str x => obtain ⟨rfl, _⟩ := repT_str r; cases h; exact ⟨_, _, .base (.str _), by cases t <;> rfl, rfl⟩
  | lst l =>
    obtain ⟨a, vs, rfl, ha, _, _⟩ := repT_lst sb r
    cases h
    exact ⟨_, _, .base (.lst ha), by cases t <;> rfl, rfl⟩
  | tup l =>
    obtain ⟨_, a, vs, rfl, ha, _, _⟩ := repT_tup r
    cases h
    rcases sb.sqT ha with (ha | ⟨o, ha⟩) | ⟨o, its, n, h1, h2, _⟩
    · exact ⟨_, _, .base (.tup ha), by cases t <;> rfl, rfl⟩
    · exact ⟨_, _, .fTuple ha, by cases t <;> rfl, rfl⟩
    · exact ⟨_, _, .kTuple h1 h2, by cases t <;> rfl, rfl⟩
  | dic l =>
    obtain ⟨a, k, rfl, rfl, _, ha⟩ := repT_dic r
    cases h
    exact ⟨_, _, .base (.dK (sb _ _ ha)), by cases t <;> rfl, rfl⟩
  | _ => cases h
variable {e : Expr} {fa : Sl → Mem → Res Val} {pos : Pos}
theorem q_isi {T : Str} {t : Ty} {pn pt : Pos} (hg : Gl X "isinstance") (hm : X.mg "isinstance" = none) (hgT : Gl X T) (hmT : X.mg T = none) (hvT : bootBuiltins T = some (.type (tyName t))) (hnT : T ≠ "__name__") (hdT : (T == ("__debug__" : Str)) = false)
    (he : PE X e (LE false X.K fa)) (hp : plainArg e = true) : PE X (.Call (.Name "isinstance" pn) [e, .Name T pt] [] pos) (LE false X.K (ev1 (isiD t) fa)) := by
  refine (pe_callB call_isi hg hm PyProof.Rows.boot_isinstance (pa_cons he (pa_cons (pe_bltn (v := .ty (tyName t)) hgT hmT hvT rfl hnT hdT) pa_nil) (star_plain hp _ _)) (by decide) (by decide) (star_plain hp _ _) (star_any (by rfl))).imp fun σ H Q h => ?_
  have z := lift1 h
  obtain ⟨δ, M, F, μ, x, M', S, R, e0, k⟩ := z
  refine ⟨δ, M, F, μ, x, M', S, R, e0, fun F1 μ1 H1 v1 st1 S1 r1 => ?_⟩
  obtain ⟨F3, x3, d, sb, rx, hp3, q⟩ := k F1 μ1 H1 v1 st1 S1 r1
  obtain ⟨ty, kk, h1, h2, rfl⟩ := kit_isi t sb rx hp3
  exact ⟨v1, .ty (tyName t), ty, .type (tyName t), kk, rfl, .ty _, h1, h2, postSame sb q (.bl _)⟩

/-! ### methods of a text -/
theorem cnt_enc (c : Char) : ∀ s : List Char, cnt c.toNat (enc s).cps.toList = (s.count c : Nat)
  | [] => rfl
  | a :: s => by
    show cnt c.toNat (a.toNat :: s.map Char.toNat) = _
    rw [cnt_cons, List.count_cons]
    have ih : cnt c.toNat (s.map Char.toNat) = (s.count c : Nat) := cnt_enc c s
    rw [ih]
    by_cases h : a = c
    · subst h; simp; omega
    · rw [if_neg (fun e => h (char_inj e)), if_neg (by simpa using h)]; simp
theorem me_count : MeFact X "count" "str" "str.count" (rMD false X.K (atKd .str (meD .count))) where
  pa := PySem.F.plainAttrs_str
  slot := PySem.F.slot_str_count
  ty := PySem.F.type_str_count
  rule := by
    intro pins s σ H x xs v us Q I rx rs ⟨F, dx, dxs, d, sb, tx, txs, e, q⟩
    unfold atKd at e
    split at e
    case isFalse => cases e
    cases dx <;> first | (rename_i h; cases h; done) | skip
    obtain ⟨rfl, _⟩ := repT_str tx
    match dxs, e, txs with
    | [.str [c]], e, txs =>
      obtain ⟨w, rfl, rw'⟩ := repTs_1 txs
      obtain ⟨rfl, _⟩ := repT_str rw'
      cases e
      refine mt_count pins s σ H _ _ v us Q I rx rs ⟨_, _, rfl, rfl, ?_⟩
      rw [enc_one, count_cnt, cnt_enc]
      exact postSame sb q (.int _)
theorem me_oth {m : Me} (h : m = .join ∨ m = .count ∨ m = .rindex ∨ m = .upper ∨ m = .startswith) (x : D) (xs : List D) (hk : kd x ≠ .str) : meD m x xs = none := by
  rcases h with rfl | rfl | rfl | rfl | rfl <;> cases x <;> first | (exact absurd rfl hk) | rfl
theorem tab_str {name : Str} {id : String} {m : Me} (h : m = .join ∨ m = .count ∨ m = .rindex ∨ m = .upper ∨ m = .startswith) (f : MeFact X name "str" id (rMD false X.K (atKd .str (meD m)))) : MeTab X false name (meD m) where
  str := .inl ⟨id, f⟩
  lst := .inr fun x xs hk => me_oth h x xs (by rw [hk]; decide)
  dic := fun x xs hk => me_oth h x xs (by rw [hk]; decide)
  tup := fun x xs hk => me_oth h x xs (by rw [hk]; decide)
  oth := fun x xs hk => me_oth h x xs (by rw [hk]; decide)
theorem tab_count : MeTab X false "count" (meD .count) := tab_str (.inr (.inl rfl)) me_count
/-! join -/
theorem texts_reps : ∀ {l : List D} {ts : List (List Char)} {vs : List V}, texts l = some ts → Reps K F l vs → vs = (ts.map enc).map V.str
  | [], _, _, h, .nil => by cases h; rfl
  | .str s :: l, _, _, h, .cons a r => by
    obtain ⟨ts, ht, rfl⟩ := Option.map_eq_some_iff.mp (show (texts l).map (s :: ·) = some _ from h)
    cases a
    rw [texts_reps ht r]; rfl
theorem lens_eq : ∀ ts : List (List Char), ((ts.map enc).map (·.length)).sum = lens ts
  | [] => rfl
  | t :: ts => by rw [List.map_cons, List.map_cons, List.sum_cons, lens_eq ts, enc_length]; rfl
theorem glue_len (sep : List Char) : ∀ ts : List (List Char), (glue sep ts).length ≤ lens ts + ts.length * sep.length
  | [] => Nat.zero_le _
  | [x] => by show x.length ≤ x.length + 0 + 1 * sep.length; omega
  | x :: y :: r => by
    have ih := glue_len sep (y :: r)
    show (x ++ sep ++ glue sep (y :: r)).length ≤ x.length + lens (y :: r) + (r.length + 1 + 1) * sep.length
    rw [List.length_append, List.length_append, Nat.succ_mul]
    have : (y :: r).length = r.length + 1 := rfl
    rw [this] at ih
    omega
theorem join_enc (sep : List Char) : ∀ ts : List (List Char), Str.join (enc sep) (ts.map enc) = enc (glue sep ts)
  | [] => rfl
  | [x] => rfl
  | x :: y :: r => by
    show enc x ++ enc sep ++ Str.join (enc sep) ((y :: r).map enc) = enc (x ++ sep ++ glue sep (y :: r))
    rw [join_enc sep (y :: r), enc_append, enc_append]
theorem me_join : MeFact X "join" "str" "str.join" (rMD false X.K (atKd .str (meD .join))) where
  pa := PySem.F.plainAttrs_str
  slot := PySem.F.slot_str_join
  ty := PySem.F.type_str_join
  rule := by
    intro pins s σ H x xs v us Q I rx rs ⟨F, dx, dxs, d, sb, tx, txs, e, q⟩
    unfold atKd at e
    split at e
    case isFalse => cases e
    cases dx <;> first | (rename_i h; cases h; done) | skip
    rename_i sep _
    obtain ⟨rfl, _⟩ := repT_str tx
    have key : ∀ (l : List D) (a : Addr) (vs : List V), xs = [.ref a] → (SqL X.K H a vs ∨ SqT X.K H a vs) → Reps X.K F l vs → joinD sep l = some d → wpAny (model X.prog X.w) X.A (call (.builtin "str.join") (v :: us)) (EP X pins σ Q) X.xe s := by
      rintro l a vs rfl hs ra hj
      unfold joinD at hj
      split at hj
      · rename_i ts ht
        split at hj
        · rename_i hz
          cases hj
          have e2 := texts_reps ht ra
          rw [e2] at hs
          refine mt_join pins s σ H _ _ v us Q I rx rs ⟨_, a, ts.map enc, rfl, rfl, hs, ?_, ?_⟩
          · rw [lens_eq, List.length_map, enc_length]; exact hz
          · rw [TL.join_eq, join_enc]
            exact postSame sb q (.str _ (Nat.le_trans (glue_len _ _) hz))
        · cases hj
      · cases hj
    match dxs, e, txs with
    | [.lst l], e, txs =>
      obtain ⟨w, rfl, rw'⟩ := repTs_1 txs
      obtain ⟨a, vs, rfl, ha, ra, _⟩ := repT_lst sb rw'
      exact key l a vs rfl (.inl (SqL.of ha)) ra e
    | [.tup l], e, txs =>
      obtain ⟨w, rfl, rw'⟩ := repTs_1 txs
      obtain ⟨_, a, vs, rfl, ha, ra, _⟩ := repT_tup rw'
      exact key l a vs rfl (.inr (sb.sqT ha)) ra e
theorem tab_join : MeTab X false "join" (meD .join) := tab_str (.inl rfl) me_join
/-! upper -/
theorem me_upper : MeFact X "upper" "str" "str.upper" (rMD false X.K (atKd .str (meD .upper))) where
  pa := PySem.F.plainAttrs_str
  slot := PySem.F.slot_str_upper
  ty := PySem.F.type_str_upper
  rule := by
    intro pins s σ H x xs v us Q I rx rs ⟨F, dx, dxs, d, sb, tx, txs, e, q⟩
    unfold atKd at e
    split at e
    case isFalse => cases e
    cases dx <;> first | (rename_i h; cases h; done) | skip
    rename_i t _
    obtain ⟨rfl, _⟩ := repT_str tx
    match dxs, e, txs with
    | [], e, txs =>
      obtain rfl := repTs_0 txs
      simp only [meD] at e
      split at e
      · rename_i hz
        cases e
        refine mt_upper pins s σ H _ _ v us Q I rx rs ⟨_, rfl, rfl, by rw [enc_length]; omega, ?_⟩
        have e2 : Txt.upper (enc t) = enc (t.map upC) := by
          have h1 := PyProof.Rows.upper_ascii (x := enc t) (fun c hc => by
            obtain ⟨a, ha, rfl⟩ := List.mem_map.mp (show c ∈ t.map Char.toNat from hc)
            exact of_decide_eq_true (List.all_eq_true.mp hz.2 a ha))
          rw [h1]
          unfold enc
          simp only [List.map_toArray, List.map_map, Str.mk.injEq]
          refine congrArg List.toArray (List.map_congr_left fun a ha => ?_)
          have hlt : a.toNat < 128 := of_decide_eq_true (List.all_eq_true.mp hz.2 a ha)
          show PyProof.Rows.up1 a.toNat = (upC a).toNat
          unfold PyProof.Rows.up1 upC
          split
          · have hv : (a.toNat - 32).isValidChar := .inl (by omega)
            unfold Char.ofNat; rw [dif_pos hv]; rfl
          · rfl
        rw [e2]
        exact postSame sb q (.str _ (by rw [List.length_map]; exact Nat.le_trans hz.1 (by decide)))
      · cases e
theorem tab_upper : MeTab X false "upper" (meD .upper) := tab_str (.inr (.inr (.inr (.inl rfl)))) me_upper

/-! index -/
theorem place_spec {α : Type} {p : α → Bool} : ∀ {l : List α} {n : Nat}, place p l = some n → ∃ h : n < l.length, p l[n] = true ∧ ∀ m (hm : m < l.length), m < n → p l[m] = false
  | [], n, h => by cases h
  | x :: l, n, h => by
    unfold place at h
    split at h
    · cases h
      rename_i hp
      exact ⟨by simp, hp, fun m _ hm => absurd hm (Nat.not_lt_zero _)⟩
    · rename_i hp
      obtain ⟨k, hk, rfl⟩ := Option.map_eq_some_iff.mp h
      obtain ⟨h1, h2, h3⟩ := place_spec hk
      refine ⟨by simpa using h1, h2, fun m hm hmk => ?_⟩
      cases m with
      | zero => simpa using hp
      | succ m => exact h3 m (by simpa using hm) (by omega)
theorem place_enc {s : List Char} {c : Char} {n : Nat} (h : place (· == c) s = some n) : ∃ rest, Builtin.Str.occurrences (enc s) (enc [c]) 0 (enc s).length 1 = n :: rest := by
  obtain ⟨h1, h2, h3⟩ := place_spec h
  have at_ : ∀ i, StrLaws.At (enc s) (enc [c]) (enc s).length i ↔ s[i]? = some c := fun i => by
    show (i + (⟨#[c.toNat]⟩ : Str).length ≤ (enc s).length ∧ _) ↔ _
    rw [enc_one, StrLaws.subAt_one]
    show (s.map Char.toNat)[i]? = _ ↔ _
    rw [List.getElem?_map]
    constructor
    · intro e
      obtain ⟨a, ha, e⟩ := Option.map_eq_some_iff.mp e
      rw [ha, char_inj e]
    · intro e; rw [e]; rfl
  have hn : s[n]? = some c := by rw [List.getElem?_eq_getElem h1]; rw [beq_iff_eq] at h2; rw [h2]
  rcases StrLaws.occ_head (enc s) (enc [c]) 1 (Nat.le_refl 1) with ⟨_, no⟩ | ⟨i, r, e, hi, hk⟩
  · exact absurd ((at_ n).mpr hn) (no n)
  · have e2 : i = n := by
      have hs := (at_ i).mp hi
      have hil : i < s.length := (List.getElem?_eq_some_iff.mp hs).1
      rcases Nat.lt_trichotomy i n with z | z | z
      · have := h3 i hil z
        rw [List.getElem?_eq_getElem hil] at hs
        injection hs with hs
        rw [hs] at this
        simp at this
      · exact z
      · exact absurd ((at_ n).mpr hn) (hk n z)
    subst e2
    exact ⟨r, e⟩
theorem me_indexS : MeFact X "index" "str" "str.index" (rMD false X.K (atKd .str (meD .index))) where
  pa := PySem.F.plainAttrs_str
  slot := PySem.F.slot_str_index
  ty := PySem.F.type_str_index
  rule := by
    intro pins s σ H x xs v us Q I rx rs ⟨F, dx, dxs, d, sb, tx, txs, e, q⟩
    unfold atKd at e
    split at e
    case isFalse => cases e
    cases dx <;> first | (rename_i h; cases h; done) | skip
    rename_i t _
    obtain ⟨rfl, _⟩ := repT_str tx
    match dxs, e, txs with
    | [.str [c]], e, txs =>
      obtain ⟨w, rfl, rw'⟩ := repTs_1 txs
      obtain ⟨rfl, _⟩ := repT_str rw'
      obtain ⟨n, hn, rfl⟩ := Option.map_eq_some_iff.mp (show (place (· == c) t).map (fun n : Nat => D.int n) = some d from e)
      obtain ⟨rest, ho⟩ := place_enc hn
      obtain ⟨tk, rfl⟩ := rx
      cases rs with
      | cons r1 r2 =>
        cases r2
        obtain ⟨tk2, rfl⟩ := r1
        exact PySem.SC.index ho ⟨.int (n : Nat), H, I.tok _, ⟨_, rfl⟩, postSame sb q (.int _)⟩
theorem dataPlace_of {x : D} (hx : x.plain = true) : ∀ {l : List D} {n : Nat}, D.plains l = true → place (fun y => y.eqv x) l = some n → dataPlace (toPys l) (toPy x) = some n
  | [], n, _, h => by cases h
  | y :: l, n, hl, h => by
    simp only [D.plains, Bool.and_eq_true] at hl
    unfold place at h
    show List.findIdx? (fun z => PyData.eqv z (toPy x)) (toPy y :: toPys l) = some n
    rw [List.findIdx?_cons, eqv_py _ _ hl.1 hx]
    split at h
    · rename_i hp; cases h; rw [if_pos hp]
    · rename_i hp
      obtain ⟨k, hk, rfl⟩ := Option.map_eq_some_iff.mp h
      rw [if_neg hp]
      have := dataPlace_of hx hl.2 hk
      unfold dataPlace at this
      rw [this]; rfl
theorem flats_of {l : List D} (h : l.all D.flat = true) : D.plains l = true := flats_plain fun y hy => List.all_eq_true.mp h y hy
theorem toPys_get {l : List D} {n : Nat} (h : n < l.length) : (toPys l)[n]? = some (toPy l[n]) := by
  induction l generalizing n with
  | nil => exact absurd h (by simp)
  | cons a l ih =>
    cases n with
    | zero => rfl
    | succ n => exact ih (by simpa using h)
theorem toPys_len : ∀ l : List D, (toPys l).length = l.length
  | [] => rfl
  | _ :: l => congrArg (· + 1) (toPys_len l)
theorem flats_shaped {l : List D} (h : l.all D.flat = true) : SeqAt.shaped (.list (toPys l)) = true := by
  unfold SeqAt.shaped
  have h1 : (PyData.list (toPys l)).canLay0 = true := plains_lay _ (flats_of h)
  have h2 : (PyData.list (toPys l)).depth ≤ 64 := by
    show PyData.depthAll (toPys l) + 1 ≤ 64
    rw [flats_depth fun y hy => List.all_eq_true.mp h y hy]; omega
  rw [h1, Bool.true_and]
  exact decide_eq_true h2
theorem me_indexL {k : Nat} (hr : Room k X.A) : MeFact X "index" "list" "list.index" (rMD false X.K (atKd .lst (meD .index))) where
  pa := PySem.F.plainAttrs_list
  slot := PySem.F.slot_list_index
  ty := PySem.F.type_list_index
  rule := by
    intro pins s σ H x xs v us Q I rx rs ⟨F, dx, dxs, d, sb, tx, txs, e, q⟩
    unfold atKd at e
    split at e
    case isFalse => cases e
    cases dx <;> first | (rename_i h; cases h; done) | skip
    rename_i l _
    match dxs, e, txs with
    | [y], e, txs =>
      obtain ⟨w, rfl, rw'⟩ := repTs_1 txs
      simp only [meD] at e
      split at e
      · rename_i hf
        rw [Bool.and_eq_true] at hf
        obtain ⟨n, hn, rfl⟩ := Option.map_eq_some_iff.mp e
        have hp := flats_of hf.2
        have hy := flat_plain hf.1
        have dl := tx.dp sb (show (D.lst l).plain = true from hp)
        obtain ⟨a, vs, rfl, ha, ra, _⟩ := repT_lst sb tx
        obtain ⟨h1, h2, h3⟩ := place_spec hn
        refine mt_indexD (by have := hr.un; omega) pins s σ H _ _ v us Q I rx rs ⟨a, w, toPy y, toPys l, n, toPy l[n], rfl, rfl, dl, rw'.dp sb hy, flats_shaped hf.2, shaped_of (flat_shal hf.1), toPys_get h1, ?_, fun m z' hm hz => ?_, postSame sb q (.int _)⟩
        · rw [eqv_py _ _ (mem_plains hp (List.getElem_mem h1)) hy]; exact h2
        · have hml : m < l.length := by omega
          rw [toPys_get hml] at hz
          cases hz
          rw [eqv_py _ _ (mem_plains hp (List.getElem_mem hml)) hy]
          exact h3 m hml hm
      · cases e
theorem tab_index {k : Nat} (hr : Room k X.A) : MeTab X false "index" (meD .index) where
  str := .inl ⟨_, me_indexS⟩
  lst := .inl ⟨_, me_indexL hr⟩
  dic := fun x xs hk => by cases x <;> first | (cases hk; done) | rfl
  tup := fun x xs hk => by cases x <;> first | (cases hk; done) | rfl
  oth := fun x xs hk => by cases x <;> first | (cases hk; done) | rfl
/-! ### methods that change a list -/
theorem reps_1 {x : D} {vs : List V} (r : Reps K F [x] vs) : ∃ v, vs = [v] ∧ Rep K F x v := by
  cases r with | cons a b => cases b; exact ⟨_, rfl, a⟩
theorem reps_0 {vs : List V} (r : Reps K F [] vs) : vs = [] := by cases r; rfl
theorem mu_append : MeFact X "append" "list" "list.append" (rMuD X.K .append) where
  pa := PySem.F.plainAttrs_list
  slot := PySem.F.slot_list_append
  ty := PySem.F.type_list_append
  rule := by
    intro pins s σ H x xs v us Q I rx rs ⟨F, a, ds, ws, ys, y, es, ex, ha, Fa, sb, hl, ra, txs, e, q⟩
    subst ex
    match ys, e, txs with
    | [z], e, txs =>
      obtain ⟨w, rfl, rz⟩ := reps_1 txs
      simp only [muD] at e
      split at e
      · rename_i hz
        cases e
        exact mt_append pins s σ H _ _ v us Q I rx rs ⟨a, ws, w, rfl, rfl, ha, by rw [← ra.length, sizeLine_eq]; exact hz, q _ _ (ra.append (.cons rz .nil)) (by rw [List.length_append]; exact hz) .non⟩
      · cases e
theorem mu_extend : MeFact X "extend" "list" "list.extend" (rMuD X.K .extend) where
  pa := PySem.F.plainAttrs_list
  slot := PySem.F.slot_list_extend
  ty := PySem.F.type_list_extend
  rule := by
    intro pins s σ H x xs v us Q I rx rs ⟨F, a, ds, ws, ys, y, es, ex, ha, Fa, sb, hl, ra, txs, e, q⟩
    subst ex
    match ys, e, txs with
    | [.lst l], e, txs =>
      obtain ⟨w, rfl, rz⟩ := repTs_1 (show RepTs X.K F H [.lst l] xs from txs)
      obtain ⟨b, vs, rfl, hb, rb, _⟩ := repT_lst sb rz
      simp only [muD] at e
      split at e
      · rename_i hz
        cases e
        exact mt_extend pins s σ H _ _ v us Q I rx rs ⟨a, b, ws, vs, rfl, rfl, ha, hb, by rw [← ra.length, ← rb.length]; exact big_ge hz, q _ _ (ra.append rb) (by rw [List.length_append]; exact hz) .non⟩
      · cases e
theorem mu_pop : MeFact X "pop" "list" "list.pop" (rMuD X.K .pop) where
  pa := PySem.F.plainAttrs_list
  slot := PySem.F.slot_list_pop
  ty := PySem.F.type_list_pop
  rule := by
    intro pins s σ H x xs v us Q I rx rs ⟨F, a, ds, ws, ys, y, es, ex, ha, Fa, sb, hl, ra, txs, e, q⟩
    subst ex
    match ys, e, txs with
    | [], e, txs =>
      obtain rfl := reps_0 (show Reps X.K F [] xs from txs)
      simp only [muD] at e
      split at e
      · rename_i z hz
        cases e
        rw [List.getLast?_eq_getElem?] at hz
        obtain ⟨w, hw, rw'⟩ := ra.get hz
        rw [ra.length] at hw
        refine mt_pop pins s σ H _ _ v us Q I rx rs ⟨a, ws, w, rfl, rfl, ha, hw, q _ _ ra.dropLast ?_ rw'⟩
        rw [List.length_dropLast]; omega
      · cases e
theorem mu_popAt : MeFact X "pop" "list" "list.pop" (rMuD X.K .popAt) where
  pa := PySem.F.plainAttrs_list
  slot := PySem.F.slot_list_pop
  ty := PySem.F.type_list_pop
  rule := by
    intro pins s σ H x xs v us Q I rx rs ⟨F, a, ds, ws, ys, y, es, ex, ha, Fa, sb, hl, ra, txs, e, q⟩
    subst ex
    match ys, e, txs with
    | [.int i], e, txs =>
      obtain ⟨w, rfl, rz⟩ := reps_1 (show Reps X.K F [.int i] xs from txs)
      cases rz
      simp only [muD] at e
      split at e
      · rename_i hi
        split at e
        · rename_i z hz
          cases e
          obtain ⟨w, hw, rw'⟩ := ra.get hz
          have hlt := (List.getElem?_eq_some_iff.mp hw).1
          refine mt_popAt pins s σ H _ _ v us Q I rx rs ⟨a, ws, i, i.toNat, w, rfl, rfl, ha, by have := hi.1; omega, by have := hi.2; omega, ?_, hw, q _ _ (ra.eraseIdx _) ?_ rw'⟩
          · exact seqIndex_of hi.1 (by have := hi.1; omega)
          · exact Nat.le_trans (List.length_eraseIdx_le ..) hl
        · cases e
      · cases e
theorem mu_remove {k : Nat} (hr : Room k X.A) : MeFact X "remove" "list" "list.remove" (rMuD X.K .remove) where
  pa := PySem.F.plainAttrs_list
  slot := PySem.F.slot_list_remove
  ty := PySem.F.type_list_remove
  rule := by
    intro pins s σ H x xs v us Q I rx rs ⟨F, a, ds, ws, ys, y, es, ex, ha, Fa, sb, hl, ra, txs, e, q⟩
    subst ex
    match ys, e, txs with
    | [z], e, txs =>
      obtain ⟨w, rfl, rz⟩ := reps_1 txs
      simp only [muD] at e
      split at e
      · rename_i hf
        rw [Bool.and_eq_true] at hf
        obtain ⟨n, hn, ee⟩ := Option.map_eq_some_iff.mp e
        cases ee
        have hp := flats_of hf.2
        have hy := flat_plain hf.1
        cases rx
        obtain ⟨u, rfl, ru⟩ := rs.one
        obtain ⟨its, nn, rv, ho, hz⟩ := I.lst ha
        obtain ⟨bs, rd⟩ := readsL I sb ra rv hp
        obtain ⟨cs, rx2⟩ := Dp.reads I _ w u (rz.dp sb hy) ru
        obtain ⟨h1, _, _⟩ := place_spec hn
        refine remove_list_data (vs := its.toArray) ⟨_, ho, rfl, nn, rfl⟩ (by rw [List.toList_toArray]; exact rd) rx2 (PyData.plainAll_of_canLay0 _ (plains_lay _ hp)) (PyData.plain_of_canLay0 _ (plain_lay _ hy)) ?_ (dataPlace_of hy hp hn) (by rw [List.size_toArray, ← rv.length]; exact hz) ?_
        · have := hr.un
          have h0 : (toPy z).depth = 0 := flat_depth hf.1
          rw [h0]; omega
        · have hlt : n < its.toArray.size := by rw [List.size_toArray, ← rv.length, ← ra.length]; exact h1
          refine ⟨.non, _, I.lset (its' := its.eraseIdx n) (t' := s.toks) ha ho ?_ (rv.eraseIdx n) (Nat.le_trans (List.length_eraseIdx_le ..) hz), rfl, q _ _ (ra.eraseIdx n) (Nat.le_trans (List.length_eraseIdx_le ..) hl) .non⟩
          show its.toArray.eraseIdxIfInBounds n = (its.eraseIdx n).toArray
          rw [List.eraseIdxIfInBounds_toArray]
      · cases e
/-! ### o[i] = v -/
theorem pset_list : PSet X (rSetD X.K) := by
  intro pins s σ H o i v ov iv u Q I ro ri rv ⟨F, a, ds, ws, k, x, es, ex, ha, Fa, sb, hl, ra, rk, rx, e, q⟩
  subst ex
  cases k <;> first | (cases e; done) | skip
  rename_i j
  cases repT_int rk
  simp only [setD] at e
  have fin : ∀ m : Nat, ixN ws.length j = some m → es = ds.set m x → wpAny (model X.prog X.w) X.A (setItem ov iv u) (fun _ s' => ∃ H', L2.Inv X pins σ H' s' ∧ Q H') X.xe s := fun m hm ee => by
    subst ee
    exact set_list pins s σ H _ _ v ov iv u Q I ro ri rv ⟨a, ws, j, m, rfl, rfl, ha, hm, q _ (ra.set rx m) (by rw [List.length_set]; exact hl)⟩
  split at e
  · rename_i h
    cases e
    refine fin j.toNat ?_ rfl
    unfold ixN
    rw [if_pos h.1, if_pos (by rw [← ra.length]; omega)]
  · split at e
    · rename_i h
      cases e
      refine fin (j + ds.length).toNat ?_ rfl
      unfold ixN
      rw [if_neg (by omega), if_pos (by rw [← ra.length]; omega), ra.length]
    · cases e
end
end DL
end P_DL9
section P_DL10
set_option Elab.async false
set_option linter.all false
set_option maxRecDepth 100000
set_option maxHeartbeats 1000000
/-! The forms that a printed proof is made of. -/
namespace DL
open PySem PySem.Spec PyProof.Rows L2
section
variable {X : Cx} {fa fb fc : Sl → Mem → Res Val} {fl fk : Sl → Mem → Res (List Val)} {fd : Sl → Mem → Res (List D)} {a b c e tg iter elt : Expr} {es : List Expr} {pos : Pos} {fr : Bool} {bs : Nat}
def vC (x : D) : Sl → Mem → Res Val := fun _ M => .ok (.d x) M
def vV (i : Nat) : Sl → Mem → Res Val := fun s M => match s[i]? with
  | some (some v) => .ok v M
  | _ => .bad
def tst (f : Sl → Mem → Res Val) : Sl → Mem → Res Bool := fun s M => toB (f s M)
def evNot (fa : Sl → Mem → Res Val) : Sl → Mem → Res Val := fun s M => (toB (fa s M)).bind fun b M1 => .ok (.d (.bl (!b))) M1
def evDNil : Sl → Mem → Res (List D) := fun _ M => .ok [] M
def ifs0 : Sl → Mem → Res Bool := fun _ M => .ok true M
def ifs1 (fT : Sl → Mem → Res Bool) : Sl → Mem → Res Bool := fun s M => (fT s M).bind fun b M1 => if b then .ok true M1 else .ok false M1
theorem p_non {k : Nat} : PE X (.Constant .none k pos) (LE false X.K (vC .non)) := q_still pe_non fun _ => .non
theorem p_bl {x : Bool} {k : Nat} : PE X (.Constant (.bool x) k pos) (LE false X.K (vC (.bl x))) := q_still pe_bl fun _ => .bl x
theorem p_int {x : Int} {k : Nat} : PE X (.Constant (.int x) k pos) (LE false X.K (vC (.int x))) := q_still pe_int fun _ => .int x
theorem p_str {x : Str} {s : List Char} {k : Nat} (h : x = enc s := by decide +kernel) (hl : s.length ≤ 1000 := by decide +kernel) : PE X (.Constant (.str x) k pos) (LE false X.K (vC (.str s))) := by
  subst h
  exact q_still pe_str fun _ => .str s (Nat.le_trans hl (by decide))
/-- a name of the text that is written once -/
structure Cst (K : Fr) (mg : Str → Option Value) (x : Str) (d : D) : Prop where
  ex : ∃ (u : Value) (v : V), mg x = some u ∧ RelV v u ∧ ∀ F, Rep K F d v
theorem p_glob {x : Str} {d : D} (h : Cst X.K X.mg x d) (hg : Gl X x := by rfl) (hd : (x == ("__debug__" : Str)) = false := by decide +kernel) : PE X (.Name x pos) (LE false X.K (vC d)) := by
  obtain ⟨u, v, hm, r, hr⟩ := h.ex
  exact q_still (pe_glob hg hm r hd) hr
theorem p_var (i : Nat) {x : Str} (hN : X.N[i]? = some x := by rfl) (hv : Vis X.env.scope x := by first | exact Or.inl rfl | exact Or.inr (Or.inl rfl) | exact Or.inr (Or.inr rfl)) (hd : (x == ("__debug__" : Str)) = false := by decide +kernel) (hcd : (x == ("__classdict__" : Str)) = false := by decide +kernel) : PE X (.Name x pos) (LE false X.K (vV i)) := q_var hN hv hd hcd
theorem p_not (h : PE X a (LE false X.K fa)) : PE X (.UnaryOp .Not a pos) (LE false X.K (evNot fa)) := q_not h
theorem p_notT (h : PT X a (LT X.K (tst fa))) : PT X (.UnaryOp .Not a pos) (LT X.K (tst (evNot fa))) := q_notT h
theorem p_cmpT {op : CmpOp} {p : D → D → Option D} (ho : OpR X (compareOp op) (r2D false X.K p)) (ha : PE X a (LE false X.K fa)) (hb : PE X b (LE false X.K fb)) (hm : behindInMarks op b = false := by rfl) : PT X (.Compare a [op] [b] pos) (LT X.K (tst (ev2 p fa fb))) := q_cmpT ho ha hb hm
theorem p_cmp3T {op op' : CmpOp} {p q : D → D → Option D} (ho : OpR X (compareOp op) (r2D false X.K p)) (ho' : OpR X (compareOp op') (r2D false X.K q)) (ha : PE X a (LE false X.K fa)) (hb : PE X b (LE false X.K fb)) (hc : PE X c (LE false X.K fc))
    (hm : lastMarks [op, op'] [b, c] = false := by rfl) : PT X (.Compare a [op, op'] [b, c] pos) (LT X.K (tst (ev3 p q fa fb fc))) := q_cmp3T ho ho' ha hb hc hm
theorem p_val (h : PE X e (LE false X.K fa)) (he : ∀ whole, isTrue e X.env whole = (do let v ← whole; standAt e.pos; holding [v] (truthy v)) := by intro _; rfl) : PT X e (LT X.K (tst fa)) := q_val h he
variable {rest : List Expr} {x1 : Expr}
theorem p_last {op} (ha : PT X a (LT X.K (tst fa))) : PW X (.BoolOp op [a] pos) (LT X.K (tst fa)) := q_andW ha
theorem p_andW (ha : PT X a (LT X.K (tst fa))) (hb : PW X (.BoolOp .And (x1 :: rest) pos) (LT X.K (tst fb))) : PW X (.BoolOp .And (a :: x1 :: rest) pos) (LT X.K (tst (evAnd fa fb))) := q_andT ha hb
theorem p_orW (ha : PT X a (LT X.K (tst fa))) (hb : PW X (.BoolOp .Or (x1 :: rest) pos) (LT X.K (tst fb))) : PW X (.BoolOp .Or (a :: x1 :: rest) pos) (LT X.K (tst (evOr fa fb))) := q_orT ha hb
theorem p_bool {op} (h : PW X (.BoolOp op es pos) (LT X.K (tst fa))) : PT X (.BoolOp op es pos) (LT X.K (tst fa)) := PW.pt h
theorem p_ifxT (hc : PT X c (LT X.K (tst fc))) (ha : PT X a (LT X.K (tst fa))) (hb : PT X b (LT X.K (tst fb))) : PT X (.IfExp c a b pos) (LT X.K (tst (evIf (tst fc) fa fb))) := q_ifxT hc ha hb
theorem p_ifx (hc : PT X c (LT X.K (tst fc))) (ha : PE X a (LE fr X.K fa)) (hb : PE X b (LE fr X.K fb)) : PE X (.IfExp c a b pos) (LE fr X.K (evIf (tst fc) fa fb)) := q_ifx hc ha hb
theorem p_nil : PA X [] (LA X.K evNil) := q_nil
theorem p_dnil : PA X [] (LDs X.K evDNil) := q_dnil
theorem p_new (h : PE X e (LE true X.K fa)) : PE X e (LE false X.K (newOf fa)) := PE.newed h
theorem p_frz (h : PE X e (LE true X.K fa)) : PE X e (LE false X.K fa) := PE.frozen h
theorem p_ifs0 : PTs X [] (LT X.K ifs0) := q_ifs0
theorem p_ifs1 (h : PT X e (LT X.K (tst fa))) : PTs X [e] (LT X.K (ifs1 (tst fa))) := q_ifs1 h
/-! calls -/
theorem p_call {n k : Nat} {f : Addr} {fn : FuncData} {x : Str} {st : Stmt} {p : Pos} {ps : List Str} {g : List Val → Mem → Res Val} (hl : ∀ xs M x M', g xs M = .ok x M' → xs.length = n) (F : Fun X.K x x st f fn) (G : FnOk X.prog X.w X.K X.mg X.base CX0 k f fn ps (spF fr X.K n g)) (hr : Room k X.A) (hm : X.mg x = some (.ref f))
    (hb : Binds X.K fn ps []) (ha : PA X (e :: es) (LA X.K fl)) (hg : Gl X x := by rfl) (hp : (e :: es).all plainArg = true := by rfl) (hdb : (x == ("__debug__" : Str)) = false := by decide +kernel) : PE X (.Call (.Name x p) (e :: es) [] pos) (LE fr X.K (evCall g fl)) :=
  q_call hl G hr hg hm F.kp hb ha hp hdb
/-- f(k = v, ..) -/
theorem pe_callN0 {CX : CXT} {k : Nat} {f : Addr} {fn : FuncData} {x : Str} {p : Pos} {ps ks : List Str} {sp : Sp} {E : XK} {kws : List Keyword} {tk : TA} {g : List Value → List Value → List Value} {gV : List V → List V → List V}
    (F : FnOk X.prog X.w X.K X.mg X.base CX k f fn ps sp) (hr : Room k X.A) (hg : Gl X x) (hm : X.mg x = some (.ref f)) (hk : PySem.W.keepIn X.K (.ref f) = true) (hb : KBn X.K fn ps 0 ks g gV) (hx : Passes CX X E) (hkw : PK X kws tk)
    (hall : (backToKw pos (keywordEach kws X.env)).all (·.1.isSome) = true) (hks : (backToKw pos (keywordEach kws X.env)).filterMap (·.1) = ks) (hdb : (x == ("__debug__" : Str)) = false)
    (hpl : ((backTo pos (starEach [] X.env)).any (·.1) || (backToKw pos (keywordEach kws X.env)).any (·.1.isNone)) = false) :
    PE X (.Call (.Name x p) [] kws pos) (tCallN 0 ks.length sp gV E tNil tk) := by
  refine ⟨fun pins s σ H Q I h => ?_⟩
  refine wpAny_Call_Name_kw (ld_glob I hg hm ?_ hdb)
  refine PySem.W.callWith_KW0 (h₀ := X.base) I.ok.mod.kin hk hall ?_ hpl
  refine thn (hkw.run pos pins s σ H _ I h) fun ws s2 ⟨zs, H2, I2, rz, l1, l2, q2⟩ => ⟨I2.kIn, ?_⟩
  rw [hks]
  exact run_fnN (us := []) (vs := []) F hr hb hx I2 .nil rz rfl l2 q2
theorem p_knil : PK X [] (LA X.K evNil) := q_knil
theorem p_kcons {nm : Option Str} {kpos : Pos} {kws : List Keyword} (ha : PE X e (LE false X.K fa)) (hr : PK X kws (LA X.K fl)) : PK X (⟨nm, e, kpos⟩ :: kws) (LA X.K (evCons fa fl)) := q_kcons ha hr
/-- n values by place, then those by name: ord puts them into the parameters' order -/
def evCallN (n m : Nat) (ord : {α : Type} → List α → List α → List α) (g : List Val → Mem → Res Val) (fl fk : Sl → Mem → Res (List Val)) : Sl → Mem → Res Val := fun s M => (fl s M).bind fun vs M1 => (fk s M1).bind fun ws M2 =>
  if vs.length = n ∧ ws.length = m then g (ord vs ws) M2 else .bad
structure OrdOk (ord : {α : Type} → List α → List α → List α) : Prop where
  rel : ∀ {α β : Type} {R : α → β → Prop} {us us2 : List α} {ws ws2 : List β}, Paired R us ws → Paired R us2 ws2 → Paired R (ord us us2) (ord ws ws2)
theorem liftN2 {K : Fr} {n m np : Nat} {ord : {α : Type} → List α → List α → List α} (ok : OrdOk ord) {g : List Val → Mem → Res Val} (hl : ∀ xs M x M', g xs M = .ok x M' → xs.length = np) {σ : L2.St} {H : Hp} {Q : VK} (h : LE fr K (evCallN n m ord g fl fk) σ H Q) :
    tCallN n m (spF fr K np g) (fun us ws => ord us ws) E0 (LA K fl) (LA K fk) σ H Q := by
  obtain ⟨δ, M, F, μ, x, M', S, R, e0, k⟩ := h
  obtain ⟨vs, M1, e1, e0⟩ := bind_ok e0
  obtain ⟨ws, M2', e2, e0⟩ := bind_ok e0
  refine ⟨δ, M, F, μ, vs, M1, S, R, e1, fun F1 μ1 H1 v1 st1 S1 r1 => ⟨δ, M1, F1, μ1, ws, M2', S1, R.mono st1.fr st1.whole, e2, fun F2 μ2 H2 v2 st2 S2 r2 => ?_⟩⟩
  split at e0
  · rename_i hh
    have rr : RepVs K F2 μ2 (ord vs ws) (ord v1 v2) := RepVs.of (ok.rel (r1.mono st2.fr st2.whole).paired r2.paired)
    exact ⟨by rw [← r1.length]; exact hh.1, by rw [← r2.length]; exact hh.2, by rw [← rr.length, hl _ _ _ _ e0], _, M2', F2, μ2, x, M', S2, rr, e0, fun F' μ' H' v st S' p => k F' μ' H' v (st1.transE (st2.transE st)) S' (p.back fun a h => st1.up a (st2.up a h))⟩
  · cases e0
theorem p_callN {np k n mk : Nat} {f : Addr} {fn : FuncData} {x : Str} {st : Stmt} {p : Pos} {ps kn : List Str} {kws : List Keyword} {ord : {α : Type} → List α → List α → List α} {g : List Val → Mem → Res Val} (hl : ∀ xs M x M', g xs M = .ok x M' → xs.length = np) (F : Fun X.K x x st f fn)
    (G : FnOk X.prog X.w X.K X.mg X.base CX0 k f fn ps (spF fr X.K np g)) (hr : Room k X.A) (hm : X.mg x = some (.ref f)) (ok : OrdOk ord)
    (hb : KBn X.K fn ps n kn (fun us ws => ord us ws) (fun us ws => ord us ws)) (ha : PA X (e :: es) (LA X.K fl)) (hkw : PK X kws (LA X.K fk)) (hg : Gl X x := by rfl) (hall : (backToKw pos (keywordEach kws X.env)).all (·.1.isSome) = true := by rfl) (hks : (backToKw pos (keywordEach kws X.env)).filterMap (·.1) = kn := by rfl)
    (hdb : (x == ("__debug__" : Str)) = false := by decide +kernel) (hp : (e :: es).all plainArg = true := by rfl) (hany : (backToKw pos (keywordEach kws X.env)).any (·.1.isNone) = false := by rfl) (hmk : kn.length = mk := by rfl) :
    PE X (.Call (.Name x p) (e :: es) kws pos) (LE fr X.K (evCallN n mk ord g fl fk)) := by
  subst hmk
  have hp' := hp
  rw [List.all_cons, Bool.and_eq_true] at hp
  exact (pe_callN G hr hg hm F.kp hb pass0 ha hkw hall hks hdb (star_plain hp.1 es X.env) (by rw [star_any hp', hany]; rfl)).imp fun σ H Q h => liftN2 ok hl h
theorem liftN0 {K : Fr} {m np : Nat} {ord : {α : Type} → List α → List α → List α} (ok : OrdOk ord) {g : List Val → Mem → Res Val} (hl : ∀ xs M x M', g xs M = .ok x M' → xs.length = np) {σ : L2.St} {H : Hp} {Q : VK} (h : LE fr K (evCallN 0 m ord g evNil fk) σ H Q) :
    tCallN 0 m (spF fr K np g) (fun us ws => ord us ws) E0 tNil (LA K fk) σ H Q := by
  have z := liftN2 ok hl h
  obtain ⟨δ, M, F, μ, x, M', S, R, e0, k⟩ := z
  cases e0
  exact k F μ H [] (Step.refl _ _ _ _) S .nil
theorem p_callN0 {np k mk : Nat} {f : Addr} {fn : FuncData} {x : Str} {st : Stmt} {p : Pos} {ps kn : List Str} {kws : List Keyword} {ord : {α : Type} → List α → List α → List α} {g : List Val → Mem → Res Val} (hl : ∀ xs M x M', g xs M = .ok x M' → xs.length = np) (F : Fun X.K x x st f fn)
    (G : FnOk X.prog X.w X.K X.mg X.base CX0 k f fn ps (spF fr X.K np g)) (hr : Room k X.A) (hm : X.mg x = some (.ref f)) (ok : OrdOk ord)
    (hb : KBn X.K fn ps 0 kn (fun us ws => ord us ws) (fun us ws => ord us ws)) (hkw : PK X kws (LA X.K fk)) (hg : Gl X x := by rfl) (hall : (backToKw pos (keywordEach kws X.env)).all (·.1.isSome) = true := by rfl) (hks : (backToKw pos (keywordEach kws X.env)).filterMap (·.1) = kn := by rfl)
    (hdb : (x == ("__debug__" : Str)) = false := by decide +kernel) (hpl : ((backTo pos (starEach [] X.env)).any (·.1) || (backToKw pos (keywordEach kws X.env)).any (·.1.isNone)) = false := by rfl) (hmk : kn.length = mk := by rfl) :
    PE X (.Call (.Name x p) [] kws pos) (LE fr X.K (evCallN 0 mk ord g evNil fk)) := by
  subst hmk
  exact (pe_callN0 G hr hg hm F.kp hb pass0 hkw hall hks hdb hpl).imp fun σ H Q h => liftN0 ok hl h
/-! statements -/
def sEx (fa : Sl → Mem → Res Val) : Sl → Mem → Res Flow := fun s M => (fa s M).bind fun _ M1 => .ok (.nx s) M1
def sRet (fa : Sl → Mem → Res Val) : Sl → Mem → Res Flow := fun s M => (fa s M).bind fun v M1 => .ok (.ret v) M1
def sRetN : Sl → Mem → Res Flow := fun _ M => .ok (.ret (.d .non)) M
def sPass : Sl → Mem → Res Flow := fun s M => .ok (.nx s) M
def sBrk : Sl → Mem → Res Flow := fun s M => .ok (.brk s) M
def sCont : Sl → Mem → Res Flow := fun s M => .ok (.cont s) M
def sNever : Sl → Mem → Res Flow := fun _ _ => .bad
def sWhile (fT : Sl → Mem → Res Bool) (f : Sl → Mem → Res Flow) : Sl → Mem → Res Flow := fun s M => whileLoop fT f turns s M
theorem p_ex (he : PE X e (LE false X.K fa)) (hs : swapsWith e none pos.line X.env = pure false := by rfl) : PS X (.Expr e pos) (LS bs X.K (sEx fa)) := q_ex he hs
theorem p_ret (he : PE X e (LE false X.K fa)) : PS X (.Return (some e) pos) (LS bs X.K (sRet fa)) := q_ret he
theorem p_retN : PS X (.Return none pos) (LS bs X.K sRetN) := q_retN
theorem p_pass : PS X (.Pass pos) (LS bs X.K sPass) := q_pass
theorem p_brk : PS X (.Break pos) (LS bs X.K sBrk) := q_brk
theorem p_cont : PS X (.Continue pos) (LS bs X.K sCont) := q_cont
theorem p_never {st : Stmt} : PS X st (LS bs X.K sNever) := q_never
theorem p_ite {f g : Sl → Mem → Res Flow} {s1 s2 : List Stmt} (hc : PT X c (LT X.K (tst fc))) (h1 : PSs X s1 (LS bs X.K f)) (h2 : PSs X s2 (LS bs X.K g)) : PS X (.If c s1 s2 pos) (LS bs X.K (evIte (tst fc) f g)) := q_ite hc h1 h2
theorem p_snil : PSs X [] (LS bs X.K sPass) := q_snil
theorem p_while {body : List Stmt} {f : Sl → Mem → Res Flow} (hc : PT X c (LT X.K (tst fc))) (hb : PSs X body (LS bs X.K f)) (hx : X.xe = fun _ _ => False := by rfl) : PS X (.While c body [] pos) (LS bs X.K (sWhile (tst fc) f)) := q_while hx hc hb
theorem p_setLc {i : Nat} {y : Str} {py : Pos} {spos : Pos} {scope : Scope} {own : List (Str × Nat)} {ifs : List Expr} {o : List Nat} {t : Tg} {fI : Sl → Mem → Res (List D)} {fifs : Sl → Mem → Res Bool} (ho : ∀ i ∈ o, i ∈ own.map (·.2)) (hN : X.N.Nodup) (hi : PI X tg iter (LI X.K fI)) (ok : BlkOk X.N X.env.scope scope own)
    (hg : ∀ (s : Shared) (H : Hp) (C : Addr) (cl : List (Str × Addr)) (fp : List Addr), PG (X.blk s H scope (compEnvC scope cl C X.env) fp) tg (LG X.K t o)) (ht : ∀ (s : Shared) (H : Hp) (C : Addr) (cl : List (Str × Addr)) (fp : List Addr), PTs (X.blk s H scope (compEnvC scope cl C X.env) fp) ifs (LT X.K fifs))
    (he : ∀ (s : Shared) (H : Hp) (C : Addr) (cl : List (Str × Addr)) (fp : List Addr), PE (X.blk s H scope (compEnvC scope cl C X.env) fp) elt (LE false X.K fa)) (hy : X.N[i]? = some y := by rfl) (hyl : X.env.scope.names.lookup y = some .local := by rfl)
    (hsw : swapsWith (.ListComp elt [⟨tg, iter, ifs, 0⟩] scope pos) (some (.Name y py)) spos.line X.env = pure true := by rfl) (hc : X.calm = true := by rfl) (hs : ∀ x, foldedSetIterable iter X.env x = pure x := by intro _; rfl) :
    PS X (.Assign [.Name y py] (.ListComp elt [⟨tg, iter, ifs, 0⟩] scope pos) spos) (LS bs X.K (evAsg (evLc (own.map (·.2)) t fI fifs fa) (stN i))) := (q_setLc ho hc hN hy hyl hsw hi ok hg ht he hs).1
theorem p_setLcN {i : Nat} {y : Str} {py : Pos} {spos : Pos} {scope : Scope} {own : List (Str × Nat)} {ifs : List Expr} {o : List Nat} {t : Tg} {fI : Sl → Mem → Res (List D)} {fifs : Sl → Mem → Res Bool} (ho : ∀ i ∈ o, i ∈ own.map (·.2)) (hN : X.N.Nodup) (hi : PI X tg iter (LI X.K fI)) (ok : BlkOk X.N X.env.scope scope own)
    (hg : ∀ (s : Shared) (H : Hp) (C : Addr) (cl : List (Str × Addr)) (fp : List Addr), PG (X.blk s H scope (compEnvC scope cl C X.env) fp) tg (LG X.K t o)) (ht : ∀ (s : Shared) (H : Hp) (C : Addr) (cl : List (Str × Addr)) (fp : List Addr), PTs (X.blk s H scope (compEnvC scope cl C X.env) fp) ifs (LT X.K fifs))
    (he : ∀ (s : Shared) (H : Hp) (C : Addr) (cl : List (Str × Addr)) (fp : List Addr), PE (X.blk s H scope (compEnvC scope cl C X.env) fp) elt (LE false X.K fa)) (hy : X.N[i]? = some y := by rfl) (hyl : X.env.scope.names.lookup y = some .local := by rfl)
    (hsw : swapsWith (.ListComp elt [⟨tg, iter, ifs, 0⟩] scope pos) (some (.Name y py)) spos.line X.env = pure true := by rfl) (hc : X.calm = true := by rfl) (hs : ∀ x, foldedSetIterable iter X.env x = pure x := by intro _; rfl) :
    PS X (.Assign [.Name y py] (.ListComp elt [⟨tg, iter, ifs, 0⟩] scope pos) spos) (LS bs X.K (evAsg (newOf (evLc (own.map (·.2)) t fI fifs fa)) (stN i))) := (q_setLc ho hc hN hy hyl hsw hi ok hg ht he hs).2
/-! more, with what is shown by computing left to the end -/
theorem p_bin {op : Operator} {p : D → D → Option D} (ho : OpR X (binaryOp op) (r2D fr X.K p)) (ha : PE X a (LE false X.K fa)) (hb : PE X b (LE false X.K fb)) : PE X (.BinOp a op b pos) (LE fr X.K (ev2 p fa fb)) := q_bin ho ha hb
theorem p_neg (ha : PE X a (LE false X.K fa)) : PE X (.UnaryOp .USub a pos) (LE false X.K (ev1 negD fa)) := q_un ob_neg ha
theorem p_cmp {op : CmpOp} {p : D → D → Option D} (ho : OpR X (compareOp op) (r2D false X.K p)) (ha : PE X a (LE false X.K fa)) (hb : PE X b (LE false X.K fb)) (hm : behindInMarks op b = false := by rfl) : PE X (.Compare a [op] [b] pos) (LE false X.K (ev2 p fa fb)) := q_cmp ho ha hb hm
theorem p_cmp3 {op op' : CmpOp} {p q : D → D → Option D} (ho : OpR X (compareOp op) (r2D false X.K p)) (ho' : OpR X (compareOp op') (r2D false X.K q)) (ha : PE X a (LE false X.K fa)) (hb : PE X b (LE false X.K fb)) (hc : PE X c (LE false X.K fc))
    (hm : lastMarks [op, op'] [b, c] = false := by rfl) : PE X (.Compare a [op, op'] [b, c] pos) (LE false X.K (ev3 p q fa fb fc)) := q_cmp3 ho ho' ha hb hc hm
theorem p_and (ha : PE X a (LE false X.K fa)) (hb : PE X (.BoolOp .And (x1 :: rest) pos) (LE false X.K fb)) : PE X (.BoolOp .And (a :: x1 :: rest) pos) (LE false X.K (evAnd fa fb)) := q_and ha hb
theorem p_or (ha : PE X a (LE false X.K fa)) (hb : PE X (.BoolOp .Or (x1 :: rest) pos) (LE false X.K fb)) : PE X (.BoolOp .Or (a :: x1 :: rest) pos) (LE false X.K (evOr fa fb)) := q_or ha hb
theorem p_one {op} (ha : PE X a (LE false X.K fa)) : PE X (.BoolOp op [a] pos) (LE false X.K fa) := q_boolop1 ha
theorem p_cons (ha : PE X e (LE false X.K fa)) (hr : PA X es (LA X.K fl)) (hp : plainArg e = true := by rfl) : PA X (e :: es) (LA X.K (evCons fa fl)) := q_cons hp ha hr
theorem p_dcons (ha : PE X e (LE false X.K fa)) (hr : PA X es (LDs X.K fd)) (hp : plainArg e = true := by rfl) : PA X (e :: es) (LDs X.K (evConsD fa fd)) := q_dcons hp ha hr
theorem p_tup {k : Nat} (h : PA X es (LDs X.K fd)) : PE X (.Tuple es k pos) (LE false X.K (evTup fd)) := q_tup h
theorem p_lst (h : PA X es (LDs X.K fd)) : PE X (.List es pos) (LE true X.K (evLst fd)) := q_lst h
theorem p_callB {id : String} {x : Str} {pn : Pos} {p : List D → Option D} (hc : CallR X (.builtin id) (rLD fr X.K p)) (hm : X.mg x = none) (hv : bootBuiltins x = some (.builtin id)) (ha : PA X (e :: es) (LA X.K fl)) (hg : Gl X x := by rfl) (hpl : (e :: es).all plainArg = true := by rfl)
    (hn : x ≠ "__name__" := by decide +kernel) (hdb : (x == ("__debug__" : Str)) = false := by decide +kernel) : PE X (.Call (.Name x pn) (e :: es) [] pos) (LE fr X.K (evB p fl)) := q_callB hc hg hm hv ha hpl hn hdb
theorem p_callTy {T : String} {x : Str} {pn : Pos} {p : List D → Option D} (hc : CallR X (.type T) (rLD fr X.K p)) (hm : X.mg x = none) (hv : bootBuiltins x = some (.type T)) (ha : PA X (e :: es) (LA X.K fl)) (hg : Gl X x := by rfl) (hpl : (e :: es).all plainArg = true := by rfl)
    (hn : x ≠ "__name__" := by decide +kernel) (hdb : (x == ("__debug__" : Str)) = false := by decide +kernel) : PE X (.Call (.Name x pn) (e :: es) [] pos) (LE fr X.K (evB p fl)) := q_callTy hc hg hm hv ha hpl hn hdb
theorem p_isi (t : Ty) {T : Str} {pn pt : Pos} (hm : X.mg "isinstance" = none) (hmT : X.mg T = none) (hvT : bootBuiltins T = some (.type (tyName t))) (he : PE X e (LE false X.K fa)) (hg : Gl X "isinstance" := by rfl) (hgT : Gl X T := by rfl)
    (hp : plainArg e = true := by rfl) (hnT : T ≠ "__name__" := by decide +kernel) (hdT : (T == ("__debug__" : Str)) = false := by decide +kernel) : PE X (.Call (.Name "isinstance" pn) [e, .Name T pt] [] pos) (LE false X.K (ev1 (isiD t) fa)) := q_isi hg hm hgT hmT hvT hnT hdT he hp
theorem p_me {name : Str} {o : Expr} {apos : Pos} {p : D → List D → Option D} (tb : MeTab X fr name p) (ho : PE X o (LE false X.K fa)) (ha : PA X es (LA X.K fl)) (hb : notBare o = true := by rfl) (hpl : es.all plainArg = true := by rfl) (hl : es.length < 30 := by decide) (hline : (apos.endLine == pos.line) = true := by rfl) :
    PE X (.Call (.Attribute o name apos) es [] pos) (LE fr X.K (evM p fa fl)) := q_me tb ho ha hb hpl hl hline
theorem p_mu {name x : Str} (i : Nat) {id : String} {xpos apos : Pos} {m : Mu} (mf : MeFact X name "list" id (rMuD X.K m)) (ha : PA X es (LA X.K fl)) (hN : X.N[i]? = some x := by rfl) (hv : Vis X.env.scope x := by first | exact Or.inl rfl | exact Or.inr (Or.inl rfl) | exact Or.inr (Or.inr rfl)) (hd : (x == ("__debug__" : Str)) = false := by decide +kernel) (hcd : (x == ("__classdict__" : Str)) = false := by decide +kernel)
    (hpl : es.all plainArg = true := by rfl) (hl : es.length < 30 := by decide) (hline : (apos.endLine == pos.line) = true := by rfl) :
    PE X (.Call (.Attribute (.Name x xpos) name apos) es [] pos) (LE false X.K (evMu m i fl)) := q_mu mf hN hv hd hcd ha hpl hl hline
theorem p_sub (ha : PE X a (LE false X.K fa)) (hb : PE X b (LE false X.K fb)) (hs : isSlice b = false := by rfl) : PE X (.Subscript a b pos) (LE false X.K (ev2 subD fa fb)) := q_sub ob_sub_ix ha hb hs
theorem p_slL {p2 : Pos} (ha : PE X a (LE false X.K fa)) (hb : PE X b (LE false X.K fb)) : PE X (.Subscript a (.Slice (some b) none none p2) pos) (LE false X.K (ev2 (fun x y => sliceD x (some y) none) fa fb)) := q_slL sb_slice ha hb
theorem p_slH {p2 : Pos} (ha : PE X a (LE false X.K fa)) (hb : PE X b (LE false X.K fb)) : PE X (.Subscript a (.Slice none (some b) none p2) pos) (LE false X.K (ev2 (fun x y => sliceD x none (some y)) fa fb)) := q_slH sb_slice ha hb
theorem p_slLH {p2 : Pos} (ha : PE X a (LE false X.K fa)) (hb : PE X b (LE false X.K fb)) (hc : PE X c (LE false X.K fc)) : PE X (.Subscript a (.Slice (some b) (some c) none p2) pos) (LE false X.K (evSl fa fb fc)) := q_slLH sb_slice ha hb hc
/-! walks, targets -/
theorem p_it (he : PE X e (LE false X.K fa)) : PI X tg e (LI X.K (evIt fa)) := q_it he
theorem p_rng1 {p : Pos} (hm : X.mg "range" = none) (ha : PE X a (LE false X.K fa)) (hg : Gl X "range" := by rfl) (hp : plainArg a = true := by rfl) : PI X tg (.Call (.Name "range" p) [a] [] pos) (LI X.K (evRng (evCons fa evNil))) := q_rng1 hg hm ha hp
theorem p_rng2 {p : Pos} (hm : X.mg "range" = none) (ha : PE X a (LE false X.K fa)) (hb : PE X b (LE false X.K fb)) (hg : Gl X "range" := by rfl) (hp : plainArg a = true := by rfl) (hp2 : plainArg b = true := by rfl) : PI X tg (.Call (.Name "range" p) [a, b] [] pos) (LI X.K (evRng (evCons fa (evCons fb evNil)))) := q_rng2 hg hm ha hb hp hp2
theorem p_tgn (i : Nat) {x : Str} (hN : X.N.Nodup) (hi : X.N[i]? = some x := by rfl) (hx : Loc X.env.scope x := by first | exact Or.inl rfl | exact Or.inr rfl) (hf : X.fn x = true ∨ X.env.scope.names.lookup x = some .local := by first | exact .inl rfl | exact .inr rfl) : PG X (.Name x pos) (LG X.K (.n i) [i]) := q_tgn hN hi hx hf
theorem p_tgnil : PGs X [] (LGs X.K [] []) := q_tgsnil
theorem p_tgcons {t : Tg} {ts : List Tg} {o1 o2 : List Nat} (h1 : PG X e (LG X.K t o1)) (h2 : PGs X es (LGs X.K ts o2)) (hp : plainArg e = true := by rfl) : PGs X (e :: es) (LGs X.K (t :: ts) (o1 ++ o2)) := q_tgscons h1 h2 hp
theorem p_tgt {ts : List Tg} {o : List Nat} {kk : Nat} (h : PGs X es (LGs X.K ts o)) (hc : X.calm = true := by rfl) (hp : es.all plainArg = true := by rfl) (hl : es.length = ts.length := by rfl) : PG X (.Tuple es kk pos) (LG X.K (.t ts) o) := q_tgt hc h hp hl
theorem p_lc {scope : Scope} {own : List (Str × Nat)} {ifs : List Expr} {o : List Nat} {t : Tg} {fI : Sl → Mem → Res (List D)} {fifs : Sl → Mem → Res Bool} (ho : ∀ i ∈ o, i ∈ own.map (·.2)) (hN : X.N.Nodup) (hi : PI X tg iter (LI X.K fI)) (ok : BlkOk X.N X.env.scope scope own)
    (hg : ∀ (s : Shared) (H : Hp) (C : Addr) (cl : List (Str × Addr)) (fp : List Addr), PG (X.blk s H scope (compEnvC scope cl C X.env) fp) tg (LG X.K t o)) (ht : ∀ (s : Shared) (H : Hp) (C : Addr) (cl : List (Str × Addr)) (fp : List Addr), PTs (X.blk s H scope (compEnvC scope cl C X.env) fp) ifs (LT X.K fifs))
    (he : ∀ (s : Shared) (H : Hp) (C : Addr) (cl : List (Str × Addr)) (fp : List Addr), PE (X.blk s H scope (compEnvC scope cl C X.env) fp) elt (LE false X.K fa)) (hc : X.calm = true := by rfl) (hs : ∀ x, foldedSetIterable iter X.env x = pure x := by intro _; rfl) :
    PE X (.ListComp elt [⟨tg, iter, ifs, 0⟩] scope pos) (LE true X.K (evLc (own.map (·.2)) t fI fifs fa)) := q_lc ho hc hN hi ok hg ht he hs
/-! stores -/
theorem p_asgn (i : Nat) {y : Str} {py : Pos} (hN : X.N.Nodup) (he : PE X e (LE false X.K fa)) (hi : X.N[i]? = some y := by rfl) (hx : Loc X.env.scope y := by first | exact Or.inl rfl | exact Or.inr rfl) (hs : swapsWith e (some (.Name y py)) pos.line X.env = pure false := by rfl) (hf : X.fn y = true ∨ X.env.scope.names.lookup y = some .local := by first | exact .inl rfl | exact .inr rfl) :
    PS X (.Assign [.Name y py] e pos) (LS bs X.K (evAsg fa (stN i))) := q_asgn hN hi hx he hs hf
theorem p_mv (j i : Nat) {x y : Str} {px py : Pos} (hN : X.N.Nodup) (hj : X.N[j]? = some y := by rfl) (hy : Loc X.env.scope y := by first | exact Or.inl rfl | exact Or.inr rfl) (hi : X.N[i]? = some x := by rfl) (hv : Vis X.env.scope x := by first | exact Or.inl rfl | exact Or.inr (Or.inl rfl) | exact Or.inr (Or.inr rfl)) (hd : (x == ("__debug__" : Str)) = false := by decide +kernel) (hcd : (x == ("__classdict__" : Str)) = false := by decide +kernel)
    (hs : swapsWith (.Name x px) (some (.Name y py)) pos.line X.env = pure false := by rfl) (hf : X.fn y = true ∨ X.env.scope.names.lookup y = some .local := by first | exact .inl rfl | exact .inr rfl) : PS X (.Assign [.Name y py] (.Name x px) pos) (LS bs X.K (evMv bs j i)) := q_mv hN hj hy hi hv hd hcd hs hf
theorem p_an (i : Nat) {y : Str} (hN : X.N.Nodup) (hi : X.N[i]? = some y := by rfl) (hx : Loc X.env.scope y := by first | exact Or.inl rfl | exact Or.inr rfl) (hf : X.fn y = true ∨ X.env.scope.names.lookup y = some .local := by first | exact .inl rfl | exact .inr rfl) : PG X (.Name y pos) (LGa X.K (stN i)) := q_an hN hi hx hf
theorem p_asub (i : Nat) {x : Str} {px : Pos} (ha : PE X a (LE false X.K fa)) (hN : X.N[i]? = some x := by rfl) (hv : Vis X.env.scope x := by first | exact Or.inl rfl | exact Or.inr (Or.inl rfl) | exact Or.inr (Or.inr rfl)) (hd : (x == ("__debug__" : Str)) = false := by decide +kernel) (hcd : (x == ("__classdict__" : Str)) = false := by decide +kernel) (hsl : isSlice a = false := by rfl) :
    PG X (.Subscript (.Name x px) a pos) (LGa X.K (stSub i fa)) := q_asub pset_list hN hv hd hcd ha hsl
theorem p_anil : PGs X [] (LGas X.K stNil) := q_anil
theorem p_acons {st : Val → Sl → Mem → Res Sl} {sts : List D → Sl → Mem → Res Sl} (h1 : PG X e (LGa X.K st)) (h2 : PGs X es (LGas X.K sts)) (hp : plainArg e = true := by rfl) : PGs X (e :: es) (LGas X.K (stCons st sts)) := q_acons h1 h2 hp
theorem p_atup {sts : List D → Sl → Mem → Res Sl} {kk n : Nat} (h : PGs X es (LGas X.K sts)) (hn : es.length = n := by rfl) (hc : X.calm = true := by rfl) (hp : es.all plainArg = true := by rfl) : PG X (.Tuple es kk pos) (LGa X.K (stTup n sts)) := by
  subst hn
  exact q_atup hc h hp
theorem p_asg {st : Val → Sl → Mem → Res Sl} (he : PE X e (LE false X.K fa)) (hg : PG X tg (LGa X.K st)) (hs : swapsWithSole [tg] e pos.line X.env = pure false := by rfl) (hw : swappedStores [tg] e X.env = pure none := by rfl) (hp : plainArg tg = true := by rfl) :
    PS X (.Assign [tg] e pos) (LS bs X.K (evAsg fa st)) := q_asg he hg hs hw hp
theorem p_par2 (i j : Nat) {x y : Str} {px py pt : Pos} {kt k2 pt2} (hN : X.N.Nodup) (ha : PA X [a, b] (LA X.K fl)) (hc : X.calm = true := by rfl) (hi : X.N[i]? = some x := by rfl) (hj : X.N[j]? = some y := by rfl) (hij : i ≠ j := by decide)
    (hx : X.env.scope.names.lookup x = some .local := by rfl) (hy : X.env.scope.names.lookup y = some .local := by rfl)
    (hw : swappedStores [.Tuple [.Name x px, .Name y py] kt pt] (.Tuple [a, b] k2 pt2) X.env = pure (some [x, y]) := by rfl) : PS X (.Assign [.Tuple [.Name x px, .Name y py] kt pt] (.Tuple [a, b] k2 pt2) pos) (LS bs X.K (evPar [i, j] fl)) := q_par2 hc hN hi hj hij hx hy ha hw
theorem p_par3 (i j l : Nat) {x y z : Str} {px py pz pt : Pos} {kt k2 pt2} (hN : X.N.Nodup) (ha : PA X [a, b, c] (LA X.K fl)) (hc : X.calm = true := by rfl) (hi : X.N[i]? = some x := by rfl) (hj : X.N[j]? = some y := by rfl) (hl : X.N[l]? = some z := by rfl) (hij : i ≠ j := by decide) (hil : i ≠ l := by decide) (hjl : j ≠ l := by decide)
    (hx : X.env.scope.names.lookup x = some .local := by rfl) (hy : X.env.scope.names.lookup y = some .local := by rfl) (hz : X.env.scope.names.lookup z = some .local := by rfl)
    (hw : swappedStores [.Tuple [.Name x px, .Name y py, .Name z pz] kt pt] (.Tuple [a, b, c] k2 pt2) X.env = pure (some [x, y, z]) := by rfl) : PS X (.Assign [.Tuple [.Name x px, .Name y py, .Name z pz] kt pt] (.Tuple [a, b, c] k2 pt2) pos) (LS bs X.K (evPar [i, j, l] fl)) := q_par3 hc hN hi hj hl hij hil hjl hx hy hz ha hw
theorem p_names0 : PGs X [] (gNs []) := q_names0
theorem p_names (i : Nat) {y : Str} {is : List Nat} {p : Pos} (hN : X.N.Nodup) (h : PGs X es (gNs is)) (hi : X.N[i]? = some y := by rfl) (hx : Loc X.env.scope y := by first | exact Or.inl rfl | exact Or.inr rfl) (hf : X.fn y = true ∨ X.env.scope.names.lookup y = some .local := by first | exact .inl rfl | exact .inr rfl) : PGs X (.Name y p :: es) (gNs (i :: is)) := q_names hN hi hx hf h
theorem p_parT {is : List Nat} {ns vs : List Expr} {kt k2 : Nat} {pt pt2 : Pos} (ha : PA X vs (LA X.K fl)) (hg : PGs X ns (gNs is)) (hc : X.calm = true := by rfl) (hp : ns.all plainArg = true := by rfl) (hl : ns.length = is.length := by rfl) (hbig : ns.length ≤ 100 := by decide)
    (hw : swappedStores [.Tuple ns kt pt] (.Tuple vs k2 pt2) X.env = pure none := by rfl) : PS X (.Assign [.Tuple ns kt pt] (.Tuple vs k2 pt2) pos) (LS bs X.K (evPar is fl)) := q_parT hc ha hg hp hl hbig hw
theorem p_scons {st : Stmt} {r : List Stmt} {f g : Sl → Mem → Res Flow} (h1 : PS X st (LS bs X.K f)) (h2 : PSs X r (LS bs X.K g)) : PSs X (st :: r) (LS bs X.K (evSeq f g)) := q_scons h1 h2
theorem p_for {body : List Stmt} {o : List Nat} {t : Tg} {fI : Sl → Mem → Res (List D)} {f : Sl → Mem → Res Flow} (hi : PI X tg iter (LI X.K fI)) (hg : PG X tg (LG X.K t o)) (hb : PSs X body (LS bs X.K f)) (hx : X.xe = fun _ _ => False := by rfl) (hc : X.calm = true := by rfl) (hs : ∀ x, foldedSetIterable iter X.env x = pure x := by intro _; rfl) :
    PS X (.For tg iter body [] pos) (LS bs X.K (evFor t fI f)) := q_for hx hc hi hg hb hs
/-! how a def's keywords bind -/
theorem kbn_mk {K : Fr} {x : Str} {st : Stmt} {f : Addr} {fn : FuncData} {ps ks : List Str} {n : Nat} {ord : {α : Type} → List α → List α → List α} (F : Fun K x x st f fn) (ok : OrdOk ord)
    (h : ∀ (kV doc pm : Value) (an : Option Addr) (cdv ct : Value) (us ws : List Value), us.length = n → ws.length = ks.length → bindArgs (PySem.W.fnOf x x (defArgs st) (defBody st) (defScope st) .none kV doc pm an cdv ct) ⟨us, ks.zip ws⟩ = pure (ps.zip (ord us ws))) :
    KBn K fn ps n ks (fun us ws => ord us ws) (fun us ws => ord us ws) := by
  obtain ⟨oc, od, kV, doc, pm, an, cdv, ct, osl, rfl, lk, hcd⟩ := F.ex
  exact ⟨fun s us ws _ l1 l2 => .of_eq (h kV doc pm an cdv ct us ws l1 l2), fun r1 r2 => ok.rel r1 r2⟩
end
end DL
end P_DL10
section P_DL11
set_option Elab.async false
set_option linter.all false
set_option maxRecDepth 100000
set_option maxHeartbeats 1000000
/-! The head, and what it rests on. -/
namespace DL
open PySem PySem.Spec PyProof.Rows L2
/-- positional values and those by name, in the parameters' order -/
def pickO (is : List (Bool × Nat)) {α : Type} (us ws : List α) : List α := is.filterMap fun p => if p.1 then ws[p.2]? else us[p.2]?
theorem pickO_ok (is : List (Bool × Nat)) : OrdOk (@pickO is) where
  rel := by
    intro α β R us us2 ws ws2 h1 h2
    unfold pickO
    induction is with
    | nil => exact .nil
    | cons p is ih =>
      simp only [List.filterMap_cons]
      have key : ∀ {u1 : List α} {w1 : List β}, Paired R u1 w1 → Paired R (match u1[p.2]? with | none => List.filterMap (fun p : Bool × Nat => if p.1 = true then us2[p.2]? else us[p.2]?) is | some b => b :: List.filterMap (fun p : Bool × Nat => if p.1 = true then us2[p.2]? else us[p.2]?) is)
          (match w1[p.2]? with | none => List.filterMap (fun p : Bool × Nat => if p.1 = true then ws2[p.2]? else ws[p.2]?) is | some b => b :: List.filterMap (fun p : Bool × Nat => if p.1 = true then ws2[p.2]? else ws[p.2]?) is) := fun {u1 w1} h => by
        rcases Paired.getP h p.2 with ⟨u, w, e1, e2, r⟩ | ⟨e1, e2⟩
        · rw [e1, e2]; exact .cons r ih
        · rw [e1, e2]; exact ih
      cases p.1 with
      | true => exact key h2
      | false => exact key h1
/-- what a block asks of its names, computed -/
def blkB (N : List Str) (sc scope : Scope) (own : List (Str × Nat)) : Bool :=
  scope.names.all (fun y => decide (scope.names.lookup y.1 = some y.2)) && own.all (fun p => decide (N[p.2]? = some p.1)) &&
  scope.names.all (fun y => !decide (y.2 = .free) || decide (sc.names.lookup y.1 = some .cell) || decide (sc.names.lookup y.1 = some .free)) &&
  scope.names.all (fun y => !(decide (y.2 = .local) || decide (y.2 = .cell)) || decide (y.1 ∈ own.map (·.1)) || decide (y.1 ∉ N))
theorem blk_mk {N : List Str} {sc scope : Scope} {own : List (Str × Nat)} (h1 : scope.kind = .function) (h : blkB N sc scope own = true) : BlkOk N sc scope own := by
  unfold blkB at h
  simp only [Bool.and_eq_true, List.all_eq_true, decide_eq_true_eq, Bool.or_eq_true, Bool.not_eq_true', decide_eq_false_iff_not, Bool.or_eq_false_iff] at h
  obtain ⟨⟨⟨a, b⟩, c⟩, d⟩ := h
  refine ⟨h1, a, b, fun y hy e => ?_, fun y hy e => ?_⟩
  · rcases c y hy with (z | z) | z
    · exact absurd e z
    · exact .inl z
    · exact .inr z
  · rcases d y hy with (z | z) | z
    · rcases e with e | e
      · exact absurd e z.1
      · exact absurd e z.2
    · exact .inl z
    · exact .inr z
theorem mk_fun {K : Fr} {h : Heap} {mg : Str → Option Value} {x : Str} {st : Stmt} {f : Addr} {oc kV dc pm cd ct : Value} {od an : Option Addr} {sl : Array (Option Value)} (X : K.In h) (G : h.Ns mainGlobals mg)
    (a : PySem.W.nsIn K mainGlobals x = some (some (.ref f))) (l : K.lookup f = some ⟨oc, od, .func (PySem.W.fnOf x x (defArgs st) (defBody st) (defScope st) .none kV dc pm an cd ct), sl⟩) (c : PySem.W.codeIn K cd x = true) (k : PySem.W.keepIn K (.ref f) = true) :
    ∃ f fd, mg x = some (.ref f) ∧ Fun K x x st f fd := ⟨f, _, PySem.W.mg_of X G a, fun_mk l c k⟩
theorem mk_none {K : Fr} {h : Heap} {mg : Str → Option Value} {x : Str} (X : K.In h) (G : h.Ns mainGlobals mg) (a : PySem.W.nsIn K mainGlobals x = some none) : mg x = none := PySem.W.mg_none_of X G a
theorem mk_cstI {K : Fr} {h : Heap} {mg : Str → Option Value} {x : Str} {i : Int} {t : Tok} (X : K.In h) (G : h.Ns mainGlobals mg) (a : PySem.W.nsIn K mainGlobals x = some (some (.int i t))) : Cst K mg x (.int i) := ⟨_, .int i, PySem.W.mg_of X G a, ⟨t, rfl⟩, fun _ => .int i⟩
theorem mk_cstS {K : Fr} {h : Heap} {mg : Str → Option Value} {x z : Str} {s : List Char} {t : Tok} (X : K.In h) (G : h.Ns mainGlobals mg) (a : PySem.W.nsIn K mainGlobals x = some (some (.str z t))) (e : z = enc s := by decide +kernel) (hl : s.length ≤ 1000 := by decide +kernel) : Cst K mg x (.str s) := by
  subst e
  exact ⟨_, .str (enc s), PySem.W.mg_of X G a, ⟨t, rfl⟩, fun _ => .str s (Nat.le_trans hl (by decide))⟩
theorem law_binds {K : Fr} {st : Stmt} {f : Addr} {fd : FuncData} (F : Fun K "law" "law" st f fd) (h : ∀ (kV doc pm : Value) (an : Option Addr) (cdv ct : Value) (u : Value), bindArgs (PySem.W.fnOf "law" "law" (defArgs st) (defBody st) (defScope st) .none kV doc pm an cdv ct) ⟨[u], []⟩ = pure [(("script" : Str), u)])
    (s : Shared) (u : Value) : BindsTo s fd ⟨[u], []⟩ [(("script" : Str), u)] := by
  obtain ⟨oc, od, kV, doc, pm, an, cdv, ct, osl, rfl, lk, hcd⟩ := F.ex
  exact .of_eq (h kV doc pm an cdv ct u)
theorem reps_ints {K : Fr} {F : Hp} : ∀ ns : List Int, Reps K F (ns.map D.int) (ns.map V.int)
  | [] => .nil
  | n :: ns => .cons (.int n) (reps_ints ns)
theorem walk80 {l : PySem.W.OpenLaw} {q : Program} {loose : List Str} {XP : (Str → Option Value) → Heap → Prop} {YP : World → Heap → Prop} {d : DefRec} {K : Params → PySem.W.Frag} (g : List Val → Mem → Res Val)
    (hg : ∀ ns : List Int, ns.length ≤ 63 → g [.d (.scr (ns.map D.int))] [] = .ok (.d (.bl true)) []) (hn : l.most = some 63) (hdf : d.params.defaults = [])
    (hY : ∀ (w : World) (h : Heap), YP w h → (K w.params).In h)
    (F : ∀ (w : World) (mg : Str → Option Value) (fa : Addr) (h : Heap), (K w.params).In h → h.Ns mainGlobals mg → mg d.name = some (.ref fa) →
      ∃ fd : FuncData, (∀ (s : Shared) (u : Value), BindsTo s fd ⟨[u], []⟩ [("script", u)]) ∧ ∀ base : Heap, FnOk l.prog w (K w.params) mg base CX0 80 fa fd ["script"] (spF false (K w.params) 1 g)) :
    PySem.W.WalkO q loose XP YP l.row.toRowW d [] (fun f vs => PySem.call f vs) :=
  L2.walk_of (n := 63) (k := 80) (x := "script") (CX := fun _ => CX0) (sp := fun w => spF false (K w.params) 1 g) hn (by decide) hdf ⟨rfl, by decide, by decide⟩ hY
    (fun w mg fa h KX G hm => let ⟨fd, hb, hF⟩ := F w mg fa h KX G hm; ⟨fd, hb, fun base _ _ => hF base⟩)
    (fun w H a ns hl _ hS => ⟨rfl, [.d (.scr (ns.map D.int))], [], H, [], .d (.bl true), [],
      ⟨Sub.refl H, fun a h => absurd h (by simp), List.nodup_nil, rfl, fun i o b h => by simp at h⟩,
      .cons (Rep.scr (by rw [List.length_map]; exact Nat.le_trans hl (by decide)) hS (reps_ints ns)) .nil, hg ns hl, fun F' μ' H' v st S' p => by
        have p' : Rep (K w.params) F' (.bl true) v := p
        cases p'; rfl⟩) fun _ _ _ _ _ z => z
section
variable {X : Cx} {fa : Sl → Mem → Res Val} {e a tg : Expr} {pos : Pos}
/-- e[::-1] -/
def rRev (K : Fr) : V → Hp → VK → Prop := fun x H Q => (∃ a xs, x = .ref a ∧ SqL K H a xs ∧ ∀ p, H p = none → Q (.ref p) (upd H p (.lst xs.reverse))) ∨ ∃ t : List Char, x = .str (enc t) ∧ t.length ≤ big ∧ Q (.str (enc t.reverse)) H
theorem str_all (x : Str) : (List.range x.length).filterMap (x.cps[·]?) = x.cps.toList := PySem.W.krv_all x.cps
theorem str_rev (t : List Char) : ((Builtin.Str.strSliceIndices none none (-1) (enc t).length).filterMap ((enc t).cps[·]?)).toArray = (enc t.reverse).cps := by
  have e : Builtin.Str.strSliceIndices none none (-1) (enc t).length = sliceRange (((enc t).length : Int) - 1) (-1) (-1) := rfl
  rw [e, PySem.W.krv_sliceRange, PySem.W.krv_range, List.filterMap_reverse, str_all]
  show (t.map Char.toNat).reverse.toArray = (t.reverse.map Char.toNat).toArray
  rw [List.map_reverse]
theorem pe_revA {te : TE} {k : Nat} {p1 p2 p3 : Pos} (he : PE X e te) : PE X (.Subscript e (.Slice none none (some (.UnaryOp .USub (.Constant (.int 1) k p1) p2)) p3) pos) (tUn (rRev X.K) te) := by
  refine ⟨fun pins s σ H Q I h => ?_⟩
  refine Subscript_ (thn (he.run pins s σ H _ I h) fun v s1 ⟨x, H1, I1, r1, q1⟩ => ?_)
  have hst : PO X (some (.UnaryOp .USub (.Constant (.int 1) k p1) p2)) (tPart (tUn (rU fun i => .int (-i)) (tC (.int 1)))) := po_some (pe_un un_neg pe_int)
  refine wpAny_Slice (thn (po_none.run pins s1 σ H1 (fun o H2 => o = none ∧ H2 = H1) I1 ⟨rfl, rfl⟩) fun vl s2 ⟨l, H2, I2, pl, el, e2⟩ => ?_)
  subst el e2
  refine thn (po_none.run pins s2 σ H2 (fun o H3 => o = none ∧ H3 = H2) I2 ⟨rfl, rfl⟩) fun vu s3 ⟨u, H3, I3, pu, eu, e3⟩ => ?_
  subst eu e3
  refine thn (hst.run pins s3 σ H3 (fun o H4 => o = some (-1) ∧ H4 = H3) I3 ⟨1, rfl, -1, rfl, rfl, rfl⟩) fun vs s4 ⟨o, H4, I4, ps, eo, e4⟩ => ?_
  subst eo e4
  have I5 : L2.Inv X pins σ H4 { s4 with heap := s4.heap.push { cls := .type "slice", data := .fields #[vl, vu, vs] } } := I4.kept (t' := s4.toks) fun b ob q => Heap.get?_push_of_some _ q
  rcases q1 with ⟨a, xs, ex, hx, q⟩ | ⟨t, ex, hz, q⟩
  · subst ex
    cases r1
    obtain ⟨its, r, ht, hz⟩ := I5.list hx
    have hlen := r.length
    show wpAny (model X.prog X.w) X.A (subscriptTail e (.Slice none none (some (.UnaryOp .USub (.Constant (.int 1) k p1) p2)) p3) (.ref a) (.ref s4.heap.objs.size)) (EP X pins σ Q) X.xe { s4 with heap := s4.heap.push { cls := .type "slice", data := .fields #[vl, vu, vs] } }
    refine tail_any (ops := [.ref a, .ref s4.heap.objs.size]) ht.isList.typeIs (PySem.slot_list_getitem.lookup) ?_ (by with_unfolding_all rfl)
    refine wpAny_getItem_list_slice ht.isList (Heap.IsSliceOf.new _ vl vu vs) pl pu ps (by decide) ?_ (by rw [List.size_toArray]; omega)
    rw [PySem.W.krv_pick]
    refine ⟨.ref _, _, I5.laid (t' := s4.toks) (o := .lst xs.reverse) (fun b ob q => Heap.get?_push_of_some _ q) (Nat.le_refl _) ?_, rfl, q _ (I5.hok.fresh (Nat.le_refl _))⟩
    exact ⟨by rw [List.length_reverse]; exact hz, _, 0, r.reverse, Heap.get?_push_size _ rfl⟩
  · subst ex
    obtain ⟨tk, rfl⟩ := r1
    obtain ⟨l, rfl, hl⟩ := IsPart.raw pl
    obtain ⟨u, rfl, hu⟩ := IsPart.raw pu
    obtain ⟨st, rfl, hs⟩ := IsPart.raw ps
    have el : l = none := by cases l <;> first | rfl | cases hl
    have eu : u = none := by cases u <;> first | rfl | cases hu
    subst el eu
    show wpAny (model X.prog X.w) X.A (subscriptTail e (.Slice none none (some (.UnaryOp .USub (.Constant (.int 1) k p1) p2)) p3) (.str (enc t) tk) (.ref s4.heap.objs.size)) (EP X pins σ Q) X.xe { s4 with heap := s4.heap.push { cls := .type "slice", data := .fields #[partValue none, partValue none, partValue st] } }
    refine tail_any (ops := [.str (enc t) tk, .ref s4.heap.objs.size]) (typeIs_str _ _ _) (F.slot_str_getitem.lookup) ?_ (by with_unfolding_all rfl)
    refine wpAny_getItem_str_slice (l := none) (u := none) (st := st) ⟨_, Heap.get?_push_size _ rfl, rfl, rfl⟩ (by rw [hs]; rfl) ?_
    unfold sliceMade slicePicked
    rw [hs]
    show Made.post (if ((-1 : Int) == 1 && _) = true then _ else Made.str ⟨((Builtin.Str.strSliceIndices none none (-1) (enc t).length).filterMap ((enc t).cps[·]?)).toArray⟩) _ _
    rw [if_neg (by simp), str_rev]
    exact ⟨by show (enc t.reverse).length ≤ sizeLine; rw [enc_length, List.length_reverse]; exact big_ge hz, .str _, H4, I5.tok _, ⟨_, rfl⟩, q⟩
theorem p_rev {k : Nat} {p1 p2 p3 : Pos} (he : PE X e (LE false X.K fa)) : PE X (.Subscript e (.Slice none none (some (.UnaryOp .USub (.Constant (.int 1) k p1) p2)) p3) pos) (LE false X.K (ev1 revD fa)) := by
  refine (pe_revA he).imp fun σ H Q h => ?_
  have z := lift1 h
  obtain ⟨δ, M, F, μ, x, M', S, R, e0, k⟩ := z
  refine ⟨δ, M, F, μ, x, M', S, R, e0, fun F1 μ1 H1 v1 st1 S1 r1 => ?_⟩
  obtain ⟨F3, x3, d, sb, rx, hp3, q⟩ := k F1 μ1 H1 v1 st1 S1 r1
  cases x3 with
  | str t =>
    cases hp3
    obtain ⟨rfl, hl⟩ := repT_str rx
    exact .inr ⟨t, rfl, hl, postSame sb q (.str _ (by rw [List.length_reverse]; exact hl))⟩
  | lst l =>
    cases hp3
    obtain ⟨a, as, rfl, ha, ra, la⟩ := repT_lst sb rx
    exact .inl ⟨a, as, rfl, SqL.of ha, fun p hp => postLst sb q (by rw [List.length_reverse]; exact la) ra.reverse hp⟩
  | _ => cases hp3
def itemsE : D → Option (List D)
  | .lst l => some l
  | .scr l => some l
  | .str s => some (s.map fun c => .str [c])
  | _ => none
def evEnm (fa : Sl → Mem → Res Val) : Sl → Mem → Res (List D) := fun s M => (fa s M).bind fun v M1 => match v with
  | .d x => Res.of ((itemsE x).map (enumFrom 0)) M1
  | _ => .bad
/-- the signs of a text, each in a new pair -/
def Itse (z : Str) : L2.It :=
  ⟨fun i _ => i < z.cps.size, fun i H v H' => ∃ T c, v = .ref T ∧ H T = none ∧ H' = upd H T (.tup [.int (i : Nat), .str ⟨#[c]⟩]) ∧ z.cps[i]? = some c, fun i _ => i = z.cps.size⟩
theorem turn_enumS {P : Program} {w : World} {K : Fr} {elts : List Expr} {kk : Nat} {tpos : Pos} (z : Str) (t : Tok) (e it : Addr) :
    Turn P w K (.Tuple elts kk tpos) (Itse z) [e, it] e (fun i h => (∃ old, IsEnum h e it ((i : Nat) : Int) old) ∧ h.IsStrIter it (strIterType z) z t i ∧ e ≠ it) where
  mem := by simp
  obj := fun i h st b hb => by
    obtain ⟨⟨old, he⟩, ⟨o, ho, hc, hd⟩, _⟩ := st
    have e' : b = e ∨ b = it := by simpa using hb
    rcases e' with z | z
    · rw [z]; exact ⟨_, he, fun v q => nomatch q⟩
    · rw [z]; exact ⟨o, ho, fun v q => by rw [hd] at q; cases q⟩
  keep := fun i h h' st k => let ⟨⟨old, he⟩, ⟨o, ho, r⟩, hne⟩ := st; ⟨⟨old, k e (by simp) _ he⟩, ⟨o, k it (by simp) o ho, r⟩, hne⟩
  item := by
    intro X hP hw hK hc i pins s σ H E I hf st hg
    subst hP hw hK
    obtain ⟨⟨old, he⟩, hit, hne⟩ := st
    have hel : e < s.heap.objs.size := Heap.lt_size he
    have hil : it < s.heap.objs.size := by obtain ⟨_, q, _⟩ := hit; exact Heap.lt_size q
    refine wpAny_pyNext_enum_itemD (Draws.text (A := X.A.in1) (I.ok.hd hc) it z t) he hit hg hne (by simpa using hne) fun x h' tk hP ho hit' hT hsz hk => ?_
    obtain ⟨c, u, hcx, rfl⟩ := hP
    refine ⟨_, rfl, wpAny_letOwnedTupleGo_enum (s := { s with heap := h', toks := tk + 1 }) ho fun h'' he' sb => ?_⟩
    have hT2 : h''.get? s.heap.objs.size = some { cls := .type "tuple", data := .seq #[.int i tk, .str ⟨#[c]⟩ u] } := (sb.2 _ (Nat.ne_of_gt hel)).trans hT
    have new : ObjOk X.prog X.w (upd H s.heap.objs.size (.tup [.int (i : Nat), .str ⟨#[c]⟩])) h'' s.heap.objs.size (.tup [.int (i : Nat), .str ⟨#[c]⟩]) :=
      ⟨by show 2 ≤ sizeLine; decide, [.int i tk, .str ⟨#[c]⟩ u], .cons ⟨_, rfl⟩ (.cons ⟨_, rfl⟩ .nil), ⟨_, hT2, rfl, _, rfl⟩⟩
    have I1 : L2.Inv X pins σ (upd H s.heap.objs.size (.tup [.int (i : Nat), .str ⟨#[c]⟩])) { s with heap := h'', toks := tk + 1 } :=
      I.turnedNew (ch := [e, it]) (fun b ob hb q => (sb.2 b (fun z => hb (by simp [z]))).trans (hk b ob (fun z => hb (by simp [z])) (fun z => hb (by simp [z])) q)) hf (Nat.le_refl _) new
    refine ⟨.ref s.heap.objs.size, _, I1, rfl, ⟨_, c, rfl, I.hok.fresh (Nat.le_refl _), rfl, hcx⟩, ⟨⟨.str ⟨#[c]⟩ u, ?_⟩, ?_, hne⟩, fun b hb => ?_⟩
    · have e1 : ((i + 1 : Nat) : Int) = (i : Int) + 1 := by omega
      rw [e1]; exact he'
    · obtain ⟨o, ho, r⟩ := hit'
      exact ⟨o, (sb.2 it (Ne.symm hne)).trans ho, r⟩
    · have hb' : b < s.heap.objs.size := by
        have e' : b = e ∨ b = it := by simpa using hb
        rcases e' with z | z
        · rw [z]; exact hel
        · rw [z]; exact hil
      rw [upd_ne (Nat.ne_of_lt hb')]
      exact (hf b hb).1
  done := by
    intro X hP hw hK hc i pins s σ H E I hf st hg
    subst hP hw hK
    obtain ⟨⟨old, he⟩, hit, hne⟩ := st
    have hg' : i = z.cps.size := hg
    rw [hg'] at hit
    obtain ⟨f0, f1, f2, f3, f4, f5⟩ := hf it (by simp)
    exact wpAny_pyNext_enum_endD (Draws.text (A := X.A.in1) (I.ok.hd hc) it z t) he hit fun h' eb => ⟨rfl, I.turned (t' := s.toks) (fun b o hb q => eb b o hb q) f0 f1 f3 f4 f5⟩
  self := fun A i s Q E st h => let ⟨⟨_, he⟩, _⟩ := st; wpAny_pyIter_enum he h
/-- enumerate(v): a list or a text -/
def iEnm (K : Fr) (ta : TA) : TI := fun σ H R => ta σ H fun vs H1 => ∃ x, vs = [x] ∧ ((∃ a xs, x = .ref a ∧ SqL K H1 a xs ∧ R (Ite K a) H1) ∨ ∃ z, x = .str z ∧ R (Itse z) H1)
theorem pi_enm {ta : TA} {p tpos : Pos} {elts : List Expr} {kk : Nat} (hg : Gl X "enumerate") (hm : X.mg "enumerate" = none) (he : PA X [e] ta) (hp : plainArg e = true) : PI X (.Tuple elts kk tpos) (.Call (.Name "enumerate" p) [e] [] pos) (iEnm X.K ta) := by
  refine ⟨fun pins s σ H R I h => ?_⟩
  refine Call_ (ld_blt I hg hm boot_enumerate (PyProof.Rows.callWith_type1 (thn (he.run pos pins s σ H _ I h) fun us s1 ⟨vs, H1, I1, r1, q1⟩ => ?_) (star_plain hp [] X.env) rfl))
  obtain ⟨x, ex, q1⟩ := q1
  subst ex
  cases r1 with
  | cons r rr =>
    cases rr
    rcases q1 with ⟨a, xs, rfl, hq, q⟩ | ⟨z, rfl, q⟩
    · cases r
      obtain ⟨its, rv, p', hz⟩ := I1.list hq
      refine call_enumerate_list p'.isList fun h' he hit hsz hk => wpAny_pyIter_enum he ?_
      have I2 : L2.Inv X pins σ H1 { s1 with heap := h' } := I1.kept (t' := s1.toks) hk
      refine ⟨s1.heap.objs.size + 1, [s1.heap.objs.size + 1, s1.heap.objs.size], _, _, H1, rfl, I2, turn_enum a (s1.heap.objs.size + 1) s1.heap.objs.size, ⟨⟨.none, he⟩, hit, Nat.succ_ne_self _⟩, fun b hb => ?_, q⟩
      have e' : b = s1.heap.objs.size + 1 ∨ b = s1.heap.objs.size := by simpa using hb
      have hle : s1.heap.objs.size ≤ b := by
        rcases e' with z | z
        · rw [z]; exact Nat.le_add_right _ _
        · rw [z]; exact Nat.le_refl _
      exact I1.fpOk hle (I1.hok.fresh hle)
    · obtain ⟨t, rfl⟩ := r
      refine call_enumerate_str fun h' he hit hsz hk => wpAny_pyIter_enum he ?_
      have I2 : L2.Inv X pins σ H1 { s1 with heap := h' } := I1.kept (t' := s1.toks) hk
      refine ⟨s1.heap.objs.size + 1, [s1.heap.objs.size + 1, s1.heap.objs.size], _, _, H1, rfl, I2, turn_enumS z t (s1.heap.objs.size + 1) s1.heap.objs.size, ⟨⟨.none, he⟩, hit, Nat.succ_ne_self _⟩, fun b hb => ?_, q⟩
      have e' : b = s1.heap.objs.size + 1 ∨ b = s1.heap.objs.size := by simpa using hb
      have hle : s1.heap.objs.size ≤ b := by
        rcases e' with z | z
        · rw [z]; exact Nat.le_add_right _ _
        · rw [z]; exact Nat.le_refl _
      exact I1.fpOk hle (I1.hok.fresh hle)
theorem enumFrom_len : ∀ (l : List D) (i : Int), (enumFrom i l).length = l.length
  | [], _ => rfl
  | _ :: l, i => congrArg (· + 1) (enumFrom_len l (i + 1))
theorem enumFrom_get : ∀ (l : List D) (i : Int) (k : Nat) (d : D), (enumFrom i l)[k]? = some d → ∃ x, l[k]? = some x ∧ d = .tup [.int (i + k), x]
  | [], _, _, _, h => by simp [enumFrom] at h
  | x :: l, i, 0, d, h => by simp [enumFrom] at h; exact ⟨x, rfl, by rw [← h]; simp⟩
  | x :: l, i, k + 1, d, h => by
    obtain ⟨y, h1, h2⟩ := enumFrom_get l (i + 1) k d (by simpa [enumFrom] using h)
    refine ⟨y, by simpa using h1, ?_⟩
    rw [h2]
    congr 3
    show i + 1 + (k : Int) = i + ((k + 1 : Nat) : Int)
    omega
theorem its_enumL {K : Fr} {F : Hp} {p : Addr} {vs : List V} {ds : List D} (hl : ds.length ≤ big) (h : SqL K F p vs) (r : Reps K F ds vs) : Its K F (enumFrom 0 ds) (Ite K p) where
  few := by rw [enumFrom_len]; exact hl
  goes := fun i H hi s => ⟨vs, vs[i]'(by rw [← r.length]; rwa [enumFrom_len] at hi), s.sqL h, by simp⟩
  stops := fun H s => ⟨vs, s.sqL h, by rw [enumFrom_len, r.length]; exact Nat.le_refl _⟩
  yields := fun i H x H' d F0 hd s0 s1 ⟨T, y, ex, hT, eH, hy⟩ => by
    obtain ⟨dx, h1, rfl⟩ := enumFrom_get ds 0 i d hd
    obtain ⟨v, hv, rv⟩ := r.get h1
    have z := hy vs ((s0.trans s1).sqL h)
    rw [hv] at z
    have z := Option.some.inj z
    subst z
    subst ex eH
    have n := NewF.alloc s1 hT (.tup [.int (i : Nat), v])
    refine ⟨_, n, Rep.tup (by show 2 ≤ big; decide) (.inl (.inl upd_same)) (.cons ?_ (.cons (rv.mono (s0.trans n.fr)) .nil))⟩
    rw [Int.zero_add]; exact .int _
theorem its_enumS {K : Fr} {F : Hp} {s : List Char} (hl : s.length ≤ big) : Its K F (enumFrom 0 (s.map fun c => .str [c])) (Itse (enc s)) where
  few := by rw [enumFrom_len, List.length_map]; exact hl
  goes := fun i H hi _ => by rw [enumFrom_len, List.length_map] at hi; show i < (enc s).cps.size; rw [enc_size]; exact hi
  stops := fun H _ => by show _ = (enc s).cps.size; rw [enumFrom_len, List.length_map, enc_size]
  yields := fun i H x H' d F0 hd s0 s1 ⟨T, c, ex, hT, eH, hc⟩ => by
    obtain ⟨dx, h1, rfl⟩ := enumFrom_get _ 0 i d hd
    obtain ⟨ch, h2, rfl⟩ := enc_get hc
    rw [List.getElem?_map, h2] at h1
    cases h1
    subst ex eH
    have n := NewF.alloc s1 hT (.tup [.int (i : Nat), .str ⟨#[ch.toNat]⟩])
    refine ⟨_, n, Rep.tup (by show 2 ≤ big; decide) (.inl (.inl upd_same)) (.cons ?_ (.cons (Rep.str [ch] (by show 1 ≤ big; decide)) .nil))⟩
    rw [Int.zero_add]; exact .int _
theorem p_enm {p tpos : Pos} {elts : List Expr} {kk : Nat} (hm : X.mg "enumerate" = none) (he : PE X e (LE false X.K fa)) (hg : Gl X "enumerate" := by rfl) (hp : plainArg e = true := by rfl) : PI X (.Tuple elts kk tpos) (.Call (.Name "enumerate" p) [e] [] pos) (LI X.K (evEnm fa)) := by
  refine (pi_enm hg hm (q_cons hp he q_nil) hp).imp fun σ H R ⟨δ, M, F, μ, xs, M', S, RS, e0, k⟩ => ?_
  obtain ⟨v, M1, e1, e0⟩ := bind_ok e0
  cases v with
  | ref n => cases e0
  | d y =>
    obtain ⟨h1, rfl⟩ := of_ok e0
    obtain ⟨l, hl, rfl⟩ := Option.map_eq_some_iff.mp h1
    refine ⟨δ, M, F, μ, [.d y], M', S, RS, by unfold evCons; rw [e1]; rfl, fun F1 μ1 H1 vs1 st1 S1 rs1 => ?_⟩
    cases rs1 with
    | cons r1 rr =>
      cases rr
      refine ⟨_, rfl, ?_⟩
      rename_i v1
      have r1' : Rep X.K F1 y v1 := r1
      cases r1' with
      | lst hz h r => cases hl; exact .inl ⟨_, _, rfl, S1.sub.sqL (SqL.of h), k F1 μ1 H1 _ st1 S1 (its_enumL hz (SqL.of h) r)⟩
      | scr hz h r => cases hl; exact .inl ⟨_, _, rfl, S1.sub.sqL h, k F1 μ1 H1 _ st1 S1 (its_enumL hz h r)⟩
      | str s hz => cases hl; exact .inr ⟨_, rfl, k F1 μ1 H1 _ st1 S1 (its_enumS hz)⟩
      | _ => cases hl
end
end DL
end P_DL11
section P_DLxf
set_option Elab.async false
set_option linter.all false
set_option maxRecDepth 100000
set_option maxHeartbeats 2000000
/-! An error of the class DoesNotFit: made, raised, its field read (turned from the worked proof of an own error with a field). -/
namespace PySem
namespace LowDNF
open PySem.W PySem.Calls PyProof.Rows PySem.HandSPX
/-! ### the text of __init__ -/
def iA (p1 p2 : Pos) : Arguments := { posonlyargs := [], args := [{ arg := "self", annotation := none, pos := p1 }, { arg := "given", annotation := none, pos := p2 }], vararg := none, kwonlyargs := [], kw_defaults := [], kwarg := none, defaults := [] }
def iB (q1 q2 q3 q4 : Pos) : List Stmt := [.Assign [.Attribute (.Name "self" q1) "given" q2] (.Name "given" q3) q4]
def iS : Scope := { kind := .function, names := [(PySem.Str.ofString "self", .local), (PySem.Str.ofString "given", .local)], isGenerator := false, isCoroutine := false, more := [] }
/-- what the written part says of Low, at C, and of its __init__, at fI -/
structure LowTxt (K : Frag) (mg : Str → Option Value) (C fI : Addr) : Prop where
  gC : mg "DoesNotFit" = some (.ref C)
  cls : ∃ nm q N bs bm sn sub ab col dd k0 k1 k2 k3 k5, K.lookup C = some (excClassObj nm q C N bs bm true sn sub ab col dd k0 k1 k2 k3 k5 "ValueError.__new__") ∧ refsVE bm = true
  sa : findIn K (.ref C) "__setattr__" = some (some (.builtin "object.__setattr__"))
  ga : findIn K (.ref C) "__getattribute__" = some (some (.builtin "BaseException.__getattribute__"))
  gg : findIn K (.ref C) "__getattr__" = some none
  noN : findIn K (.ref C) "given" = some none
  iC : findIn K (.ref C) "__init__" = some (some (.ref fI))
  tC : typeIn K (.ref fI) = some (.type "function")
  kC : keepIn K (.ref C) = true
  exC : subIn K (.ref C) (.type "BaseException") = some true
  tyC : typeIn K (.ref C) = some (.type "type")
  hdC : hasDictIn K C = true
  fn : ∃ (oc : Value) (od : Option Addr) (doc pm : Value) (an : Option Addr) (cdv ct : Value) (osl : Array (Option Value)) (p1 p2 q1 q2 q3 q4 : Pos),
    K.lookup fI = some ⟨oc, od, .func (fnOf "__init__" "DoesNotFit.__init__" (iA p1 p2) (iB q1 q2 q3 q4) iS .none .none doc pm an cdv ct), osl⟩ ∧ codeIn K cdv "DoesNotFit.__init__" = true
theorem one_size (v : Value) : [v].length ≤ sizeLine := by
  rw [sizeLine_eq]
  exact (by decide : 1 ≤ 16777216)
theorem kept_but {K : Frag} {h h' : Heap} {x : Addr} (X : K.In h) (hx : K.lookup x = none) (k : ∀ b o, b ≠ x → h.get? b = some o → h'.get? b = some o) : K.In h' := fun a o e =>
  k a o (fun z => by rw [z, hx] at e; cases e) (X a o e)
theorem ldC {M : Model} {s : Shared} {name : Str} {scope : Scope} {L a : Addr} {cd : Value} {m : Str → Option Value} {x : Str} {pos : Pos} {v : Value} {Q : Value → Shared → Prop} {A : Around} {E : Value → Shared → Prop} (hn : s.heap.Ns L m) (hv : m x = some v) (h : Q v s)
    (hk : scope.kind = .function := by rfl) (hl : (envOfC name scope L a cd).kindOf x = some .local := by rfl) (hd : (x == ("__debug__" : Str)) = false := by decide) :
    wpAny M A (eval (.Name x pos) (envOfC name scope L a cd)) Q E s := wpAny_Name (wpAny_loadName_local hk hl hn hv h) hd
/-- what __init__ leaves of a fresh exception at x -/
structure InitEnd (h h' : Heap) (x C dx t1 : Addr) (v : Value) : Prop where
  keep : ∀ b o, b ≠ x → h.get? b = some o → h'.get? b = some o
  obj : h'.get? x = some { cls := .ref C, dict := some dx, data := .fields #[.ref t1, .none, .none, .none, .bool false, .none] }
  dbig : h.objs.size ≤ dx
  dne : dx ≠ x
  ns : h'.Ns1 dx (fun y => if y = "given" then some v else none)
/-- a made Low -/
structure OwnMade (h h' : Heap) (e C d : Addr) (v : Value) : Prop where
  keep : ∀ b o, h.get? b = some o → h'.get? b = some o
  new : h.objs.size ≤ e
  obj : ∃ oe vs, h'.get? e = some oe ∧ oe.cls = .ref C ∧ oe.dict = some d ∧ oe.data = .fields vs ∧ vs[1]? = some .none
  dbig : h.objs.size ≤ d
  dne : d ≠ e
  ns : h'.Ns1 d (fun y => if y = "given" then some v else none)
section
variable {prog : Program} {w : World} {A : Around} {E : Value → Shared → Prop} {R : Result → Shared → Prop} {s : Shared} {K : Frag} {mg : Str → Option Value} {C fI : Addr}
theorem low_init (T : LowTxt K mg C fI) {x t0 : Addr} {v : Value} (X : K.In s.heap) (hlim : s.heap.NoLimit) (hx : s.heap.get? x = some (excO C t0)) (hnx : K.lookup x = none) (hroom : A.depth < recursionLimit)
    (hq : ∀ h' tk dx, InitEnd s.heap h' x C dx t0 v → R (.ok (.ret .none)) { s with heap := h', toks := tk }) :
    codeAny (model prog w) A (.call (.ref fI) ⟨[.ref x, v], []⟩) R s := by
  obtain ⟨oc, od, doc, pm, an, cdv, ct, osl, p1, p2, q1, q2, q3, q4, ho, hcd⟩ := T.fn
  obtain ⟨nm, q, N, bs, bm, sn, sub, ab, col, dd, k0, k1, k2, k3, k5, hC, hbm⟩ := T.cls
  have hcl : clsIn K C = some { name := nm, bases := bs, mro := .ref C :: bm, ns := N, qualname := q, hasDict := true, slotNames := sn, subclasses := sub, abstract := ab, collection := col, hasDel := false } := by unfold clsIn; rw [hC] <;> rfl
  refine Att.call_fn (binds := [("self", .ref x), ("given", v)]) X hlim ho hcd hroom (BindsTo.of_eq (by first | rfl | with_unfolding_all rfl)) (by first | rfl | decide | with_unfolding_all rfl) (fun s₁ IC => ?_) rfl rfl rfl
  obtain ⟨h₁, tk₁, rfl⟩ := IC.toInCall.same
  have k : ∀ b o, s.heap.get? b = some o → h₁.get? b = some o := IC.toInCall.keep
  have hn := IC.toInCall.ns
  have hxL : s.heap.objs.size ≠ x := Nat.ne_of_gt (Heap.lt_size hx)
  have X₁ : K.In h₁ := X.keeps k
  have hx₁ := k _ _ hx
  -- self.by = by
  show wpAny _ _ (execs _ _) _ _ _
  refine wpAny_execs_cons (plainObj_wpAny_Assign_Attribute ?_)
  refine ldC (v := v) hn (by first | rfl | with_unfolding_all rfl | kernel_rfl) (ldC (v := .ref x) hn (by first | rfl | with_unfolding_all rfl | kernel_rfl) ?_)
  refine set_plain X₁ (ox := excO C t0) (od := none) ⟨hx₁, rfl, rfl, trivial⟩ T.sa ?_
  refine exc_osa X₁ hx₁ hcl (show refsVE (.ref C :: bm) = true from hbm) rfl T.noN (fun h₃ tk₃ dx k₃ dn dne hx₃ hn₃ => ?_)
  show wpAny _ _ (execs _ _) _ _ _
  have z : s.heap.objs.size < h₁.objs.size := hn.lt
  exact wpAny_execs_nil (hq h₃ tk₃ dx ⟨fun b o hb e => k₃ b o hb (k b o e), hx₃, Nat.le_of_lt (Nat.lt_of_lt_of_le z dn), dne, hn₃⟩)
theorem low_made (T : LowTxt K mg C fI) {v : Value} (X : K.In s.heap) (hlim : s.heap.NoLimit) (hroom : A.depth + 1 < recursionLimit)
    (hq : ∀ h' tk e d, OwnMade s.heap h' e C d v → R (.ok (.ret (.ref e))) { s with heap := h', toks := tk }) :
    codeAny (model prog w) A (.call (.ref C) ⟨[v], []⟩) R s := by
  obtain ⟨nm, q, N, bs, bm, sn, sub, ab, col, dd, k0, k1, k2, k3, k5, hC, hbm⟩ := T.cls
  obtain ⟨hp, g, dr, tk, os⟩ := s
  have k : ∀ b o, hp.get? b = some o → ((hp.push (kdv_tup [v])).push (excO C hp.objs.size)).get? b = some o := fun b o e => Heap.get?_push_of_some _ (Heap.get?_push_of_some _ e)
  have hget : ((hp.push (kdv_tup [v])).push (excO C hp.objs.size)).get? (hp.objs.size + 1) = some (excO C hp.objs.size) := by heap_get
  have hnx : K.lookup (hp.objs.size + 1) = none := by
    cases e : K.lookup (hp.objs.size + 1) with
    | none => rfl
    | some o =>
      have z : hp.get? (hp.objs.size + 1) = some o := X _ _ e
      exact absurd (Nat.lt_of_succ_lt (Heap.lt_size z)) (Nat.lt_irrefl _)
  refine call_own F.excBase_ValueError (fun X => refsVE_contains X bm hbm) (X _ _ hC) (looks_findIn X T.iC) (fun self => bind_fn X self T.tC) (one_size v) ?_
  refine low_init (s := ⟨(hp.push (kdv_tup [v])).push (excO C hp.objs.size), g, dr, tk, os⟩) T (X.keeps k) (hlim.keeps k) hget hnx ?_ fun h' tk' dx ⟨k', hx, dn, dne, hns⟩ => ?_
  · show A.depth + 1 < recursionLimit
    exact hroom
  · have old : ∀ b o, hp.get? b = some o → h'.get? b = some o := fun b o e => k' b o (Nat.ne_of_lt (Nat.lt_succ_of_lt (Heap.lt_size e))) (k b o e)
    have z : hp.objs.size + 1 + 1 ≤ dx := by
      first
        | (simpa only [Heap.size_push] using dn)
        | exact dn
        | (have q := dn; rw [Heap.size_push, Heap.size_push] at q; exact q)
    exact ⟨rfl, hq h' tk' (hp.objs.size + 1) dx ⟨old, Nat.le_succ _, ⟨_, _, hx, rfl, rfl, rfl, rfl⟩, Nat.le_trans (Nat.le_trans (Nat.le_succ _) (Nat.le_succ _)) z, dne, hns⟩⟩
end
end LowDNF
end PySem
namespace L2
open PySem PySem.Spec PyProof.Rows
theorem relO_low_dnf {v : V} {v' : Value} (r : RelV v v') (f : Str) : RelO (List.lookup f [(("given" : Str), v)]) (if f = "given" then some v' else none) := by
  by_cases hw : f = "given"
  · subst hw
    rw [if_pos rfl]
    have q : List.lookup ("given" : Str) [(("given" : Str), v)] = some v := by simp [List.lookup]
    rw [q]
    exact r
  · rw [if_neg hw]
    have qw : (f == ("given" : Str)) = false := by simpa using hw
    have q2 : List.lookup f [(("given" : Str), v)] = none := by simp [List.lookup, qw]
    rw [q2]
    trivial
section
variable {X : Cx} {C fI : Addr}
/-- Low(e) -/
def tMkLow_dnf (C : Addr) (ta : TA) : St → Hp → XK → Prop := fun σ H Q => ta σ H fun vs H1 => ∃ v, vs = [v] ∧ ∀ d, H1 d = none → Q (.ref C) (some d) (upd H1 d (.xd [(("given" : Str), v)]))
theorem pmk_low_dnf {a : Expr} {ta : TA} {p pos : Pos} {k : Nat} (T : PySem.LowDNF.LowTxt X.K X.mg C fI) (hr : Room k X.A) (ha : PA X [a] ta) (hg : Gl X "DoesNotFit" := by rfl)
    (he : starEach (a :: []) X.env = (false, eval a X.env) :: starEach [] X.env := by rfl) (hpl : (backTo pos (starEach [] X.env)).any (·.1) = false := by rfl) :
    PMk X (.Call (.Name "DoesNotFit" p) [a] [] pos) (tMkLow_dnf C ta) := by
  intro pins s σ H Q I h
  refine wpAny_Call_Name_kw (ld_glob I hg T.gC ?_)
  refine PySem.W.callWith_K (h₀ := X.base) I.ok.mod.kin T.kC (thn (ha.run pos pins s σ H _ I h) fun us s1 hh => ?_) he hpl
  obtain ⟨vs, H1, I1, r1, v, ev, q1⟩ := hh
  subst ev
  refine ⟨I1.kIn, ?_⟩
  cases r1 with
  | cons rv rn =>
    rename_i v' us'
    cases rn
    show wpAny _ _ (call (.ref C) [v']) _ _ _
    have hlim := I1.nolimit
    obtain ⟨hp, g, dr, tk, os⟩ := s1
    refine wpAny_call (PySem.LowDNF.low_made T I1.kIn hlim (by have := hr.dp; omega) fun h' tk' e d M => ?_)
    show MkP X pins σ Q (.ref e) ⟨h', g, dr, tk', os⟩
    obtain ⟨oe, fv, hoe, hc, hd, hdat, h1⟩ := M.obj
    have hns := M.ns
    obtain ⟨G', g1, g2⟩ := restrict h' fun b => decide (b ≠ e)
    have gk : ∀ b, b ≠ e → G'.get? b = h'.get? b := fun b hb => g1 b (decide_eq_true hb)
    have ge : G'.get? e = none := g2 e (by simp)
    have old : ∀ b o, hp.get? b = some o → G'.get? b = some o := fun b o q => (gk b (Nat.ne_of_lt (Nat.lt_of_lt_of_le (Heap.lt_size q) M.new))).trans (M.keep b o q)
    have ob : ObjOk X.prog X.w (upd H1 d (.xd [(("given" : Str), v)])) G' d (.xd [(("given" : Str), v)]) :=
      ⟨_, hns.at (fun o q => (gk d M.dne).trans q), fun f => relO_low_dnf rv f⟩
    have J : Inv X pins σ (upd H1 d (.xd [(("given" : Str), v)])) ⟨G', g, dr, tk', os⟩ := I1.laid (t' := tk') old M.dbig ob
    refine ⟨e, oe, fv, ⟨G', g, dr, tk', os⟩, _, .ref C, some d, rfl, J, fun b o q => ?_, ge, hoe, ⟨hc, hd⟩, hdat, h1, ?_, rfl, I1.bare, raises_own T.exC T.tyC, q1 d (I1.hok.fresh M.dbig)⟩
    · by_cases hb : b = e
      · have q' : G'.get? b = some o := q
        rw [hb, ge] at q'; cases q'
      · exact (gk b hb).symm.trans q
    · rw [upd_ne (Ne.symm M.dne)]
      exact I1.hok.fresh M.new
/-- raise Low(e) -/
def tRaiseLow_dnf (C : Addr) (W : WX) (ta : TA) : TS := fun _ σ H => tMkLow_dnf C ta σ H fun cls d H' => W cls d σ H'
theorem ps_raiseLow_dnf {a : Expr} {ta : TA} {W : WX} {p pos pos2 : Pos} {k : Nat} (hc : X.calm = true) (T : PySem.LowDNF.LowTxt X.K X.mg C fI) (hr : Room k X.A) (tk : Takes X W) (ha : PA X [a] ta) (hg : Gl X "DoesNotFit" := by rfl)
    (he : starEach (a :: []) X.env = (false, eval a X.env) :: starEach [] X.env := by rfl) (hpl : (backTo pos (starEach [] X.env)).any (·.1) = false := by rfl) :
    PS X (.Raise (some (.Call (.Name "DoesNotFit" p) [a] [] pos)) none pos2) (tRaiseLow_dnf C W ta) := ps_raise hc tk (pmk_low_dnf T hr ha hg he hpl)
/-- low.by, low the exception that the suite holds (at a; its class cls, its dict d) -/
def tByLow_dnf (C : Addr) (a : Addr) (cls : Value) (d : Option Addr) (te : TE) : TE := fun σ H Q => te σ H fun x H1 => x = .ref a ∧ cls = .ref C ∧ ∃ (dd : Addr) (v : V), d = some dd ∧ H1 dd = some (.xd [(("given" : Str), v)]) ∧ Q v H1
theorem pe_byLow_dnf {a : Addr} {oe : Obj} {cls : Value} {d : Option Addr} {pn : List (Addr × Obj)} {e : Expr} {te : TE} {pos : Pos} (T : PySem.LowDNF.LowTxt X.K X.mg C fI) (hz : Zc cls d oe) (hf : ∃ vs, oe.data = .fields vs) (he : PE (X.suite a ((a, oe) :: pn)) e te)
    (hb : attributeBase e "given" X.env (eval e X.env) = eval e X.env := by rfl) :
    PE (X.suite a ((a, oe) :: pn)) (.Attribute e "given" pos) (tByLow_dnf C a cls d te) := by
  refine ⟨fun pins s σ H Q I h => ?_⟩
  refine attr_of hb (thn (he.run pins s σ H _ I h) fun u s1 hh => ?_)
  obtain ⟨x, H1, I1, rx, ex, ec, dd, v, ed, ea, q⟩ := hh
  subst ex
  obtain rfl : u = Value.ref a := rx
  subst ec
  subst ed
  obtain ⟨ha, _⟩ := I1.pin (a, oe) (List.mem_append_left _ List.mem_cons_self)
  obtain ⟨vs, hd⟩ := hf
  have hx : ObjOk X.prog X.w H1 s1.heap dd (.xd [(("given" : Str), v)]) := I1.hok dd _ ea
  obtain ⟨mA, hns, hr⟩ := hx
  obtain ⟨od, ho, hl⟩ := lookIn_ns hns
  have l : List.lookup ("given" : Str) [(("given" : Str), v)] = some v := by simp [List.lookup]
  obtain ⟨u, hu, ru⟩ := RelO.some_of (v := v) (o := mA "given") (by rw [← l]; exact hr "given")
  have J : PySem.W.InstAt s1.heap a oe C (some od) := ⟨ha, hz.1, by unfold PySem.W.notCls; rw [hd] <;> rfl, by rw [hz.2]; exact ho⟩
  exact HandSPX.exc_get I1.kIn J T.ga T.gg T.exC (PySem.W.findObj_own T.hdC T.noN rfl (by rw [hl, hu])) (handed_of ru) ⟨v, H1, I1.tok _, ru, q⟩
end
end L2
end P_DLxf
section P_DLx
set_option Elab.async false
set_option linter.all false
set_option maxRecDepth 100000
set_option maxHeartbeats 2000000
/-! Defs that may raise DoesNotFit: a second reading; what a try catches; isinstance of what is caught. -/
namespace DL
open PySem PySem.Spec PyProof.Rows L2
section
variable {bs : Nat} {K : Fr} {f g : Sl → Mem → Res Flow} {fT : Sl → Mem → Res Bool} {D : Ends} {σ : L2.St} {H : Hp}
theorem LS.seq (h : LS bs K (evSeq f g) D σ H) : tSeq (LS bs K f) (LS bs K g) D σ H := by
  obtain ⟨δ, M, F, μ, x, M', hb, S, R, e0, k⟩ := h
  obtain ⟨y, M1, e1, e0⟩ := bind_ok e0
  refine ⟨δ, M, F, μ, y, M1, hb, S, R, e1, ?_⟩
  cases y with
  | nx s1 => exact fun F1 μ1 H1 σ1 hb1 st S1 R1 => LS.after st hb1 S1 R1 e0 k
  | ret v => cases e0; exact k
  | brk s1 => cases e0; exact k
  | cont s1 => cases e0; exact k
theorem LS.ite (h : LS bs K (evIte fT f g) D σ H) : tIfS (LT K fT) (LS bs K f) (LS bs K g) D σ H := by
  obtain ⟨δ, M, F, μ, x, M', hb, S, R, e0, k⟩ := h
  obtain ⟨t, M1, e1, e0⟩ := bind_ok e0
  refine ⟨δ, M, F, μ, t, M1, S, R, e1, fun F1 μ1 H1 st S1 => ?_⟩
  cases t with
  | true => rw [if_pos rfl] at e0 ⊢; exact LS.after (Step.mono st hb) (Nat.le_trans hb st.leE) S1 (R.mono st.fr st.whole) e0 k
  | false => rw [if_neg Bool.false_ne_true] at e0 ⊢; exact LS.after (Step.mono st hb) (Nat.le_trans hb st.leE) S1 (R.mono st.fr st.whole) e0 k
theorem LS.ends {D2 : Ends} (h : LS bs K f D σ H) (h1 : ∀ σ H, D.nx σ H → D2.nx σ H) (h2 : ∀ v H, D.rt v H → D2.rt v H) (h3 : ∀ σ H, D.bk σ H → D2.bk σ H) (h4 : ∀ σ H, D.ct σ H → D2.ct σ H) : LS bs K f D2 σ H := by
  obtain ⟨δ, M, F, μ, x, M', hb, S, R, e0, k⟩ := h
  refine ⟨δ, M, F, μ, x, M', hb, S, R, e0, ?_⟩
  cases x with
  | nx s => exact fun F' μ' H' σ' q1 q2 q3 q4 => h1 _ _ (k F' μ' H' σ' q1 q2 q3 q4)
  | ret v => exact fun F' μ' H' v q1 q2 q3 q4 => h2 _ _ (k F' μ' H' v q1 q2 q3 q4)
  | brk s => exact fun F' μ' H' σ' q1 q2 q3 q4 => h3 _ _ (k F' μ' H' σ' q1 q2 q3 q4)
  | cont s => exact fun F' μ' H' σ' q1 q2 q3 q4 => h4 _ _ (k F' μ' H' σ' q1 q2 q3 q4)
theorem LS.pass (h : LS bs K sPass D σ H) : D.nx σ H := by
  obtain ⟨δ, M, F, μ, x, M', hb, S, R, e0, k⟩ := h
  cases e0
  exact k F μ H σ hb (Step.refl _ _ _ _) S R
theorem LS.never (h : LS bs K (evSeq sNever g) D σ H) : False := by
  obtain ⟨δ, M, F, μ, x, M', hb, S, R, e0, k⟩ := h
  cases e0
end
theorem if_tt {A B : Prop} (h : A) : (if true = true then A else B) := by rw [if_pos rfl]; exact h
/-- a def of one slot: first f1, then, where the test fT is true, the error with the value of slot 0 -/
def xRaise1 (f1 : Sl → Mem → Res Flow) (fT : Sl → Mem → Res Bool) : List Val → Mem → Res D := fun xs M => match xs with
  | [.d x] => (f1 [some (.d x)] M).bind fun fl M1 => match fl with
    | .nx s => (match s with
      | [some (.d y)] => (fT s M1).bind fun b M2 => if b then .ok y M2 else .bad
      | _ => .bad)
    | _ => .bad
  | _ => .bad
/-- what such a def promises: g where it returns; else the error C with x in its field -/
def spX (K : Fr) (C : Addr) (n : Nat) (g : List Val → Mem → Res Val) (x : List Val → Mem → Res D) : Sp := fun vs H Q E => spF false K n g vs H Q E ∨
  (vs.length = n ∧ ∃ xs M F μ d0 M', Sim K F μ M H ∧ RepVs K F μ xs vs ∧ x xs M = .ok d0 M' ∧
    ∀ F' μ' H' d v, StepE F μ H F' μ' H' → Sim K F' μ' M' H' → H' d = some (.xd [(("given" : Str), v)]) → Rep K F' d0 v → E (.ref C) (some d) H')
/-- the reading of its body -/
def tRaise1 (b : Nat) (K : Fr) (C : Addr) (E : XK) (f1 : Sl → Mem → Res Flow) (fT : Sl → Mem → Res Bool) (fr : Sl → Mem → Res Flow) : TS :=
  tSeq (LS b K f1) (tSeq (tIfS (LT K fT) (tRaiseLow_dnf C (fun cls d _ H => E cls d H) (tCons (tVar 0) tNil)) tNext) (LS b K fr))
theorem raise1 {K : Fr} {C : Addr} {x0 : Str} {vs : List V} {H : Hp} {Q : VK} {E : XK} {f1 fr : Sl → Mem → Res Flow} {fT : Sl → Mem → Res Bool}
    (h : spX K C 1 (defG false 1 0 fun _ => evSeq f1 (evSeq (evIte fT (evSeq sNever sPass) sPass) (evSeq fr sPass))) (xRaise1 f1 fT) vs H Q E) :
    ∃ b, tRaise1 b K C E f1 fT (evSeq fr sPass) { nx := fun _ H' => Q .non H', rt := Q } (L2.start [x0] vs) H := by
  rcases h with h | ⟨hl, xs, M, F, μ, d0, M', S, r, e0, k⟩
  · obtain ⟨b, z⟩ := def_body (N := [x0]) (m := 0) (E := E) rfl h
    refine ⟨b, ?_⟩
    have z1 := LS.seq z
    refine z1.ends (fun σ H z2 => ?_) (fun _ _ h => h) (fun _ _ h => h) (fun _ _ h => h)
    · have z3 := LS.ite (LS.seq z2)
      obtain ⟨δ, M, F, μ, x, M', S, R, e0, k⟩ := z3
      refine ⟨δ, M, F, μ, x, M', S, R, e0, fun F' μ' H' st S' => ?_⟩
      have q := k F' μ' H' st S'
      cases x with
      | true => rw [if_pos rfl] at q; exact (LS.never q).elim
      | false => rw [if_neg Bool.false_ne_true] at q; exact LS.pass q
  · match xs, r, e0 with
    | [.d x], r, e0 =>
      obtain ⟨fl, M1, e1, e0⟩ := bind_ok e0
      match fl, e1, e0 with
      | .nx [some (.d y)], e1, e0 =>
        obtain ⟨b, M2, e2, e0⟩ := bind_ok e0
        cases b with
        | false => cases e0
        | true =>
          rw [if_pos rfl] at e0
          cases e0
          refine ⟨M.length, [some (.d x)], M, F, μ, .nx [some (.d d0)], M1, by rw [S.len]; exact Nat.le_refl _, S, RepS.start (m := 0) r rfl, e1, ?_⟩
          intro F1 μ1 H1 σ1 hb1 st1 S1 R1
          rw [← S.len] at st1
          refine ⟨[some (.d d0)], M1, F1, μ1, true, M', S1, R1, e2, fun F2 μ2 H2 st2 S2 => ?_⟩
          refine if_tt ?_
          obtain ⟨v, hv, rv⟩ := R1.at_ 0 (.d d0) rfl
          refine ⟨v, hv, v, rfl, fun d hd => ?_⟩
          have n := NewF.alloc S2.sub hd (.xd [(("given" : Str), v)])
          exact k _ μ2 _ d v ((st1.transE st2).transE n.step) (n.sim S2) upd_same (Rep.mono n.fr (Rep.mono st2.fr rv))
/-! ### isinstance of what is caught -/
/-- what the class D must say -/
structure ExcD (K : Fr) (D : Addr) : Prop where
  hc : (PySem.W.clsIn K D).isSome = true
  hg : PySem.W.findIn K (.ref D) "__getattribute__" = some (some (.builtin "BaseException.__getattribute__"))
  hk : PySem.W.findIn K (.ref D) "__getattr__" = some none
  hs : PySem.W.subIn K (.ref D) (.type "BaseException") = some true
  ha : PySem.W.findIn K (.ref D) "__class__" = some (some (.builtin "object.__class__"))
  hn : PySem.W.specialIn K (.builtin "object.__class__") "__get__" = some (some (.builtin "getset_descriptor.__get__"))
  ht : PySem.W.takesIn K (.builtin "object.__class__") = some true
  hm : PySem.W.mroIn K D (.type "object") = some true
def rIsX (K : Fr) (D a : Addr) (cls : Value) (d : Option Addr) : List V → Hp → VK → Prop := fun xs H Q => cls = .ref D ∧ ∃ (c : V) (cv : Value) (b : Bool) (dd : Addr) (v : V), xs = [.ref a, c] ∧ (∀ u, RelV c u → u = cv) ∧ PySem.W.kitOne K (.ref D) cv = some b ∧
  d = some dd ∧ H dd = some (.xd [(("given" : Str), v)]) ∧ Q (.bl b) H
theorem call_isX {X : Cx} {a D : Addr} {cls : Value} {d : Option Addr} {oe : Obj} {pn : List (Addr × Obj)} (C : ExcD X.K D) (hz : Zc cls d oe) (hf : ∃ vs, oe.data = .fields vs) : CallR (X.suite a ((a, oe) :: pn)) (.builtin "isinstance") (rIsX X.K D a cls d) := by
  intro pins s σ H xs us Q I r h
  obtain ⟨rfl, c, cv, b, dd, v, rfl, hcv, e, ed, ea, q⟩ := h
  cases r with
  | cons rx rr =>
    cases rr with
    | cons rt rr =>
      cases rr
      cases rx
      have ec := hcv _ rt
      subst ec
      subst ed
      obtain ⟨hget, _⟩ := I.pin (a, oe) (List.mem_append.mpr (.inl List.mem_cons_self))
      obtain ⟨vs, hv⟩ := hf
      have hx : ObjOk X.prog X.w H s.heap dd (.xd [(("given" : Str), v)]) := I.hok dd _ ea
      obtain ⟨mA, hns, hr⟩ := hx
      obtain ⟨od, ho, hl⟩ := lookIn_ns hns
      have J : PySem.W.InstAt s.heap a oe D (some od) := ⟨hget, hz.1, by unfold PySem.W.notCls; rw [hv] <;> rfl, by rw [hz.2]; exact ho⟩
      exact PySem.W.kia_one (PySem.W.kitx_exc (od := some od) C.hc C.hg C.hk C.hs C.ha C.hn C.ht C.hm) I.kIn J e (fun z => nomatch z) fun tk => ⟨.bl b, H, I.kept (t' := tk) fun _ _ z => z, rfl, q⟩
/-- what the top has written of the errors: DoesNotFit at C, its __init__ at fI, the base at S, InvalidRow, InvalidColour, TooMany at CR, CC, CT -/
structure DnF (K : Fr) (mg : Str → Option Value) (C fI S CR CC CT : Addr) : Prop where
  low : PySem.LowDNF.LowTxt K mg C fI
  gS : mg "SockError" = some (.ref S)
  gR : mg "InvalidRow" = some (.ref CR)
  gCC : mg "InvalidColour" = some (.ref CC)
  gT : mg "TooMany" = some (.ref CT)
  te : PySem.W.exmOne K (.ref C) (.ref S) = some true
  ex : ExcD K C
  iR : PySem.W.kitOne K (.ref C) (.ref CR) = some false
  iC : PySem.W.kitOne K (.ref C) (.ref CC) = some false
  iT : PySem.W.kitOne K (.ref C) (.ref CT) = some false
  iV : PySem.W.kitOne K (.ref C) (.type "ValueError") = some true
theorem kit_self (K : Fr) (C : Addr) : PySem.W.kitOne K (.ref C) (.ref C) = some true := by
  unfold PySem.W.kitOne
  rw [if_pos (by simp)]
/-! ### f(k = v), f may raise: what it lets out is told at the slots of the call -/
theorem pe_callN0S {X : Cx} {pos : Pos} {CX : CXT} {k : Nat} {f : Addr} {fn : FuncData} {x : Str} {p : Pos} {ps ks : List Str} {sp : Sp} {E : L2.St → XK} {kws : List Keyword} {tk : TA} {g : List Value → List Value → List Value} {gV : List V → List V → List V}
    (F : FnOk X.prog X.w X.K X.mg X.base CX k f fn ps sp) (hr : Room k X.A) (hg : Gl X x) (hm : X.mg x = some (.ref f)) (hk : PySem.W.keepIn X.K (.ref f) = true) (hb : KBn X.K fn ps 0 ks g gV) (hx : ∀ σ, PassesAt CX X σ (E σ)) (hkw : PK X kws tk)
    (hall : (backToKw pos (keywordEach kws X.env)).all (·.1.isSome) = true := by rfl) (hks : (backToKw pos (keywordEach kws X.env)).filterMap (·.1) = ks := by rfl) (hdb : (x == ("__debug__" : Str)) = false := by decide +kernel)
    (hpl : ((backTo pos (starEach [] X.env)).any (·.1) || (backToKw pos (keywordEach kws X.env)).any (·.1.isNone)) = false := by rfl) :
    PE X (.Call (.Name x p) [] kws pos) (fun σ H Q => tk σ H fun zs H1 => zs.length = ks.length ∧ sp (gV [] zs) H1 Q (E σ)) := by
  refine ⟨fun pins s σ H Q I h => ?_⟩
  refine wpAny_Call_Name_kw (ld_glob I hg hm ?_ hdb)
  refine PySem.W.callWith_KW0 (h₀ := X.base) I.ok.mod.kin hk hall ?_ hpl
  refine thn (hkw.run pos pins s σ H _ I h) fun ws s2 ⟨zs, H2, I2, rz, l2, q2⟩ => ⟨I2.kIn, ?_⟩
  rw [hks]
  have r2 := hb.rel (vs := []) (us := []) .nil rz
  refine wpAny_call (codeAny_mono (F.run X.A X.stack s2 H2 ⟨[], ks.zip ws⟩ (g [] ws) (gV [] zs) Q (E σ) hr I2.env0 (hb.to s2 [] ws I2.kIn rfl (rz.length.symm.trans l2)) r2 q2) fun r s' hq => ?_)
  cases r with
  | error e => exact hx σ pins H2 s2 e s' I2 hq
  | ok fl =>
    cases fl with
    | ret u => exact I2.after hq
    | next => exact False.elim hq
    | brk => exact False.elim hq
    | cont => exact False.elim hq
theorem mk_dnf {K : Fr} {h : Heap} {mg : Str → Option Value} {C fI S CR CC CT N : Addr} {nm q : Str} {bs : List Value} {sn : List Str} {sub : List Value} {ab : Bool} {col : Option Bool} {dd : Option Addr} {m0 m1 m2 m3 m5 : Option Value}
    {od an : Option Addr} {sl : Array (Option Value)} {oc dc pm cd ct : Value} {p1 p2 q1 q2 q3 q4 : Pos} (X : K.In h) (G : h.Ns mainGlobals mg)
    (aC : PySem.W.nsIn K mainGlobals "DoesNotFit" = some (some (.ref C))) (aS : PySem.W.nsIn K mainGlobals "SockError" = some (some (.ref S))) (aR : PySem.W.nsIn K mainGlobals "InvalidRow" = some (some (.ref CR)))
    (aCC : PySem.W.nsIn K mainGlobals "InvalidColour" = some (some (.ref CC))) (aT : PySem.W.nsIn K mainGlobals "TooMany" = some (some (.ref CT)))
    (xL : K.lookup C = some (PySem.excClassObj nm q C N bs [.ref S, .type "ValueError", .type "Exception", .type "BaseException", .type "object"] true sn sub ab col dd m0 m1 m2 m3 m5 "ValueError.__new__"))
    (sa : PySem.W.findIn K (.ref C) "__setattr__" = some (some (.builtin "object.__setattr__"))) (ga : PySem.W.findIn K (.ref C) "__getattribute__" = some (some (.builtin "BaseException.__getattribute__"))) (gg : PySem.W.findIn K (.ref C) "__getattr__" = some none)
    (nb : PySem.W.findIn K (.ref C) "given" = some none) (a1 : PySem.W.findIn K (.ref C) "__init__" = some (some (.ref fI))) (t1 : PySem.W.typeIn K (.ref fI) = some (.type "function"))
    (l1 : K.lookup fI = some ⟨oc, od, .func (PySem.W.fnOf "__init__" "DoesNotFit.__init__" (PySem.LowDNF.iA p1 p2) (PySem.LowDNF.iB q1 q2 q3 q4) PySem.LowDNF.iS .none .none dc pm an cd ct), sl⟩) (c1 : PySem.W.codeIn K cd "DoesNotFit.__init__" = true)
    (kC : PySem.W.keepIn K (.ref C) = true) (eC : PySem.W.subIn K (.ref C) (.type "BaseException") = some true) (tC : PySem.W.typeIn K (.ref C) = some (.type "type")) (hC : PySem.W.hasDictIn K C = true)
    (eS : PySem.W.subIn K (.ref S) (.type "BaseException") = some true) (hS : PySem.W.hasDictIn K S = true) (tS : PySem.W.typeIn K (.ref S) = some (.type "type")) (sS : PySem.W.subIn K (.ref C) (.ref S) = some true)
    (cC : (PySem.W.clsIn K C).isSome = true) (ha : PySem.W.findIn K (.ref C) "__class__" = some (some (.builtin "object.__class__"))) (hn : PySem.W.specialIn K (.builtin "object.__class__") "__get__" = some (some (.builtin "getset_descriptor.__get__")))
    (ht : PySem.W.takesIn K (.builtin "object.__class__") = some true) (hm : PySem.W.mroIn K C (.type "object") = some true)
    (iR : PySem.W.kitOne K (.ref C) (.ref CR) = some false) (iC : PySem.W.kitOne K (.ref C) (.ref CC) = some false) (iT : PySem.W.kitOne K (.ref C) (.ref CT) = some false) (iV : PySem.W.kitOne K (.ref C) (.type "ValueError") = some true) :
    ∃ C fI S CR CC CT, DnF K mg C fI S CR CC CT :=
  ⟨C, fI, S, CR, CC, CT, { low := { gC := PySem.W.mg_of X G aC, cls := ⟨nm, q, N, bs, _, sn, sub, ab, col, dd, m0, m1, m2, m3, m5, xL, by rfl⟩, sa := sa, ga := ga, gg := gg, noN := nb, iC := a1, tC := t1, kC := kC, exC := eC, tyC := tC, hdC := hC, fn := ⟨_, _, _, _, _, _, _, _, _, _, _, _, _, _, l1, c1⟩ }, gS := PySem.W.mg_of X G aS, gR := PySem.W.mg_of X G aR, gCC := PySem.W.mg_of X G aCC, gT := PySem.W.mg_of X G aT, te := PySem.W.exm_ref eS hS tS sS, ex := ⟨cC, ga, gg, eC, ha, hn, ht, hm⟩, iR := iR, iC := iC, iT := iT, iV := iV }⟩
end DL
end P_DLx
section P_DLxr
set_option Elab.async false
set_option linter.all false
set_option maxRecDepth 100000
set_option maxHeartbeats 2000000
/-! An error of the class InvalidRow: made, raised, its field read (turned from the worked proof of an own error with a field). -/
namespace PySem
namespace LowIR
open PySem.W PySem.Calls PyProof.Rows PySem.HandSPX
/-! ### the text of __init__ -/
def iA (p1 p2 : Pos) : Arguments := { posonlyargs := [], args := [{ arg := "self", annotation := none, pos := p1 }, { arg := "given", annotation := none, pos := p2 }], vararg := none, kwonlyargs := [], kw_defaults := [], kwarg := none, defaults := [] }
def iB (q1 q2 q3 q4 : Pos) : List Stmt := [.Assign [.Attribute (.Name "self" q1) "given" q2] (.Name "given" q3) q4]
def iS : Scope := { kind := .function, names := [(PySem.Str.ofString "self", .local), (PySem.Str.ofString "given", .local)], isGenerator := false, isCoroutine := false, more := [] }
/-- what the written part says of Low, at C, and of its __init__, at fI -/
structure LowTxt (K : Frag) (mg : Str → Option Value) (C fI : Addr) : Prop where
  gC : mg "InvalidRow" = some (.ref C)
  cls : ∃ nm q N bs bm sn sub ab col dd k0 k1 k2 k3 k5, K.lookup C = some (excClassObj nm q C N bs bm true sn sub ab col dd k0 k1 k2 k3 k5 "ValueError.__new__") ∧ refsVE bm = true
  sa : findIn K (.ref C) "__setattr__" = some (some (.builtin "object.__setattr__"))
  ga : findIn K (.ref C) "__getattribute__" = some (some (.builtin "BaseException.__getattribute__"))
  gg : findIn K (.ref C) "__getattr__" = some none
  noN : findIn K (.ref C) "given" = some none
  iC : findIn K (.ref C) "__init__" = some (some (.ref fI))
  tC : typeIn K (.ref fI) = some (.type "function")
  kC : keepIn K (.ref C) = true
  exC : subIn K (.ref C) (.type "BaseException") = some true
  tyC : typeIn K (.ref C) = some (.type "type")
  hdC : hasDictIn K C = true
  fn : ∃ (oc : Value) (od : Option Addr) (doc pm : Value) (an : Option Addr) (cdv ct : Value) (osl : Array (Option Value)) (p1 p2 q1 q2 q3 q4 : Pos),
    K.lookup fI = some ⟨oc, od, .func (fnOf "__init__" "InvalidRow.__init__" (iA p1 p2) (iB q1 q2 q3 q4) iS .none .none doc pm an cdv ct), osl⟩ ∧ codeIn K cdv "InvalidRow.__init__" = true
theorem one_size (v : Value) : [v].length ≤ sizeLine := by
  rw [sizeLine_eq]
  exact (by decide : 1 ≤ 16777216)
theorem kept_but {K : Frag} {h h' : Heap} {x : Addr} (X : K.In h) (hx : K.lookup x = none) (k : ∀ b o, b ≠ x → h.get? b = some o → h'.get? b = some o) : K.In h' := fun a o e =>
  k a o (fun z => by rw [z, hx] at e; cases e) (X a o e)
theorem ldC {M : Model} {s : Shared} {name : Str} {scope : Scope} {L a : Addr} {cd : Value} {m : Str → Option Value} {x : Str} {pos : Pos} {v : Value} {Q : Value → Shared → Prop} {A : Around} {E : Value → Shared → Prop} (hn : s.heap.Ns L m) (hv : m x = some v) (h : Q v s)
    (hk : scope.kind = .function := by rfl) (hl : (envOfC name scope L a cd).kindOf x = some .local := by rfl) (hd : (x == ("__debug__" : Str)) = false := by decide) :
    wpAny M A (eval (.Name x pos) (envOfC name scope L a cd)) Q E s := wpAny_Name (wpAny_loadName_local hk hl hn hv h) hd
/-- what __init__ leaves of a fresh exception at x -/
structure InitEnd (h h' : Heap) (x C dx t1 : Addr) (v : Value) : Prop where
  keep : ∀ b o, b ≠ x → h.get? b = some o → h'.get? b = some o
  obj : h'.get? x = some { cls := .ref C, dict := some dx, data := .fields #[.ref t1, .none, .none, .none, .bool false, .none] }
  dbig : h.objs.size ≤ dx
  dne : dx ≠ x
  ns : h'.Ns1 dx (fun y => if y = "given" then some v else none)
/-- a made Low -/
structure OwnMade (h h' : Heap) (e C d : Addr) (v : Value) : Prop where
  keep : ∀ b o, h.get? b = some o → h'.get? b = some o
  new : h.objs.size ≤ e
  obj : ∃ oe vs, h'.get? e = some oe ∧ oe.cls = .ref C ∧ oe.dict = some d ∧ oe.data = .fields vs ∧ vs[1]? = some .none
  dbig : h.objs.size ≤ d
  dne : d ≠ e
  ns : h'.Ns1 d (fun y => if y = "given" then some v else none)
section
variable {prog : Program} {w : World} {A : Around} {E : Value → Shared → Prop} {R : Result → Shared → Prop} {s : Shared} {K : Frag} {mg : Str → Option Value} {C fI : Addr}
theorem low_init (T : LowTxt K mg C fI) {x t0 : Addr} {v : Value} (X : K.In s.heap) (hlim : s.heap.NoLimit) (hx : s.heap.get? x = some (excO C t0)) (hnx : K.lookup x = none) (hroom : A.depth < recursionLimit)
    (hq : ∀ h' tk dx, InitEnd s.heap h' x C dx t0 v → R (.ok (.ret .none)) { s with heap := h', toks := tk }) :
    codeAny (model prog w) A (.call (.ref fI) ⟨[.ref x, v], []⟩) R s := by
  obtain ⟨oc, od, doc, pm, an, cdv, ct, osl, p1, p2, q1, q2, q3, q4, ho, hcd⟩ := T.fn
  obtain ⟨nm, q, N, bs, bm, sn, sub, ab, col, dd, k0, k1, k2, k3, k5, hC, hbm⟩ := T.cls
  have hcl : clsIn K C = some { name := nm, bases := bs, mro := .ref C :: bm, ns := N, qualname := q, hasDict := true, slotNames := sn, subclasses := sub, abstract := ab, collection := col, hasDel := false } := by unfold clsIn; rw [hC] <;> rfl
  refine Att.call_fn (binds := [("self", .ref x), ("given", v)]) X hlim ho hcd hroom (BindsTo.of_eq (by first | rfl | with_unfolding_all rfl)) (by first | rfl | decide | with_unfolding_all rfl) (fun s₁ IC => ?_) rfl rfl rfl
  obtain ⟨h₁, tk₁, rfl⟩ := IC.toInCall.same
  have k : ∀ b o, s.heap.get? b = some o → h₁.get? b = some o := IC.toInCall.keep
  have hn := IC.toInCall.ns
  have hxL : s.heap.objs.size ≠ x := Nat.ne_of_gt (Heap.lt_size hx)
  have X₁ : K.In h₁ := X.keeps k
  have hx₁ := k _ _ hx
  -- self.by = by
  show wpAny _ _ (execs _ _) _ _ _
  refine wpAny_execs_cons (plainObj_wpAny_Assign_Attribute ?_)
  refine ldC (v := v) hn (by first | rfl | with_unfolding_all rfl | kernel_rfl) (ldC (v := .ref x) hn (by first | rfl | with_unfolding_all rfl | kernel_rfl) ?_)
  refine set_plain X₁ (ox := excO C t0) (od := none) ⟨hx₁, rfl, rfl, trivial⟩ T.sa ?_
  refine exc_osa X₁ hx₁ hcl (show refsVE (.ref C :: bm) = true from hbm) rfl T.noN (fun h₃ tk₃ dx k₃ dn dne hx₃ hn₃ => ?_)
  show wpAny _ _ (execs _ _) _ _ _
  have z : s.heap.objs.size < h₁.objs.size := hn.lt
  exact wpAny_execs_nil (hq h₃ tk₃ dx ⟨fun b o hb e => k₃ b o hb (k b o e), hx₃, Nat.le_of_lt (Nat.lt_of_lt_of_le z dn), dne, hn₃⟩)
theorem low_made (T : LowTxt K mg C fI) {v : Value} (X : K.In s.heap) (hlim : s.heap.NoLimit) (hroom : A.depth + 1 < recursionLimit)
    (hq : ∀ h' tk e d, OwnMade s.heap h' e C d v → R (.ok (.ret (.ref e))) { s with heap := h', toks := tk }) :
    codeAny (model prog w) A (.call (.ref C) ⟨[v], []⟩) R s := by
  obtain ⟨nm, q, N, bs, bm, sn, sub, ab, col, dd, k0, k1, k2, k3, k5, hC, hbm⟩ := T.cls
  obtain ⟨hp, g, dr, tk, os⟩ := s
  have k : ∀ b o, hp.get? b = some o → ((hp.push (kdv_tup [v])).push (excO C hp.objs.size)).get? b = some o := fun b o e => Heap.get?_push_of_some _ (Heap.get?_push_of_some _ e)
  have hget : ((hp.push (kdv_tup [v])).push (excO C hp.objs.size)).get? (hp.objs.size + 1) = some (excO C hp.objs.size) := by heap_get
  have hnx : K.lookup (hp.objs.size + 1) = none := by
    cases e : K.lookup (hp.objs.size + 1) with
    | none => rfl
    | some o =>
      have z : hp.get? (hp.objs.size + 1) = some o := X _ _ e
      exact absurd (Nat.lt_of_succ_lt (Heap.lt_size z)) (Nat.lt_irrefl _)
  refine call_own F.excBase_ValueError (fun X => refsVE_contains X bm hbm) (X _ _ hC) (looks_findIn X T.iC) (fun self => bind_fn X self T.tC) (one_size v) ?_
  refine low_init (s := ⟨(hp.push (kdv_tup [v])).push (excO C hp.objs.size), g, dr, tk, os⟩) T (X.keeps k) (hlim.keeps k) hget hnx ?_ fun h' tk' dx ⟨k', hx, dn, dne, hns⟩ => ?_
  · show A.depth + 1 < recursionLimit
    exact hroom
  · have old : ∀ b o, hp.get? b = some o → h'.get? b = some o := fun b o e => k' b o (Nat.ne_of_lt (Nat.lt_succ_of_lt (Heap.lt_size e))) (k b o e)
    have z : hp.objs.size + 1 + 1 ≤ dx := by
      first
        | (simpa only [Heap.size_push] using dn)
        | exact dn
        | (have q := dn; rw [Heap.size_push, Heap.size_push] at q; exact q)
    exact ⟨rfl, hq h' tk' (hp.objs.size + 1) dx ⟨old, Nat.le_succ _, ⟨_, _, hx, rfl, rfl, rfl, rfl⟩, Nat.le_trans (Nat.le_trans (Nat.le_succ _) (Nat.le_succ _)) z, dne, hns⟩⟩
end
end LowIR
end PySem
namespace L2
open PySem PySem.Spec PyProof.Rows
theorem relO_low_ir {v : V} {v' : Value} (r : RelV v v') (f : Str) : RelO (List.lookup f [(("given" : Str), v)]) (if f = "given" then some v' else none) := by
  by_cases hw : f = "given"
  · subst hw
    rw [if_pos rfl]
    have q : List.lookup ("given" : Str) [(("given" : Str), v)] = some v := by simp [List.lookup]
    rw [q]
    exact r
  · rw [if_neg hw]
    have qw : (f == ("given" : Str)) = false := by simpa using hw
    have q2 : List.lookup f [(("given" : Str), v)] = none := by simp [List.lookup, qw]
    rw [q2]
    trivial
section
variable {X : Cx} {C fI : Addr}
/-- Low(e) -/
def tMkLow_ir (C : Addr) (ta : TA) : St → Hp → XK → Prop := fun σ H Q => ta σ H fun vs H1 => ∃ v, vs = [v] ∧ ∀ d, H1 d = none → Q (.ref C) (some d) (upd H1 d (.xd [(("given" : Str), v)]))
theorem pmk_low_ir {a : Expr} {ta : TA} {p pos : Pos} {k : Nat} (T : PySem.LowIR.LowTxt X.K X.mg C fI) (hr : Room k X.A) (ha : PA X [a] ta) (hg : Gl X "InvalidRow" := by rfl)
    (he : starEach (a :: []) X.env = (false, eval a X.env) :: starEach [] X.env := by rfl) (hpl : (backTo pos (starEach [] X.env)).any (·.1) = false := by rfl) :
    PMk X (.Call (.Name "InvalidRow" p) [a] [] pos) (tMkLow_ir C ta) := by
  intro pins s σ H Q I h
  refine wpAny_Call_Name_kw (ld_glob I hg T.gC ?_)
  refine PySem.W.callWith_K (h₀ := X.base) I.ok.mod.kin T.kC (thn (ha.run pos pins s σ H _ I h) fun us s1 hh => ?_) he hpl
  obtain ⟨vs, H1, I1, r1, v, ev, q1⟩ := hh
  subst ev
  refine ⟨I1.kIn, ?_⟩
  cases r1 with
  | cons rv rn =>
    rename_i v' us'
    cases rn
    show wpAny _ _ (call (.ref C) [v']) _ _ _
    have hlim := I1.nolimit
    obtain ⟨hp, g, dr, tk, os⟩ := s1
    refine wpAny_call (PySem.LowIR.low_made T I1.kIn hlim (by have := hr.dp; omega) fun h' tk' e d M => ?_)
    show MkP X pins σ Q (.ref e) ⟨h', g, dr, tk', os⟩
    obtain ⟨oe, fv, hoe, hc, hd, hdat, h1⟩ := M.obj
    have hns := M.ns
    obtain ⟨G', g1, g2⟩ := restrict h' fun b => decide (b ≠ e)
    have gk : ∀ b, b ≠ e → G'.get? b = h'.get? b := fun b hb => g1 b (decide_eq_true hb)
    have ge : G'.get? e = none := g2 e (by simp)
    have old : ∀ b o, hp.get? b = some o → G'.get? b = some o := fun b o q => (gk b (Nat.ne_of_lt (Nat.lt_of_lt_of_le (Heap.lt_size q) M.new))).trans (M.keep b o q)
    have ob : ObjOk X.prog X.w (upd H1 d (.xd [(("given" : Str), v)])) G' d (.xd [(("given" : Str), v)]) :=
      ⟨_, hns.at (fun o q => (gk d M.dne).trans q), fun f => relO_low_ir rv f⟩
    have J : Inv X pins σ (upd H1 d (.xd [(("given" : Str), v)])) ⟨G', g, dr, tk', os⟩ := I1.laid (t' := tk') old M.dbig ob
    refine ⟨e, oe, fv, ⟨G', g, dr, tk', os⟩, _, .ref C, some d, rfl, J, fun b o q => ?_, ge, hoe, ⟨hc, hd⟩, hdat, h1, ?_, rfl, I1.bare, raises_own T.exC T.tyC, q1 d (I1.hok.fresh M.dbig)⟩
    · by_cases hb : b = e
      · have q' : G'.get? b = some o := q
        rw [hb, ge] at q'; cases q'
      · exact (gk b hb).symm.trans q
    · rw [upd_ne (Ne.symm M.dne)]
      exact I1.hok.fresh M.new
/-- raise Low(e) -/
def tRaiseLow_ir (C : Addr) (W : WX) (ta : TA) : TS := fun _ σ H => tMkLow_ir C ta σ H fun cls d H' => W cls d σ H'
theorem ps_raiseLow_ir {a : Expr} {ta : TA} {W : WX} {p pos pos2 : Pos} {k : Nat} (hc : X.calm = true) (T : PySem.LowIR.LowTxt X.K X.mg C fI) (hr : Room k X.A) (tk : Takes X W) (ha : PA X [a] ta) (hg : Gl X "InvalidRow" := by rfl)
    (he : starEach (a :: []) X.env = (false, eval a X.env) :: starEach [] X.env := by rfl) (hpl : (backTo pos (starEach [] X.env)).any (·.1) = false := by rfl) :
    PS X (.Raise (some (.Call (.Name "InvalidRow" p) [a] [] pos)) none pos2) (tRaiseLow_ir C W ta) := ps_raise hc tk (pmk_low_ir T hr ha hg he hpl)
/-- low.by, low the exception that the suite holds (at a; its class cls, its dict d) -/
def tByLow_ir (C : Addr) (a : Addr) (cls : Value) (d : Option Addr) (te : TE) : TE := fun σ H Q => te σ H fun x H1 => x = .ref a ∧ cls = .ref C ∧ ∃ (dd : Addr) (v : V), d = some dd ∧ H1 dd = some (.xd [(("given" : Str), v)]) ∧ Q v H1
theorem pe_byLow_ir {a : Addr} {oe : Obj} {cls : Value} {d : Option Addr} {pn : List (Addr × Obj)} {e : Expr} {te : TE} {pos : Pos} (T : PySem.LowIR.LowTxt X.K X.mg C fI) (hz : Zc cls d oe) (hf : ∃ vs, oe.data = .fields vs) (he : PE (X.suite a ((a, oe) :: pn)) e te)
    (hb : attributeBase e "given" X.env (eval e X.env) = eval e X.env := by rfl) :
    PE (X.suite a ((a, oe) :: pn)) (.Attribute e "given" pos) (tByLow_ir C a cls d te) := by
  refine ⟨fun pins s σ H Q I h => ?_⟩
  refine attr_of hb (thn (he.run pins s σ H _ I h) fun u s1 hh => ?_)
  obtain ⟨x, H1, I1, rx, ex, ec, dd, v, ed, ea, q⟩ := hh
  subst ex
  obtain rfl : u = Value.ref a := rx
  subst ec
  subst ed
  obtain ⟨ha, _⟩ := I1.pin (a, oe) (List.mem_append_left _ List.mem_cons_self)
  obtain ⟨vs, hd⟩ := hf
  have hx : ObjOk X.prog X.w H1 s1.heap dd (.xd [(("given" : Str), v)]) := I1.hok dd _ ea
  obtain ⟨mA, hns, hr⟩ := hx
  obtain ⟨od, ho, hl⟩ := lookIn_ns hns
  have l : List.lookup ("given" : Str) [(("given" : Str), v)] = some v := by simp [List.lookup]
  obtain ⟨u, hu, ru⟩ := RelO.some_of (v := v) (o := mA "given") (by rw [← l]; exact hr "given")
  have J : PySem.W.InstAt s1.heap a oe C (some od) := ⟨ha, hz.1, by unfold PySem.W.notCls; rw [hd] <;> rfl, by rw [hz.2]; exact ho⟩
  exact HandSPX.exc_get I1.kIn J T.ga T.gg T.exC (PySem.W.findObj_own T.hdC T.noN rfl (by rw [hl, hu])) (handed_of ru) ⟨v, H1, I1.tok _, ru, q⟩
end
end L2
end P_DLxr
section P_DLxq
set_option Elab.async false
set_option linter.all false
set_option maxRecDepth 100000
set_option maxHeartbeats 2000000
/-! Defs read only where they raise InvalidRow; a try that always catches it. -/
namespace DL
open PySem PySem.Spec PyProof.Rows L2
/-- such a def raises C with x of its arguments in the field -/
def spR (K : Fr) (C : Addr) (n : Nat) (x : List Val → Mem → Res D) : Sp := fun vs H _ E => vs.length = n ∧ ∃ xs M F μ d0 M', Sim K F μ M H ∧ RepVs K F μ xs vs ∧ x xs M = .ok d0 M' ∧
    ∀ F' μ' H' d v, StepE F μ H F' μ' H' → Sim K F' μ' M' H' → H' d = some (.xd [(("given" : Str), v)]) → Rep K F' d0 v → E (.ref C) (some d) H'
theorem pss_dead {X : Cx} {b : List Stmt} : PSs X b (fun _ _ _ => False) := ⟨fun _ _ _ _ _ _ h => h.elim⟩
/-- a def of one parameter that raises where fT is true of it -/
def xIf (fT : Sl → Mem → Res Bool) : List Val → Mem → Res D := fun xs M => match xs with
  | [.d v] => (fT [some (.d v)] M).bind fun b M1 => if b then .ok v M1 else .bad
  | _ => .bad
theorem raiseIf {K : Fr} {C : Addr} {x0 : Str} {vs : List V} {H : Hp} {Q : VK} {E : XK} {fT : Sl → Mem → Res Bool} {D : Ends} (h : spR K C 1 (xIf fT) vs H Q E) :
    tIfS (LT K fT) (tRaiseLow_ir C (fun cls d _ H => E cls d H) (tCons (tVar 0) tNil)) tNext D (L2.start [x0] vs) H := by
  obtain ⟨hl, xs, M, F, μ, d0, M', S, r, e0, k⟩ := h
  match xs, r, e0 with
  | [.d v], r, e0 =>
    obtain ⟨b, M2, e2, e0⟩ := bind_ok e0
    cases b with
    | false => cases e0
    | true =>
      rw [if_pos rfl] at e0
      cases e0
      have R0 : RepS K F μ [some (.d d0)] (L2.start [x0] vs) := RepS.start (m := 0) r rfl
      refine ⟨[some (.d d0)], M, F, μ, true, M', S, R0, e2, fun F2 μ2 H2 st2 S2 => ?_⟩
      refine if_tt ?_
      obtain ⟨w, hw, rw'⟩ := R0.at_ 0 (.d d0) rfl
      refine ⟨w, hw, w, rfl, fun d hd => ?_⟩
      have n := NewF.alloc S2.sub hd (.xd [(("given" : Str), w)])
      exact k _ μ2 _ d w (st2.transE n.step) (n.sim S2) upd_same (Rep.mono n.fr (Rep.mono st2.fr rw'))
/-- a def that first hands its one argument to such a def -/
theorem raiseCall {K : Fr} {C : Addr} {x0 : Str} {vs : List V} {H : Hp} {Q : VK} {E : XK} {x : List Val → Mem → Res D} {u : TS} {D : Ends} (h : spR K C 1 x vs H Q E) :
    tSeq (tDrop (tCallS (spR K C 1 x) (WE fun cls d _ H => E cls d H) (tCons (tVar 0) tNil))) u D (L2.start [x0] vs) H := by
  have hl := h.1
  match vs, hl, h with
  | [v], _, h => exact ⟨v, rfl, h⟩
/-- the class InvalidRow at C, its __init__ at fI, the base at S -/
structure IvR (K : Fr) (mg : Str → Option Value) (C fI S : Addr) : Prop where
  low : PySem.LowIR.LowTxt K mg C fI
  gS : mg "SockError" = some (.ref S)
  te : PySem.W.exmOne K (.ref C) (.ref S) = some true
  ex : ExcD K C
theorem mk_ivr {K : Fr} {h : Heap} {mg : Str → Option Value} {C fI S N : Addr} {nm q : Str} {bs : List Value} {sn : List Str} {sub : List Value} {ab : Bool} {col : Option Bool} {dd : Option Addr} {m0 m1 m2 m3 m5 : Option Value}
    {od an : Option Addr} {sl : Array (Option Value)} {oc dc pm cd ct : Value} {p1 p2 q1 q2 q3 q4 : Pos} (X : K.In h) (G : h.Ns mainGlobals mg)
    (aC : PySem.W.nsIn K mainGlobals "InvalidRow" = some (some (.ref C))) (aS : PySem.W.nsIn K mainGlobals "SockError" = some (some (.ref S)))
    (xL : K.lookup C = some (PySem.excClassObj nm q C N bs [.ref S, .type "ValueError", .type "Exception", .type "BaseException", .type "object"] true sn sub ab col dd m0 m1 m2 m3 m5 "ValueError.__new__"))
    (sa : PySem.W.findIn K (.ref C) "__setattr__" = some (some (.builtin "object.__setattr__"))) (ga : PySem.W.findIn K (.ref C) "__getattribute__" = some (some (.builtin "BaseException.__getattribute__"))) (gg : PySem.W.findIn K (.ref C) "__getattr__" = some none)
    (nb : PySem.W.findIn K (.ref C) "given" = some none) (a1 : PySem.W.findIn K (.ref C) "__init__" = some (some (.ref fI))) (t1 : PySem.W.typeIn K (.ref fI) = some (.type "function"))
    (l1 : K.lookup fI = some ⟨oc, od, .func (PySem.W.fnOf "__init__" "InvalidRow.__init__" (PySem.LowIR.iA p1 p2) (PySem.LowIR.iB q1 q2 q3 q4) PySem.LowIR.iS .none .none dc pm an cd ct), sl⟩) (c1 : PySem.W.codeIn K cd "InvalidRow.__init__" = true)
    (kC : PySem.W.keepIn K (.ref C) = true) (eC : PySem.W.subIn K (.ref C) (.type "BaseException") = some true) (tC : PySem.W.typeIn K (.ref C) = some (.type "type")) (hC : PySem.W.hasDictIn K C = true)
    (eS : PySem.W.subIn K (.ref S) (.type "BaseException") = some true) (hS : PySem.W.hasDictIn K S = true) (tS : PySem.W.typeIn K (.ref S) = some (.type "type")) (sS : PySem.W.subIn K (.ref C) (.ref S) = some true)
    (cC : (PySem.W.clsIn K C).isSome = true) (ha : PySem.W.findIn K (.ref C) "__class__" = some (some (.builtin "object.__class__"))) (hn : PySem.W.specialIn K (.builtin "object.__class__") "__get__" = some (some (.builtin "getset_descriptor.__get__")))
    (ht : PySem.W.takesIn K (.builtin "object.__class__") = some true) (hm : PySem.W.mroIn K C (.type "object") = some true) :
    ∃ C fI S, IvR K mg C fI S :=
  ⟨C, fI, S, { low := { gC := PySem.W.mg_of X G aC, cls := ⟨nm, q, N, bs, _, sn, sub, ab, col, dd, m0, m1, m2, m3, m5, xL, by rfl⟩, sa := sa, ga := ga, gg := gg, noN := nb, iC := a1, tC := t1, kC := kC, exC := eC, tyC := tC, hdC := hC, fn := ⟨_, _, _, _, _, _, _, _, _, _, _, _, _, _, l1, c1⟩ }, gS := PySem.W.mg_of X G aS, te := PySem.W.exm_ref eS hS tS sS, ex := ⟨cC, ga, gg, eC, ha, hn, ht, hm⟩ }⟩
theorem RepS.unset {K : Fr} {F : Hp} {μ : List Addr} {δ : Sl} {σ : L2.St} (R : RepS K F μ δ σ) {i : Nat} (h : ∀ x, δ[i]? ≠ some (some x)) : RepS K F μ δ (σ.set i none) := by
  refine ⟨by rw [List.length_set]; exact R.len, fun j x e => ?_⟩
  by_cases hj : i = j
  · rw [hj] at h; exact absurd e (h x)
  · rw [List.getElem?_set_ne hj]; exact R.at_ j x e
theorem RepS.any {K : Fr} {F : Hp} {μ : List Addr} {δ : Sl} {σ : L2.St} (R : RepS K F μ δ σ) {i : Nat} {v : V} (h : ∀ x, δ[i]? ≠ some (some x)) : RepS K F μ δ (σ.set i (some v)) := by
  refine ⟨by rw [List.length_set]; exact R.len, fun j x e => ?_⟩
  by_cases hj : i = j
  · rw [hj] at h; exact absurd e (h x)
  · rw [List.getElem?_set_ne hj]; exact R.at_ j x e
end DL
end P_DLxq
section P_DLxc
set_option Elab.async false
set_option linter.all false
set_option maxRecDepth 100000
set_option maxHeartbeats 2000000
/-! An error of the class InvalidColour: made, raised, its field read (turned from the worked proof of an own error with a field). -/
namespace PySem
namespace LowIC
open PySem.W PySem.Calls PyProof.Rows PySem.HandSPX
/-! ### the text of __init__ -/
def iA (p1 p2 : Pos) : Arguments := { posonlyargs := [], args := [{ arg := "self", annotation := none, pos := p1 }, { arg := "given", annotation := none, pos := p2 }], vararg := none, kwonlyargs := [], kw_defaults := [], kwarg := none, defaults := [] }
def iB (q1 q2 q3 q4 : Pos) : List Stmt := [.Assign [.Attribute (.Name "self" q1) "given" q2] (.Name "given" q3) q4]
def iS : Scope := { kind := .function, names := [(PySem.Str.ofString "self", .local), (PySem.Str.ofString "given", .local)], isGenerator := false, isCoroutine := false, more := [] }
/-- what the written part says of Low, at C, and of its __init__, at fI -/
structure LowTxt (K : Frag) (mg : Str → Option Value) (C fI : Addr) : Prop where
  gC : mg "InvalidColour" = some (.ref C)
  cls : ∃ nm q N bs bm sn sub ab col dd k0 k1 k2 k3 k5, K.lookup C = some (excClassObj nm q C N bs bm true sn sub ab col dd k0 k1 k2 k3 k5 "ValueError.__new__") ∧ refsVE bm = true
  sa : findIn K (.ref C) "__setattr__" = some (some (.builtin "object.__setattr__"))
  ga : findIn K (.ref C) "__getattribute__" = some (some (.builtin "BaseException.__getattribute__"))
  gg : findIn K (.ref C) "__getattr__" = some none
  noN : findIn K (.ref C) "given" = some none
  iC : findIn K (.ref C) "__init__" = some (some (.ref fI))
  tC : typeIn K (.ref fI) = some (.type "function")
  kC : keepIn K (.ref C) = true
  exC : subIn K (.ref C) (.type "BaseException") = some true
  tyC : typeIn K (.ref C) = some (.type "type")
  hdC : hasDictIn K C = true
  fn : ∃ (oc : Value) (od : Option Addr) (doc pm : Value) (an : Option Addr) (cdv ct : Value) (osl : Array (Option Value)) (p1 p2 q1 q2 q3 q4 : Pos),
    K.lookup fI = some ⟨oc, od, .func (fnOf "__init__" "InvalidColour.__init__" (iA p1 p2) (iB q1 q2 q3 q4) iS .none .none doc pm an cdv ct), osl⟩ ∧ codeIn K cdv "InvalidColour.__init__" = true
theorem one_size (v : Value) : [v].length ≤ sizeLine := by
  rw [sizeLine_eq]
  exact (by decide : 1 ≤ 16777216)
theorem kept_but {K : Frag} {h h' : Heap} {x : Addr} (X : K.In h) (hx : K.lookup x = none) (k : ∀ b o, b ≠ x → h.get? b = some o → h'.get? b = some o) : K.In h' := fun a o e =>
  k a o (fun z => by rw [z, hx] at e; cases e) (X a o e)
theorem ldC {M : Model} {s : Shared} {name : Str} {scope : Scope} {L a : Addr} {cd : Value} {m : Str → Option Value} {x : Str} {pos : Pos} {v : Value} {Q : Value → Shared → Prop} {A : Around} {E : Value → Shared → Prop} (hn : s.heap.Ns L m) (hv : m x = some v) (h : Q v s)
    (hk : scope.kind = .function := by rfl) (hl : (envOfC name scope L a cd).kindOf x = some .local := by rfl) (hd : (x == ("__debug__" : Str)) = false := by decide) :
    wpAny M A (eval (.Name x pos) (envOfC name scope L a cd)) Q E s := wpAny_Name (wpAny_loadName_local hk hl hn hv h) hd
/-- what __init__ leaves of a fresh exception at x -/
structure InitEnd (h h' : Heap) (x C dx t1 : Addr) (v : Value) : Prop where
  keep : ∀ b o, b ≠ x → h.get? b = some o → h'.get? b = some o
  obj : h'.get? x = some { cls := .ref C, dict := some dx, data := .fields #[.ref t1, .none, .none, .none, .bool false, .none] }
  dbig : h.objs.size ≤ dx
  dne : dx ≠ x
  ns : h'.Ns1 dx (fun y => if y = "given" then some v else none)
/-- a made Low -/
structure OwnMade (h h' : Heap) (e C d : Addr) (v : Value) : Prop where
  keep : ∀ b o, h.get? b = some o → h'.get? b = some o
  new : h.objs.size ≤ e
  obj : ∃ oe vs, h'.get? e = some oe ∧ oe.cls = .ref C ∧ oe.dict = some d ∧ oe.data = .fields vs ∧ vs[1]? = some .none
  dbig : h.objs.size ≤ d
  dne : d ≠ e
  ns : h'.Ns1 d (fun y => if y = "given" then some v else none)
section
variable {prog : Program} {w : World} {A : Around} {E : Value → Shared → Prop} {R : Result → Shared → Prop} {s : Shared} {K : Frag} {mg : Str → Option Value} {C fI : Addr}
theorem low_init (T : LowTxt K mg C fI) {x t0 : Addr} {v : Value} (X : K.In s.heap) (hlim : s.heap.NoLimit) (hx : s.heap.get? x = some (excO C t0)) (hnx : K.lookup x = none) (hroom : A.depth < recursionLimit)
    (hq : ∀ h' tk dx, InitEnd s.heap h' x C dx t0 v → R (.ok (.ret .none)) { s with heap := h', toks := tk }) :
    codeAny (model prog w) A (.call (.ref fI) ⟨[.ref x, v], []⟩) R s := by
  obtain ⟨oc, od, doc, pm, an, cdv, ct, osl, p1, p2, q1, q2, q3, q4, ho, hcd⟩ := T.fn
  obtain ⟨nm, q, N, bs, bm, sn, sub, ab, col, dd, k0, k1, k2, k3, k5, hC, hbm⟩ := T.cls
  have hcl : clsIn K C = some { name := nm, bases := bs, mro := .ref C :: bm, ns := N, qualname := q, hasDict := true, slotNames := sn, subclasses := sub, abstract := ab, collection := col, hasDel := false } := by unfold clsIn; rw [hC] <;> rfl
  refine Att.call_fn (binds := [("self", .ref x), ("given", v)]) X hlim ho hcd hroom (BindsTo.of_eq (by first | rfl | with_unfolding_all rfl)) (by first | rfl | decide | with_unfolding_all rfl) (fun s₁ IC => ?_) rfl rfl rfl
  obtain ⟨h₁, tk₁, rfl⟩ := IC.toInCall.same
  have k : ∀ b o, s.heap.get? b = some o → h₁.get? b = some o := IC.toInCall.keep
  have hn := IC.toInCall.ns
  have hxL : s.heap.objs.size ≠ x := Nat.ne_of_gt (Heap.lt_size hx)
  have X₁ : K.In h₁ := X.keeps k
  have hx₁ := k _ _ hx
  -- self.by = by
  show wpAny _ _ (execs _ _) _ _ _
  refine wpAny_execs_cons (plainObj_wpAny_Assign_Attribute ?_)
  refine ldC (v := v) hn (by first | rfl | with_unfolding_all rfl | kernel_rfl) (ldC (v := .ref x) hn (by first | rfl | with_unfolding_all rfl | kernel_rfl) ?_)
  refine set_plain X₁ (ox := excO C t0) (od := none) ⟨hx₁, rfl, rfl, trivial⟩ T.sa ?_
  refine exc_osa X₁ hx₁ hcl (show refsVE (.ref C :: bm) = true from hbm) rfl T.noN (fun h₃ tk₃ dx k₃ dn dne hx₃ hn₃ => ?_)
  show wpAny _ _ (execs _ _) _ _ _
  have z : s.heap.objs.size < h₁.objs.size := hn.lt
  exact wpAny_execs_nil (hq h₃ tk₃ dx ⟨fun b o hb e => k₃ b o hb (k b o e), hx₃, Nat.le_of_lt (Nat.lt_of_lt_of_le z dn), dne, hn₃⟩)
theorem low_made (T : LowTxt K mg C fI) {v : Value} (X : K.In s.heap) (hlim : s.heap.NoLimit) (hroom : A.depth + 1 < recursionLimit)
    (hq : ∀ h' tk e d, OwnMade s.heap h' e C d v → R (.ok (.ret (.ref e))) { s with heap := h', toks := tk }) :
    codeAny (model prog w) A (.call (.ref C) ⟨[v], []⟩) R s := by
  obtain ⟨nm, q, N, bs, bm, sn, sub, ab, col, dd, k0, k1, k2, k3, k5, hC, hbm⟩ := T.cls
  obtain ⟨hp, g, dr, tk, os⟩ := s
  have k : ∀ b o, hp.get? b = some o → ((hp.push (kdv_tup [v])).push (excO C hp.objs.size)).get? b = some o := fun b o e => Heap.get?_push_of_some _ (Heap.get?_push_of_some _ e)
  have hget : ((hp.push (kdv_tup [v])).push (excO C hp.objs.size)).get? (hp.objs.size + 1) = some (excO C hp.objs.size) := by heap_get
  have hnx : K.lookup (hp.objs.size + 1) = none := by
    cases e : K.lookup (hp.objs.size + 1) with
    | none => rfl
    | some o =>
      have z : hp.get? (hp.objs.size + 1) = some o := X _ _ e
      exact absurd (Nat.lt_of_succ_lt (Heap.lt_size z)) (Nat.lt_irrefl _)
  refine call_own F.excBase_ValueError (fun X => refsVE_contains X bm hbm) (X _ _ hC) (looks_findIn X T.iC) (fun self => bind_fn X self T.tC) (one_size v) ?_
  refine low_init (s := ⟨(hp.push (kdv_tup [v])).push (excO C hp.objs.size), g, dr, tk, os⟩) T (X.keeps k) (hlim.keeps k) hget hnx ?_ fun h' tk' dx ⟨k', hx, dn, dne, hns⟩ => ?_
  · show A.depth + 1 < recursionLimit
    exact hroom
  · have old : ∀ b o, hp.get? b = some o → h'.get? b = some o := fun b o e => k' b o (Nat.ne_of_lt (Nat.lt_succ_of_lt (Heap.lt_size e))) (k b o e)
    have z : hp.objs.size + 1 + 1 ≤ dx := by
      first
        | (simpa only [Heap.size_push] using dn)
        | exact dn
        | (have q := dn; rw [Heap.size_push, Heap.size_push] at q; exact q)
    exact ⟨rfl, hq h' tk' (hp.objs.size + 1) dx ⟨old, Nat.le_succ _, ⟨_, _, hx, rfl, rfl, rfl, rfl⟩, Nat.le_trans (Nat.le_trans (Nat.le_succ _) (Nat.le_succ _)) z, dne, hns⟩⟩
end
end LowIC
end PySem
namespace L2
open PySem PySem.Spec PyProof.Rows
theorem relO_low_ic {v : V} {v' : Value} (r : RelV v v') (f : Str) : RelO (List.lookup f [(("given" : Str), v)]) (if f = "given" then some v' else none) := by
  by_cases hw : f = "given"
  · subst hw
    rw [if_pos rfl]
    have q : List.lookup ("given" : Str) [(("given" : Str), v)] = some v := by simp [List.lookup]
    rw [q]
    exact r
  · rw [if_neg hw]
    have qw : (f == ("given" : Str)) = false := by simpa using hw
    have q2 : List.lookup f [(("given" : Str), v)] = none := by simp [List.lookup, qw]
    rw [q2]
    trivial
section
variable {X : Cx} {C fI : Addr}
/-- Low(e) -/
def tMkLow_ic (C : Addr) (ta : TA) : St → Hp → XK → Prop := fun σ H Q => ta σ H fun vs H1 => ∃ v, vs = [v] ∧ ∀ d, H1 d = none → Q (.ref C) (some d) (upd H1 d (.xd [(("given" : Str), v)]))
theorem pmk_low_ic {a : Expr} {ta : TA} {p pos : Pos} {k : Nat} (T : PySem.LowIC.LowTxt X.K X.mg C fI) (hr : Room k X.A) (ha : PA X [a] ta) (hg : Gl X "InvalidColour" := by rfl)
    (he : starEach (a :: []) X.env = (false, eval a X.env) :: starEach [] X.env := by rfl) (hpl : (backTo pos (starEach [] X.env)).any (·.1) = false := by rfl) :
    PMk X (.Call (.Name "InvalidColour" p) [a] [] pos) (tMkLow_ic C ta) := by
  intro pins s σ H Q I h
  refine wpAny_Call_Name_kw (ld_glob I hg T.gC ?_)
  refine PySem.W.callWith_K (h₀ := X.base) I.ok.mod.kin T.kC (thn (ha.run pos pins s σ H _ I h) fun us s1 hh => ?_) he hpl
  obtain ⟨vs, H1, I1, r1, v, ev, q1⟩ := hh
  subst ev
  refine ⟨I1.kIn, ?_⟩
  cases r1 with
  | cons rv rn =>
    rename_i v' us'
    cases rn
    show wpAny _ _ (call (.ref C) [v']) _ _ _
    have hlim := I1.nolimit
    obtain ⟨hp, g, dr, tk, os⟩ := s1
    refine wpAny_call (PySem.LowIC.low_made T I1.kIn hlim (by have := hr.dp; omega) fun h' tk' e d M => ?_)
    show MkP X pins σ Q (.ref e) ⟨h', g, dr, tk', os⟩
    obtain ⟨oe, fv, hoe, hc, hd, hdat, h1⟩ := M.obj
    have hns := M.ns
    obtain ⟨G', g1, g2⟩ := restrict h' fun b => decide (b ≠ e)
    have gk : ∀ b, b ≠ e → G'.get? b = h'.get? b := fun b hb => g1 b (decide_eq_true hb)
    have ge : G'.get? e = none := g2 e (by simp)
    have old : ∀ b o, hp.get? b = some o → G'.get? b = some o := fun b o q => (gk b (Nat.ne_of_lt (Nat.lt_of_lt_of_le (Heap.lt_size q) M.new))).trans (M.keep b o q)
    have ob : ObjOk X.prog X.w (upd H1 d (.xd [(("given" : Str), v)])) G' d (.xd [(("given" : Str), v)]) :=
      ⟨_, hns.at (fun o q => (gk d M.dne).trans q), fun f => relO_low_ic rv f⟩
    have J : Inv X pins σ (upd H1 d (.xd [(("given" : Str), v)])) ⟨G', g, dr, tk', os⟩ := I1.laid (t' := tk') old M.dbig ob
    refine ⟨e, oe, fv, ⟨G', g, dr, tk', os⟩, _, .ref C, some d, rfl, J, fun b o q => ?_, ge, hoe, ⟨hc, hd⟩, hdat, h1, ?_, rfl, I1.bare, raises_own T.exC T.tyC, q1 d (I1.hok.fresh M.dbig)⟩
    · by_cases hb : b = e
      · have q' : G'.get? b = some o := q
        rw [hb, ge] at q'; cases q'
      · exact (gk b hb).symm.trans q
    · rw [upd_ne (Ne.symm M.dne)]
      exact I1.hok.fresh M.new
/-- raise Low(e) -/
def tRaiseLow_ic (C : Addr) (W : WX) (ta : TA) : TS := fun _ σ H => tMkLow_ic C ta σ H fun cls d H' => W cls d σ H'
theorem ps_raiseLow_ic {a : Expr} {ta : TA} {W : WX} {p pos pos2 : Pos} {k : Nat} (hc : X.calm = true) (T : PySem.LowIC.LowTxt X.K X.mg C fI) (hr : Room k X.A) (tk : Takes X W) (ha : PA X [a] ta) (hg : Gl X "InvalidColour" := by rfl)
    (he : starEach (a :: []) X.env = (false, eval a X.env) :: starEach [] X.env := by rfl) (hpl : (backTo pos (starEach [] X.env)).any (·.1) = false := by rfl) :
    PS X (.Raise (some (.Call (.Name "InvalidColour" p) [a] [] pos)) none pos2) (tRaiseLow_ic C W ta) := ps_raise hc tk (pmk_low_ic T hr ha hg he hpl)
/-- low.by, low the exception that the suite holds (at a; its class cls, its dict d) -/
def tByLow_ic (C : Addr) (a : Addr) (cls : Value) (d : Option Addr) (te : TE) : TE := fun σ H Q => te σ H fun x H1 => x = .ref a ∧ cls = .ref C ∧ ∃ (dd : Addr) (v : V), d = some dd ∧ H1 dd = some (.xd [(("given" : Str), v)]) ∧ Q v H1
theorem pe_byLow_ic {a : Addr} {oe : Obj} {cls : Value} {d : Option Addr} {pn : List (Addr × Obj)} {e : Expr} {te : TE} {pos : Pos} (T : PySem.LowIC.LowTxt X.K X.mg C fI) (hz : Zc cls d oe) (hf : ∃ vs, oe.data = .fields vs) (he : PE (X.suite a ((a, oe) :: pn)) e te)
    (hb : attributeBase e "given" X.env (eval e X.env) = eval e X.env := by rfl) :
    PE (X.suite a ((a, oe) :: pn)) (.Attribute e "given" pos) (tByLow_ic C a cls d te) := by
  refine ⟨fun pins s σ H Q I h => ?_⟩
  refine attr_of hb (thn (he.run pins s σ H _ I h) fun u s1 hh => ?_)
  obtain ⟨x, H1, I1, rx, ex, ec, dd, v, ed, ea, q⟩ := hh
  subst ex
  obtain rfl : u = Value.ref a := rx
  subst ec
  subst ed
  obtain ⟨ha, _⟩ := I1.pin (a, oe) (List.mem_append_left _ List.mem_cons_self)
  obtain ⟨vs, hd⟩ := hf
  have hx : ObjOk X.prog X.w H1 s1.heap dd (.xd [(("given" : Str), v)]) := I1.hok dd _ ea
  obtain ⟨mA, hns, hr⟩ := hx
  obtain ⟨od, ho, hl⟩ := lookIn_ns hns
  have l : List.lookup ("given" : Str) [(("given" : Str), v)] = some v := by simp [List.lookup]
  obtain ⟨u, hu, ru⟩ := RelO.some_of (v := v) (o := mA "given") (by rw [← l]; exact hr "given")
  have J : PySem.W.InstAt s1.heap a oe C (some od) := ⟨ha, hz.1, by unfold PySem.W.notCls; rw [hd] <;> rfl, by rw [hz.2]; exact ho⟩
  exact HandSPX.exc_get I1.kIn J T.ga T.gg T.exC (PySem.W.findObj_own T.hdC T.noN rfl (by rw [hl, hu])) (handed_of ru) ⟨v, H1, I1.tok _, ru, q⟩
end
end L2
end P_DLxc
section P_DLxp
set_option Elab.async false
set_option linter.all false
set_option maxRecDepth 100000
set_option maxHeartbeats 2000000
/-! Two checks one behind the other, each with a class of its own; what is caught may be of one class or of another. -/
namespace DL
open PySem PySem.Spec PyProof.Rows L2
/-- a def of one parameter that returns or raises where fT is true of it -/
theorem raiseIfX {K : Fr} {C : Addr} {x0 : Str} {vs : List V} {H : Hp} {Q : VK} {E : XK} {fT : Sl → Mem → Res Bool}
    (h : spX K C 1 (defG false 1 0 fun _ => evSeq (evIte fT (evSeq sNever sPass) sPass) sPass) (xIf fT) vs H Q E) :
    tIfS (LT K fT) (tRaiseLow_ir C (fun cls d _ H => E cls d H) (tCons (tVar 0) tNil)) tNext { nx := fun _ H' => Q .non H', rt := Q } (L2.start [x0] vs) H := by
  rcases h with h | h
  · obtain ⟨b, z⟩ := def_body (N := [x0]) (m := 0) (E := E) rfl h
    obtain ⟨δ, M, F, μ, x, M', S, R, e0, k⟩ := LS.ite (LS.seq z)
    refine ⟨δ, M, F, μ, x, M', S, R, e0, fun F' μ' H' st S' => ?_⟩
    have q := k F' μ' H' st S'
    cases x with
    | true => rw [if_pos rfl] at q; exact (LS.never q).elim
    | false => rw [if_neg Bool.false_ne_true] at q; exact LS.pass (LS.pass q)
  · obtain ⟨hl, xs, M, F, μ, d0, M', S, r, e0, k⟩ := h
    exact raiseIf (Q := Q) ⟨hl, xs, M, F, μ, d0, M', S, r, e0, k⟩
/-- a def of two parameters that raises CR by xR of the one, or, where gR lets that, CC by xC of the other -/
def spRC (K : Fr) (CR CC : Addr) (gR : List Val → Mem → Res Val) (xR xC : List Val → Mem → Res D) : Sp := fun vs H _ E => vs.length = 2 ∧ ∃ a b M F μ, Sim K F μ M H ∧ RepVs K F μ [a, b] vs ∧
  ((∃ d0 M', xR [a] M = .ok d0 M' ∧ ∀ F' μ' H' d v, StepE F μ H F' μ' H' → Sim K F' μ' M' H' → H' d = some (.xd [(("given" : Str), v)]) → Rep K F' d0 v → E (.ref CR) (some d) H') ∨
   (∃ M1 d0 M', gR [a] M = .ok (.d .non) M1 ∧ xC [b] M1 = .ok d0 M' ∧ ∀ F' μ' H' d v, StepE F μ H F' μ' H' → Sim K F' μ' M' H' → H' d = some (.xd [(("given" : Str), v)]) → Rep K F' d0 v → E (.ref CC) (some d) H'))
theorem raiseRC {K : Fr} {CR CC : Addr} {x0 x1 : Str} {vs : List V} {H : Hp} {Q : VK} {E : XK} {gR : List Val → Mem → Res Val} {xR xC : List Val → Mem → Res D} {u : TS} {D : Ends} (h : spRC K CR CC gR xR xC vs H Q E) :
    tSeq (tDrop (tCallS (spX K CR 1 gR xR) (WE fun cls d _ H => E cls d H) (tCons (tVar 0) tNil))) (tSeq (tDrop (tCallS (spR K CC 1 xC) (WE fun cls d _ H => E cls d H) (tCons (tVar 1) tNil))) u) D (L2.start [x0, x1] vs) H := by
  obtain ⟨hl, a, b, M, F, μ, S, r, h⟩ := h
  match vs, hl, r with
  | [va, vb], _, .cons (v := _) ra (.cons (v := _) rb .nil) =>
    refine ⟨va, rfl, ?_⟩
    rcases h with ⟨d0, M', e, k⟩ | ⟨M1, d0, M', e1, e2, k⟩
    · exact .inr ⟨rfl, [a], M, F, μ, d0, M', S, .cons ra .nil, e, k⟩
    · refine .inl ⟨rfl, [a], M, F, μ, .d .non, M1, S, .cons ra .nil, e1, fun F1 μ1 H1 w st S1 p => ?_⟩
      refine ⟨vb, rfl, rfl, [b], M1, F1, μ1, d0, M', S1, .cons (RepV.mono st.fr st.whole rb) .nil, e2, fun F2 μ2 H2 d v st2 S2 hd rv => ?_⟩
      exact k F2 μ2 H2 d v (st.transE st2) S2 hd rv
/-! ### one reading or another -/
theorem pe_or2 {X : Cx} {e : Expr} {t u : TE} (h1 : PE X e t) (h2 : PE X e u) : PE X e (fun σ H Q => t σ H Q ∨ u σ H Q) :=
  ⟨fun pins s σ H Q I h => h.elim (h1.run pins s σ H Q I) (h2.run pins s σ H Q I)⟩
theorem call_or2 {X : Cx} {f : Value} {r1 r2 : List V → Hp → VK → Prop} (h1 : CallR X f r1) (h2 : CallR X f r2) : CallR X f (fun xs H Q => r1 xs H Q ∨ r2 xs H Q) :=
  fun pins s σ H vs us Q I r h => h.elim (h1 pins s σ H vs us Q I r) (h2 pins s σ H vs us Q I r)
/-! ### what the top has written of the errors -/
structure IvC (K : Fr) (mg : Str → Option Value) (C fI S : Addr) : Prop where
  low : PySem.LowIC.LowTxt K mg C fI
  gS : mg "SockError" = some (.ref S)
  te : PySem.W.exmOne K (.ref C) (.ref S) = some true
  ex : ExcD K C
structure DnG (K : Fr) (mg : Str → Option Value) (C fI S : Addr) : Prop where
  low : PySem.LowDNF.LowTxt K mg C fI
  gS : mg "SockError" = some (.ref S)
  te : PySem.W.exmOne K (.ref C) (.ref S) = some true
  ex : ExcD K C
theorem mk_ivc {K : Fr} {h : Heap} {mg : Str → Option Value} {C fI S N : Addr} {nm q : Str} {bs : List Value} {sn : List Str} {sub : List Value} {ab : Bool} {col : Option Bool} {dd : Option Addr} {m0 m1 m2 m3 m5 : Option Value}
    {od an : Option Addr} {sl : Array (Option Value)} {oc dc pm cd ct : Value} {p1 p2 q1 q2 q3 q4 : Pos} (X : K.In h) (G : h.Ns mainGlobals mg)
    (aC : PySem.W.nsIn K mainGlobals "InvalidColour" = some (some (.ref C))) (aS : PySem.W.nsIn K mainGlobals "SockError" = some (some (.ref S)))
    (xL : K.lookup C = some (PySem.excClassObj nm q C N bs [.ref S, .type "ValueError", .type "Exception", .type "BaseException", .type "object"] true sn sub ab col dd m0 m1 m2 m3 m5 "ValueError.__new__"))
    (sa : PySem.W.findIn K (.ref C) "__setattr__" = some (some (.builtin "object.__setattr__"))) (ga : PySem.W.findIn K (.ref C) "__getattribute__" = some (some (.builtin "BaseException.__getattribute__"))) (gg : PySem.W.findIn K (.ref C) "__getattr__" = some none)
    (nb : PySem.W.findIn K (.ref C) "given" = some none) (a1 : PySem.W.findIn K (.ref C) "__init__" = some (some (.ref fI))) (t1 : PySem.W.typeIn K (.ref fI) = some (.type "function"))
    (l1 : K.lookup fI = some ⟨oc, od, .func (PySem.W.fnOf "__init__" "InvalidColour.__init__" (PySem.LowIC.iA p1 p2) (PySem.LowIC.iB q1 q2 q3 q4) PySem.LowIC.iS .none .none dc pm an cd ct), sl⟩) (c1 : PySem.W.codeIn K cd "InvalidColour.__init__" = true)
    (kC : PySem.W.keepIn K (.ref C) = true) (eC : PySem.W.subIn K (.ref C) (.type "BaseException") = some true) (tC : PySem.W.typeIn K (.ref C) = some (.type "type")) (hC : PySem.W.hasDictIn K C = true)
    (eS : PySem.W.subIn K (.ref S) (.type "BaseException") = some true) (hS : PySem.W.hasDictIn K S = true) (tS : PySem.W.typeIn K (.ref S) = some (.type "type")) (sS : PySem.W.subIn K (.ref C) (.ref S) = some true)
    (cC : (PySem.W.clsIn K C).isSome = true) (ha : PySem.W.findIn K (.ref C) "__class__" = some (some (.builtin "object.__class__"))) (hn : PySem.W.specialIn K (.builtin "object.__class__") "__get__" = some (some (.builtin "getset_descriptor.__get__")))
    (ht : PySem.W.takesIn K (.builtin "object.__class__") = some true) (hm : PySem.W.mroIn K C (.type "object") = some true) :
    ∃ C fI S, IvC K mg C fI S :=
  ⟨C, fI, S, { low := { gC := PySem.W.mg_of X G aC, cls := ⟨nm, q, N, bs, _, sn, sub, ab, col, dd, m0, m1, m2, m3, m5, xL, by rfl⟩, sa := sa, ga := ga, gg := gg, noN := nb, iC := a1, tC := t1, kC := kC, exC := eC, tyC := tC, hdC := hC, fn := ⟨_, _, _, _, _, _, _, _, _, _, _, _, _, _, l1, c1⟩ }, gS := PySem.W.mg_of X G aS, te := PySem.W.exm_ref eS hS tS sS, ex := ⟨cC, ga, gg, eC, ha, hn, ht, hm⟩ }⟩
theorem mk_dng {K : Fr} {h : Heap} {mg : Str → Option Value} {C fI S N : Addr} {nm q : Str} {bs : List Value} {sn : List Str} {sub : List Value} {ab : Bool} {col : Option Bool} {dd : Option Addr} {m0 m1 m2 m3 m5 : Option Value}
    {od an : Option Addr} {sl : Array (Option Value)} {oc dc pm cd ct : Value} {p1 p2 q1 q2 q3 q4 : Pos} (X : K.In h) (G : h.Ns mainGlobals mg)
    (aC : PySem.W.nsIn K mainGlobals "DoesNotFit" = some (some (.ref C))) (aS : PySem.W.nsIn K mainGlobals "SockError" = some (some (.ref S)))
    (xL : K.lookup C = some (PySem.excClassObj nm q C N bs [.ref S, .type "ValueError", .type "Exception", .type "BaseException", .type "object"] true sn sub ab col dd m0 m1 m2 m3 m5 "ValueError.__new__"))
    (sa : PySem.W.findIn K (.ref C) "__setattr__" = some (some (.builtin "object.__setattr__"))) (ga : PySem.W.findIn K (.ref C) "__getattribute__" = some (some (.builtin "BaseException.__getattribute__"))) (gg : PySem.W.findIn K (.ref C) "__getattr__" = some none)
    (nb : PySem.W.findIn K (.ref C) "given" = some none) (a1 : PySem.W.findIn K (.ref C) "__init__" = some (some (.ref fI))) (t1 : PySem.W.typeIn K (.ref fI) = some (.type "function"))
    (l1 : K.lookup fI = some ⟨oc, od, .func (PySem.W.fnOf "__init__" "DoesNotFit.__init__" (PySem.LowDNF.iA p1 p2) (PySem.LowDNF.iB q1 q2 q3 q4) PySem.LowDNF.iS .none .none dc pm an cd ct), sl⟩) (c1 : PySem.W.codeIn K cd "DoesNotFit.__init__" = true)
    (kC : PySem.W.keepIn K (.ref C) = true) (eC : PySem.W.subIn K (.ref C) (.type "BaseException") = some true) (tC : PySem.W.typeIn K (.ref C) = some (.type "type")) (hC : PySem.W.hasDictIn K C = true)
    (eS : PySem.W.subIn K (.ref S) (.type "BaseException") = some true) (hS : PySem.W.hasDictIn K S = true) (tS : PySem.W.typeIn K (.ref S) = some (.type "type")) (sS : PySem.W.subIn K (.ref C) (.ref S) = some true)
    (cC : (PySem.W.clsIn K C).isSome = true) (ha : PySem.W.findIn K (.ref C) "__class__" = some (some (.builtin "object.__class__"))) (hn : PySem.W.specialIn K (.builtin "object.__class__") "__get__" = some (some (.builtin "getset_descriptor.__get__")))
    (ht : PySem.W.takesIn K (.builtin "object.__class__") = some true) (hm : PySem.W.mroIn K C (.type "object") = some true) :
    ∃ C fI S, DnG K mg C fI S :=
  ⟨C, fI, S, { low := { gC := PySem.W.mg_of X G aC, cls := ⟨nm, q, N, bs, _, sn, sub, ab, col, dd, m0, m1, m2, m3, m5, xL, by rfl⟩, sa := sa, ga := ga, gg := gg, noN := nb, iC := a1, tC := t1, kC := kC, exC := eC, tyC := tC, hdC := hC, fn := ⟨_, _, _, _, _, _, _, _, _, _, _, _, _, _, l1, c1⟩ }, gS := PySem.W.mg_of X G aS, te := PySem.W.exm_ref eS hS tS sS, ex := ⟨cC, ga, gg, eC, ha, hn, ht, hm⟩ }⟩
/-- the class named a is no class named b -/
theorem mk_kit {K : Fr} {h : Heap} {mg : Str → Option Value} {a b : Str} {A B : Addr} (X : K.In h) (G : h.Ns mainGlobals mg) (aA : PySem.W.nsIn K mainGlobals a = some (some (.ref A))) (aB : PySem.W.nsIn K mainGlobals b = some (some (.ref B)))
    (n : PySem.W.kitOne K (.ref A) (.ref B) = some false) : ∃ A B : Addr, mg a = some (.ref A) ∧ mg b = some (.ref B) ∧ PySem.W.kitOne K (.ref A) (.ref B) = some false :=
  ⟨A, B, PySem.W.mg_of X G aA, PySem.W.mg_of X G aB, n⟩
end DL
end P_DLxp
section P_DLxg
set_option Elab.async false
set_option linter.all false
set_option maxRecDepth 100000
set_option maxHeartbeats 2000000
/-! An error of the class InvalidPattern: made, raised, its field read (turned from the worked proof of an own error with a field). -/
namespace PySem
namespace LowIP
open PySem.W PySem.Calls PyProof.Rows PySem.HandSPX
/-! ### the text of __init__ -/
def iA (p1 p2 : Pos) : Arguments := { posonlyargs := [], args := [{ arg := "self", annotation := none, pos := p1 }, { arg := "given", annotation := none, pos := p2 }], vararg := none, kwonlyargs := [], kw_defaults := [], kwarg := none, defaults := [] }
def iB (q1 q2 q3 q4 : Pos) : List Stmt := [.Assign [.Attribute (.Name "self" q1) "given" q2] (.Name "given" q3) q4]
def iS : Scope := { kind := .function, names := [(PySem.Str.ofString "self", .local), (PySem.Str.ofString "given", .local)], isGenerator := false, isCoroutine := false, more := [] }
/-- what the written part says of Low, at C, and of its __init__, at fI -/
structure LowTxt (K : Frag) (mg : Str → Option Value) (C fI : Addr) : Prop where
  gC : mg "InvalidPattern" = some (.ref C)
  cls : ∃ nm q N bs bm sn sub ab col dd k0 k1 k2 k3 k5, K.lookup C = some (excClassObj nm q C N bs bm true sn sub ab col dd k0 k1 k2 k3 k5 "ValueError.__new__") ∧ refsVE bm = true
  sa : findIn K (.ref C) "__setattr__" = some (some (.builtin "object.__setattr__"))
  ga : findIn K (.ref C) "__getattribute__" = some (some (.builtin "BaseException.__getattribute__"))
  gg : findIn K (.ref C) "__getattr__" = some none
  noN : findIn K (.ref C) "given" = some none
  iC : findIn K (.ref C) "__init__" = some (some (.ref fI))
  tC : typeIn K (.ref fI) = some (.type "function")
  kC : keepIn K (.ref C) = true
  exC : subIn K (.ref C) (.type "BaseException") = some true
  tyC : typeIn K (.ref C) = some (.type "type")
  hdC : hasDictIn K C = true
  fn : ∃ (oc : Value) (od : Option Addr) (doc pm : Value) (an : Option Addr) (cdv ct : Value) (osl : Array (Option Value)) (p1 p2 q1 q2 q3 q4 : Pos),
    K.lookup fI = some ⟨oc, od, .func (fnOf "__init__" "InvalidPattern.__init__" (iA p1 p2) (iB q1 q2 q3 q4) iS .none .none doc pm an cdv ct), osl⟩ ∧ codeIn K cdv "InvalidPattern.__init__" = true
theorem one_size (v : Value) : [v].length ≤ sizeLine := by
  rw [sizeLine_eq]
  exact (by decide : 1 ≤ 16777216)
theorem kept_but {K : Frag} {h h' : Heap} {x : Addr} (X : K.In h) (hx : K.lookup x = none) (k : ∀ b o, b ≠ x → h.get? b = some o → h'.get? b = some o) : K.In h' := fun a o e =>
  k a o (fun z => by rw [z, hx] at e; cases e) (X a o e)
theorem ldC {M : Model} {s : Shared} {name : Str} {scope : Scope} {L a : Addr} {cd : Value} {m : Str → Option Value} {x : Str} {pos : Pos} {v : Value} {Q : Value → Shared → Prop} {A : Around} {E : Value → Shared → Prop} (hn : s.heap.Ns L m) (hv : m x = some v) (h : Q v s)
    (hk : scope.kind = .function := by rfl) (hl : (envOfC name scope L a cd).kindOf x = some .local := by rfl) (hd : (x == ("__debug__" : Str)) = false := by decide) :
    wpAny M A (eval (.Name x pos) (envOfC name scope L a cd)) Q E s := wpAny_Name (wpAny_loadName_local hk hl hn hv h) hd
/-- what __init__ leaves of a fresh exception at x -/
structure InitEnd (h h' : Heap) (x C dx t1 : Addr) (v : Value) : Prop where
  keep : ∀ b o, b ≠ x → h.get? b = some o → h'.get? b = some o
  obj : h'.get? x = some { cls := .ref C, dict := some dx, data := .fields #[.ref t1, .none, .none, .none, .bool false, .none] }
  dbig : h.objs.size ≤ dx
  dne : dx ≠ x
  ns : h'.Ns1 dx (fun y => if y = "given" then some v else none)
/-- a made Low -/
structure OwnMade (h h' : Heap) (e C d : Addr) (v : Value) : Prop where
  keep : ∀ b o, h.get? b = some o → h'.get? b = some o
  new : h.objs.size ≤ e
  obj : ∃ oe vs, h'.get? e = some oe ∧ oe.cls = .ref C ∧ oe.dict = some d ∧ oe.data = .fields vs ∧ vs[1]? = some .none
  dbig : h.objs.size ≤ d
  dne : d ≠ e
  ns : h'.Ns1 d (fun y => if y = "given" then some v else none)
section
variable {prog : Program} {w : World} {A : Around} {E : Value → Shared → Prop} {R : Result → Shared → Prop} {s : Shared} {K : Frag} {mg : Str → Option Value} {C fI : Addr}
theorem low_init (T : LowTxt K mg C fI) {x t0 : Addr} {v : Value} (X : K.In s.heap) (hlim : s.heap.NoLimit) (hx : s.heap.get? x = some (excO C t0)) (hnx : K.lookup x = none) (hroom : A.depth < recursionLimit)
    (hq : ∀ h' tk dx, InitEnd s.heap h' x C dx t0 v → R (.ok (.ret .none)) { s with heap := h', toks := tk }) :
    codeAny (model prog w) A (.call (.ref fI) ⟨[.ref x, v], []⟩) R s := by
  obtain ⟨oc, od, doc, pm, an, cdv, ct, osl, p1, p2, q1, q2, q3, q4, ho, hcd⟩ := T.fn
  obtain ⟨nm, q, N, bs, bm, sn, sub, ab, col, dd, k0, k1, k2, k3, k5, hC, hbm⟩ := T.cls
  have hcl : clsIn K C = some { name := nm, bases := bs, mro := .ref C :: bm, ns := N, qualname := q, hasDict := true, slotNames := sn, subclasses := sub, abstract := ab, collection := col, hasDel := false } := by unfold clsIn; rw [hC] <;> rfl
  refine Att.call_fn (binds := [("self", .ref x), ("given", v)]) X hlim ho hcd hroom (BindsTo.of_eq (by first | rfl | with_unfolding_all rfl)) (by first | rfl | decide | with_unfolding_all rfl) (fun s₁ IC => ?_) rfl rfl rfl
  obtain ⟨h₁, tk₁, rfl⟩ := IC.toInCall.same
  have k : ∀ b o, s.heap.get? b = some o → h₁.get? b = some o := IC.toInCall.keep
  have hn := IC.toInCall.ns
  have hxL : s.heap.objs.size ≠ x := Nat.ne_of_gt (Heap.lt_size hx)
  have X₁ : K.In h₁ := X.keeps k
  have hx₁ := k _ _ hx
  -- self.by = by
  show wpAny _ _ (execs _ _) _ _ _
  refine wpAny_execs_cons (plainObj_wpAny_Assign_Attribute ?_)
  refine ldC (v := v) hn (by first | rfl | with_unfolding_all rfl | kernel_rfl) (ldC (v := .ref x) hn (by first | rfl | with_unfolding_all rfl | kernel_rfl) ?_)
  refine set_plain X₁ (ox := excO C t0) (od := none) ⟨hx₁, rfl, rfl, trivial⟩ T.sa ?_
  refine exc_osa X₁ hx₁ hcl (show refsVE (.ref C :: bm) = true from hbm) rfl T.noN (fun h₃ tk₃ dx k₃ dn dne hx₃ hn₃ => ?_)
  show wpAny _ _ (execs _ _) _ _ _
  have z : s.heap.objs.size < h₁.objs.size := hn.lt
  exact wpAny_execs_nil (hq h₃ tk₃ dx ⟨fun b o hb e => k₃ b o hb (k b o e), hx₃, Nat.le_of_lt (Nat.lt_of_lt_of_le z dn), dne, hn₃⟩)
theorem low_made (T : LowTxt K mg C fI) {v : Value} (X : K.In s.heap) (hlim : s.heap.NoLimit) (hroom : A.depth + 1 < recursionLimit)
    (hq : ∀ h' tk e d, OwnMade s.heap h' e C d v → R (.ok (.ret (.ref e))) { s with heap := h', toks := tk }) :
    codeAny (model prog w) A (.call (.ref C) ⟨[v], []⟩) R s := by
  obtain ⟨nm, q, N, bs, bm, sn, sub, ab, col, dd, k0, k1, k2, k3, k5, hC, hbm⟩ := T.cls
  obtain ⟨hp, g, dr, tk, os⟩ := s
  have k : ∀ b o, hp.get? b = some o → ((hp.push (kdv_tup [v])).push (excO C hp.objs.size)).get? b = some o := fun b o e => Heap.get?_push_of_some _ (Heap.get?_push_of_some _ e)
  have hget : ((hp.push (kdv_tup [v])).push (excO C hp.objs.size)).get? (hp.objs.size + 1) = some (excO C hp.objs.size) := by heap_get
  have hnx : K.lookup (hp.objs.size + 1) = none := by
    cases e : K.lookup (hp.objs.size + 1) with
    | none => rfl
    | some o =>
      have z : hp.get? (hp.objs.size + 1) = some o := X _ _ e
      exact absurd (Nat.lt_of_succ_lt (Heap.lt_size z)) (Nat.lt_irrefl _)
  refine call_own F.excBase_ValueError (fun X => refsVE_contains X bm hbm) (X _ _ hC) (looks_findIn X T.iC) (fun self => bind_fn X self T.tC) (one_size v) ?_
  refine low_init (s := ⟨(hp.push (kdv_tup [v])).push (excO C hp.objs.size), g, dr, tk, os⟩) T (X.keeps k) (hlim.keeps k) hget hnx ?_ fun h' tk' dx ⟨k', hx, dn, dne, hns⟩ => ?_
  · show A.depth + 1 < recursionLimit
    exact hroom
  · have old : ∀ b o, hp.get? b = some o → h'.get? b = some o := fun b o e => k' b o (Nat.ne_of_lt (Nat.lt_succ_of_lt (Heap.lt_size e))) (k b o e)
    have z : hp.objs.size + 1 + 1 ≤ dx := by
      first
        | (simpa only [Heap.size_push] using dn)
        | exact dn
        | (have q := dn; rw [Heap.size_push, Heap.size_push] at q; exact q)
    exact ⟨rfl, hq h' tk' (hp.objs.size + 1) dx ⟨old, Nat.le_succ _, ⟨_, _, hx, rfl, rfl, rfl, rfl⟩, Nat.le_trans (Nat.le_trans (Nat.le_succ _) (Nat.le_succ _)) z, dne, hns⟩⟩
end
end LowIP
end PySem
namespace L2
open PySem PySem.Spec PyProof.Rows
theorem relO_low_ip {v : V} {v' : Value} (r : RelV v v') (f : Str) : RelO (List.lookup f [(("given" : Str), v)]) (if f = "given" then some v' else none) := by
  by_cases hw : f = "given"
  · subst hw
    rw [if_pos rfl]
    have q : List.lookup ("given" : Str) [(("given" : Str), v)] = some v := by simp [List.lookup]
    rw [q]
    exact r
  · rw [if_neg hw]
    have qw : (f == ("given" : Str)) = false := by simpa using hw
    have q2 : List.lookup f [(("given" : Str), v)] = none := by simp [List.lookup, qw]
    rw [q2]
    trivial
section
variable {X : Cx} {C fI : Addr}
/-- Low(e) -/
def tMkLow_ip (C : Addr) (ta : TA) : St → Hp → XK → Prop := fun σ H Q => ta σ H fun vs H1 => ∃ v, vs = [v] ∧ ∀ d, H1 d = none → Q (.ref C) (some d) (upd H1 d (.xd [(("given" : Str), v)]))
theorem pmk_low_ip {a : Expr} {ta : TA} {p pos : Pos} {k : Nat} (T : PySem.LowIP.LowTxt X.K X.mg C fI) (hr : Room k X.A) (ha : PA X [a] ta) (hg : Gl X "InvalidPattern" := by rfl)
    (he : starEach (a :: []) X.env = (false, eval a X.env) :: starEach [] X.env := by rfl) (hpl : (backTo pos (starEach [] X.env)).any (·.1) = false := by rfl) :
    PMk X (.Call (.Name "InvalidPattern" p) [a] [] pos) (tMkLow_ip C ta) := by
  intro pins s σ H Q I h
  refine wpAny_Call_Name_kw (ld_glob I hg T.gC ?_)
  refine PySem.W.callWith_K (h₀ := X.base) I.ok.mod.kin T.kC (thn (ha.run pos pins s σ H _ I h) fun us s1 hh => ?_) he hpl
  obtain ⟨vs, H1, I1, r1, v, ev, q1⟩ := hh
  subst ev
  refine ⟨I1.kIn, ?_⟩
  cases r1 with
  | cons rv rn =>
    rename_i v' us'
    cases rn
    show wpAny _ _ (call (.ref C) [v']) _ _ _
    have hlim := I1.nolimit
    obtain ⟨hp, g, dr, tk, os⟩ := s1
    refine wpAny_call (PySem.LowIP.low_made T I1.kIn hlim (by have := hr.dp; omega) fun h' tk' e d M => ?_)
    show MkP X pins σ Q (.ref e) ⟨h', g, dr, tk', os⟩
    obtain ⟨oe, fv, hoe, hc, hd, hdat, h1⟩ := M.obj
    have hns := M.ns
    obtain ⟨G', g1, g2⟩ := restrict h' fun b => decide (b ≠ e)
    have gk : ∀ b, b ≠ e → G'.get? b = h'.get? b := fun b hb => g1 b (decide_eq_true hb)
    have ge : G'.get? e = none := g2 e (by simp)
    have old : ∀ b o, hp.get? b = some o → G'.get? b = some o := fun b o q => (gk b (Nat.ne_of_lt (Nat.lt_of_lt_of_le (Heap.lt_size q) M.new))).trans (M.keep b o q)
    have ob : ObjOk X.prog X.w (upd H1 d (.xd [(("given" : Str), v)])) G' d (.xd [(("given" : Str), v)]) :=
      ⟨_, hns.at (fun o q => (gk d M.dne).trans q), fun f => relO_low_ip rv f⟩
    have J : Inv X pins σ (upd H1 d (.xd [(("given" : Str), v)])) ⟨G', g, dr, tk', os⟩ := I1.laid (t' := tk') old M.dbig ob
    refine ⟨e, oe, fv, ⟨G', g, dr, tk', os⟩, _, .ref C, some d, rfl, J, fun b o q => ?_, ge, hoe, ⟨hc, hd⟩, hdat, h1, ?_, rfl, I1.bare, raises_own T.exC T.tyC, q1 d (I1.hok.fresh M.dbig)⟩
    · by_cases hb : b = e
      · have q' : G'.get? b = some o := q
        rw [hb, ge] at q'; cases q'
      · exact (gk b hb).symm.trans q
    · rw [upd_ne (Ne.symm M.dne)]
      exact I1.hok.fresh M.new
/-- raise Low(e) -/
def tRaiseLow_ip (C : Addr) (W : WX) (ta : TA) : TS := fun _ σ H => tMkLow_ip C ta σ H fun cls d H' => W cls d σ H'
theorem ps_raiseLow_ip {a : Expr} {ta : TA} {W : WX} {p pos pos2 : Pos} {k : Nat} (hc : X.calm = true) (T : PySem.LowIP.LowTxt X.K X.mg C fI) (hr : Room k X.A) (tk : Takes X W) (ha : PA X [a] ta) (hg : Gl X "InvalidPattern" := by rfl)
    (he : starEach (a :: []) X.env = (false, eval a X.env) :: starEach [] X.env := by rfl) (hpl : (backTo pos (starEach [] X.env)).any (·.1) = false := by rfl) :
    PS X (.Raise (some (.Call (.Name "InvalidPattern" p) [a] [] pos)) none pos2) (tRaiseLow_ip C W ta) := ps_raise hc tk (pmk_low_ip T hr ha hg he hpl)
/-- low.by, low the exception that the suite holds (at a; its class cls, its dict d) -/
def tByLow_ip (C : Addr) (a : Addr) (cls : Value) (d : Option Addr) (te : TE) : TE := fun σ H Q => te σ H fun x H1 => x = .ref a ∧ cls = .ref C ∧ ∃ (dd : Addr) (v : V), d = some dd ∧ H1 dd = some (.xd [(("given" : Str), v)]) ∧ Q v H1
theorem pe_byLow_ip {a : Addr} {oe : Obj} {cls : Value} {d : Option Addr} {pn : List (Addr × Obj)} {e : Expr} {te : TE} {pos : Pos} (T : PySem.LowIP.LowTxt X.K X.mg C fI) (hz : Zc cls d oe) (hf : ∃ vs, oe.data = .fields vs) (he : PE (X.suite a ((a, oe) :: pn)) e te)
    (hb : attributeBase e "given" X.env (eval e X.env) = eval e X.env := by rfl) :
    PE (X.suite a ((a, oe) :: pn)) (.Attribute e "given" pos) (tByLow_ip C a cls d te) := by
  refine ⟨fun pins s σ H Q I h => ?_⟩
  refine attr_of hb (thn (he.run pins s σ H _ I h) fun u s1 hh => ?_)
  obtain ⟨x, H1, I1, rx, ex, ec, dd, v, ed, ea, q⟩ := hh
  subst ex
  obtain rfl : u = Value.ref a := rx
  subst ec
  subst ed
  obtain ⟨ha, _⟩ := I1.pin (a, oe) (List.mem_append_left _ List.mem_cons_self)
  obtain ⟨vs, hd⟩ := hf
  have hx : ObjOk X.prog X.w H1 s1.heap dd (.xd [(("given" : Str), v)]) := I1.hok dd _ ea
  obtain ⟨mA, hns, hr⟩ := hx
  obtain ⟨od, ho, hl⟩ := lookIn_ns hns
  have l : List.lookup ("given" : Str) [(("given" : Str), v)] = some v := by simp [List.lookup]
  obtain ⟨u, hu, ru⟩ := RelO.some_of (v := v) (o := mA "given") (by rw [← l]; exact hr "given")
  have J : PySem.W.InstAt s1.heap a oe C (some od) := ⟨ha, hz.1, by unfold PySem.W.notCls; rw [hd] <;> rfl, by rw [hz.2]; exact ho⟩
  exact HandSPX.exc_get I1.kIn J T.ga T.gg T.exC (PySem.W.findObj_own T.hdC T.noN rfl (by rw [hl, hu])) (handed_of ru) ⟨v, H1, I1.tok _, ru, q⟩
end
end L2
end P_DLxg
section P_DLxh
set_option Elab.async false
set_option linter.all false
set_option maxRecDepth 100000
set_option maxHeartbeats 2000000
/-! InvalidPattern; a def of two parameters that hands both to a def that raises. -/
namespace DL
open PySem PySem.Spec PyProof.Rows L2
structure IvP (K : Fr) (mg : Str → Option Value) (C fI S : Addr) : Prop where
  low : PySem.LowIP.LowTxt K mg C fI
  gS : mg "SockError" = some (.ref S)
  te : PySem.W.exmOne K (.ref C) (.ref S) = some true
  ex : ExcD K C
theorem mk_ivp {K : Fr} {h : Heap} {mg : Str → Option Value} {C fI S N : Addr} {nm q : Str} {bs : List Value} {sn : List Str} {sub : List Value} {ab : Bool} {col : Option Bool} {dd : Option Addr} {m0 m1 m2 m3 m5 : Option Value}
    {od an : Option Addr} {sl : Array (Option Value)} {oc dc pm cd ct : Value} {p1 p2 q1 q2 q3 q4 : Pos} (X : K.In h) (G : h.Ns mainGlobals mg)
    (aC : PySem.W.nsIn K mainGlobals "InvalidPattern" = some (some (.ref C))) (aS : PySem.W.nsIn K mainGlobals "SockError" = some (some (.ref S)))
    (xL : K.lookup C = some (PySem.excClassObj nm q C N bs [.ref S, .type "ValueError", .type "Exception", .type "BaseException", .type "object"] true sn sub ab col dd m0 m1 m2 m3 m5 "ValueError.__new__"))
    (sa : PySem.W.findIn K (.ref C) "__setattr__" = some (some (.builtin "object.__setattr__"))) (ga : PySem.W.findIn K (.ref C) "__getattribute__" = some (some (.builtin "BaseException.__getattribute__"))) (gg : PySem.W.findIn K (.ref C) "__getattr__" = some none)
    (nb : PySem.W.findIn K (.ref C) "given" = some none) (a1 : PySem.W.findIn K (.ref C) "__init__" = some (some (.ref fI))) (t1 : PySem.W.typeIn K (.ref fI) = some (.type "function"))
    (l1 : K.lookup fI = some ⟨oc, od, .func (PySem.W.fnOf "__init__" "InvalidPattern.__init__" (PySem.LowIP.iA p1 p2) (PySem.LowIP.iB q1 q2 q3 q4) PySem.LowIP.iS .none .none dc pm an cd ct), sl⟩) (c1 : PySem.W.codeIn K cd "InvalidPattern.__init__" = true)
    (kC : PySem.W.keepIn K (.ref C) = true) (eC : PySem.W.subIn K (.ref C) (.type "BaseException") = some true) (tC : PySem.W.typeIn K (.ref C) = some (.type "type")) (hC : PySem.W.hasDictIn K C = true)
    (eS : PySem.W.subIn K (.ref S) (.type "BaseException") = some true) (hS : PySem.W.hasDictIn K S = true) (tS : PySem.W.typeIn K (.ref S) = some (.type "type")) (sS : PySem.W.subIn K (.ref C) (.ref S) = some true)
    (cC : (PySem.W.clsIn K C).isSome = true) (ha : PySem.W.findIn K (.ref C) "__class__" = some (some (.builtin "object.__class__"))) (hn : PySem.W.specialIn K (.builtin "object.__class__") "__get__" = some (some (.builtin "getset_descriptor.__get__")))
    (ht : PySem.W.takesIn K (.builtin "object.__class__") = some true) (hm : PySem.W.mroIn K C (.type "object") = some true) :
    ∃ C fI S, IvP K mg C fI S :=
  ⟨C, fI, S, { low := { gC := PySem.W.mg_of X G aC, cls := ⟨nm, q, N, bs, _, sn, sub, ab, col, dd, m0, m1, m2, m3, m5, xL, by rfl⟩, sa := sa, ga := ga, gg := gg, noN := nb, iC := a1, tC := t1, kC := kC, exC := eC, tyC := tC, hdC := hC, fn := ⟨_, _, _, _, _, _, _, _, _, _, _, _, _, _, l1, c1⟩ }, gS := PySem.W.mg_of X G aS, te := PySem.W.exm_ref eS hS tS sS, ex := ⟨cC, ga, gg, eC, ha, hn, ht, hm⟩ }⟩
theorem raiseCall2 {K : Fr} {CR CC : Addr} {x0 x1 : Str} {vs : List V} {H : Hp} {Q : VK} {E : XK} {gR : List Val → Mem → Res Val} {xR xC : List Val → Mem → Res D} {u : TS} {D : Ends} (h : spRC K CR CC gR xR xC vs H Q E) :
    tSeq (tDrop (tCallS (spRC K CR CC gR xR xC) (WE fun cls d _ H => E cls d H) (tCons (tVar 0) (tCons (tVar 1) tNil)))) u D (L2.start [x0, x1] vs) H := by
  have hl := h.1
  match vs, hl, h with
  | [v, w], _, h => exact ⟨v, rfl, w, rfl, h⟩
end DL
end P_DLxh
section P_DLxy
set_option Elab.async false
set_option linter.all false
set_option maxRecDepth 100000
set_option maxHeartbeats 2000000
/-! Calls by names within a try; a def that returns or raises. -/
namespace DL
open PySem PySem.Spec PyProof.Rows L2
/-- what raises nothing may stand where something may be raised -/
theorem fnok_cx {P : Program} {w : World} {K : PySem.W.Frag} {mg : Str → Option Value} {base : Heap} {CX : CXT} {k : Nat} {f : Addr} {fd : FuncData} {ps : List Str} {sp : Sp} (F : FnOk P w K mg base CX0 k f fd ps sp) : FnOk P w K mg base CX k f fd ps sp :=
  ⟨F.len, fun A outer s H args us vs Q E hr e0 hb r h => codeAny_mono (F.run A outer s H args us vs Q E hr e0 hb r h) fun r s' q => by
    cases r with
    | error e => exact False.elim q
    | ok fl => cases fl <;> exact q⟩
theorem fnok_or {P : Program} {w : World} {K : PySem.W.Frag} {mg : Str → Option Value} {base : Heap} {CX : CXT} {k : Nat} {f : Addr} {fd : FuncData} {ps : List Str} {sp sp2 : Sp} (F : FnOk P w K mg base CX k f fd ps sp) (G : FnOk P w K mg base CX k f fd ps sp2) :
    FnOk P w K mg base CX k f fd ps (fun vs H Q E => sp vs H Q E ∨ sp2 vs H Q E) :=
  ⟨fun vs H Q E h => h.elim (F.len vs H Q E) (G.len vs H Q E), fun A outer s H args us vs Q E hr e0 hb r h => h.elim (F.run A outer s H args us vs Q E hr e0 hb r) (G.run A outer s H args us vs Q E hr e0 hb r)⟩
/-! ### f(e, .., k = v, ..) where the state is told -/
def tCallNS (n m : Nat) (sp : Sp) (gV : List V → List V → List V) (E : L2.St → XK) (t tk : TA) : TE := fun σ H Q => t σ H fun vs H1 => tk σ H1 fun zs H2 => vs.length = n ∧ zs.length = m ∧ sp (gV vs zs) H2 Q (E σ)
section
variable {X : Cx} {CX : CXT} {k n : Nat} {f : Addr} {fd : FuncData} {ps ks : List Str} {sp : Sp} {E : L2.St → XK} {x : Str} {p pos : Pos} {e : Expr} {es : List Expr} {kws : List Keyword} {t tk : TA} {g : List Value → List Value → List Value} {gV : List V → List V → List V}
theorem run_fnNS {pins : List (Addr × Obj)} {σ : L2.St} {H : Hp} {s : Shared} {Q : VK} {us ws : List Value} {vs zs : List V} (F : FnOk X.prog X.w X.K X.mg X.base CX k f fd ps sp) (hr : Room k X.A) (hb : KBn X.K fd ps n ks g gV) (hx : PassesAt CX X σ (E σ))
    (I : L2.Inv X pins σ H s) (r : Vals vs us) (rz : Vals zs ws) (l1 : vs.length = n) (l2 : zs.length = ks.length) (h : sp (gV vs zs) H Q (E σ)) : wpAny (model X.prog X.w) X.A (call (.ref f) us (ks.zip ws)) (EP X pins σ Q) X.xe s := by
  have r2 := hb.rel r rz
  refine wpAny_call (codeAny_mono (F.run X.A X.stack s H ⟨us, ks.zip ws⟩ (g us ws) (gV vs zs) Q (E σ) hr I.env0 (hb.to s us ws I.kIn (r.length.symm.trans l1) (rz.length.symm.trans l2)) r2 h) fun r s' hq => ?_)
  cases r with
  | error e => exact hx pins H s e s' I hq
  | ok fl =>
    cases fl with
    | ret u => exact I.after hq
    | next => exact False.elim hq
    | brk => exact False.elim hq
    | cont => exact False.elim hq
theorem pe_callNS (F : FnOk X.prog X.w X.K X.mg X.base CX k f fd ps sp) (hr : Room k X.A) (hg : Gl X x) (hm : X.mg x = some (.ref f)) (hk : PySem.W.keepIn X.K (.ref f) = true) (hb : KBn X.K fd ps n ks g gV) (hx : ∀ σ, PassesAt CX X σ (E σ))
    (ha : PA X (e :: es) t) (hkw : PK X kws tk) (hall : (backToKw pos (keywordEach kws X.env)).all (·.1.isSome) = true := by rfl) (hks : (backToKw pos (keywordEach kws X.env)).filterMap (·.1) = ks := by rfl)
    (hdb : (x == ("__debug__" : Str)) = false := by decide) (he : starEach (e :: es) X.env = (false, eval e X.env) :: starEach es X.env := by rfl)
    (hpl : ((backTo pos (starEach (e :: es) X.env)).any (·.1) || (backToKw pos (keywordEach kws X.env)).any (·.1.isNone)) = false := by rfl) :
    PE X (.Call (.Name x p) (e :: es) kws pos) (tCallNS n ks.length sp gV E t tk) := by
  refine ⟨fun pins s σ H Q I h => ?_⟩
  refine wpAny_Call_Name_kw (ld_glob I hg hm ?_ hdb)
  refine PySem.W.callWith_KW (h₀ := X.base) I.ok.mod.kin hk hall (thn (ha.run pos pins s σ H _ I h) fun us s1 ⟨vs, H1, I1, r, q⟩ => ?_) hpl he
  refine thn (hkw.run pos pins s1 σ H1 _ I1 q) fun ws s2 ⟨zs, H2, I2, rz, l1, l2, q2⟩ => ⟨I2.kIn, ?_⟩
  rw [hks]
  exact run_fnNS F hr hb (hx σ) I2 r rz l1 l2 q2
end
end DL
end P_DLxy
section P_DLw
set_option Elab.async false
set_option linter.all false
set_option maxRecDepth 100000
set_option maxHeartbeats 4000000
/-! a list comprehension of two fors. -/
namespace DL
open PySem PySem.Spec PyProof.Rows L2
def compLoop2 (b : D → Mem → Res (List D)) : List D → Mem → Res (List D)
  | [], M => .ok [] M
  | x :: xs, M => (b x M).bind fun ys M1 => (compLoop2 b xs M1).bind fun zs M2 => .ok (ys ++ zs) M2
def evBlk2 (own own1 : List Nat) (t : Tg) (fifs : Sl → Mem → Res Bool) (fI1 : Sl → Mem → Res (List D)) (t1 : Tg) (fifs1 : Sl → Mem → Res Bool) (fa : Sl → Mem → Res Val) (s : Sl) : D → Mem → Res (List D) := fun x M' => match bindTg t x (wipeS s own) with
  | some s' => (fifs s' M').bind fun b M2 => if b then (fI1 s' M2).bind fun ys M3 => compLoop (evBlk own1 t1 fifs1 fa s') ys M3 else .ok [] M2
  | none => .bad
def evLc2 (own own1 : List Nat) (t : Tg) (fI : Sl → Mem → Res (List D)) (fifs : Sl → Mem → Res Bool) (t1 : Tg) (fI1 : Sl → Mem → Res (List D)) (fifs1 : Sl → Mem → Res Bool) (fa : Sl → Mem → Res Val) : Sl → Mem → Res Val := fun s M => (fI s M).bind fun xs M1 =>
  (compLoop2 (evBlk2 own own1 t fifs fI1 t1 fifs1 fa s) xs M1).bind fun ys M2 => if ys.length ≤ big then .ok (.d (.lst ys)) M2 else .bad
section
variable {fa : Sl → Mem → Res Val}
theorem liftLc2 {K : Fr} {own own1 o o1 : List Nat} {t t1 : Tg} {fI fI1 : Sl → Mem → Res (List D)} {fifs fifs1 : Sl → Mem → Res Bool} {σ : L2.St} {H : Hp} {Q : VK} (ho : ∀ i ∈ o, i ∈ own) (ho1 : ∀ i ∈ o1, i ∈ own1) (h : LE true K (evLc2 own own1 t fI fifs t1 fI1 fifs1 fa) σ H Q) :
    tLc2 (LI K fI) (LG K t o) (LT K fifs) (LI K fI1) (LG K t1 o1) (LT K fifs1) (LE false K fa) own own1 σ H Q := by
  obtain ⟨δ, M, F, μ, x, M', S, R, e0, k⟩ := h
  obtain ⟨xs, M1, e1, e0⟩ := bind_ok e0
  obtain ⟨rs, M2', e2, e0⟩ := bind_ok e0
  split at e0
  case isFalse => cases e0
  rename_i hbig
  cases e0
  have hbig : rs.length ≤ 16777216 := hbig
  refine ⟨δ, M, F, μ, xs, M1, S, R, e1, fun F1 μ1 H1 J st1 S1 its D hD => ?_⟩
  have R1 := R.mono st1.fr st1.whole
  have F1D : F1 D = none := by
    cases q : F1 D with
    | none => rfl
    | some u => rw [S1.sub D u q] at hD; cases hD
  refine ⟨fun i m Hi => m = xs.length - i ∧ i ≤ xs.length ∧ ∃ Fi μi Mi ys zs acc, StepE F1 μ1 H1 Fi μi Hi ∧ Sim K Fi μi Mi Hi ∧ Hi D = some (.lst acc) ∧ Fi D = none ∧ D ∉ μi ∧ Reps K Fi ys acc ∧ rs = ys ++ zs ∧ compLoop2 (evBlk2 own own1 t fifs fI1 t1 fifs1 fa δ) (xs.drop i) Mi = .ok zs M',
    ⟨xs.length, rfl, Nat.zero_le _, F1, μ1, M1, [], rs, [], (Step.refl _ _ _ _).updNew hD _, S1.updNew F1D (fun z => S1.tracked z hD) _, upd_same, F1D, fun z => S1.tracked z hD, .nil, rfl, e2⟩, ?_⟩
  rintro i m Hi ⟨rfl, hi, Fi, μi, Mi, ys, zs, acc, st, Si, hacc, FD, mD, ra, hrs, hrun⟩
  by_cases hlt : i < xs.length
  · refine .inr ⟨its.goes i Hi hlt (st.fr.trans Si.sub), fun H' => ∃ Fi μi Mi ys zs acc, StepE F1 μ1 H1 Fi μi H' ∧ Sim K Fi μi Mi H' ∧ H' D = some (.lst acc) ∧ Fi D = none ∧ D ∉ μi ∧ Reps K Fi ys acc ∧ rs = ys ++ zs ∧ compLoop2 (evBlk2 own own1 t fifs fI1 t1 fifs1 fa δ) (xs.drop (i + 1)) Mi = .ok zs M', fun H' p' => ⟨xs.length - (i + 1), by omega, rfl, hlt, p'⟩, fun v H2 hy => ?_⟩
    have hx : xs[i]? = some xs[i] := List.getElem?_eq_getElem hlt
    rw [List.drop_eq_getElem_cons hlt] at hrun
    unfold compLoop2 at hrun
    obtain ⟨oy, M3, e3, hrun⟩ := bind_ok hrun
    obtain ⟨zs', M4, e4, hrun⟩ := bind_ok hrun
    cases hrun
    obtain ⟨F2, nf, rx⟩ := its.yields i Hi v H2 xs[i] Fi hx st.fr Si.sub hy
    have st2 : StepE Fi μi Hi F2 μi H2 := nf.step
    have S2 := nf.sim Si
    obtain ⟨hacc2, FD2, mD2⟩ := st2.apart hacc FD mD
    unfold evBlk2 at e3
    cases hb : bindTg t xs[i] (wipeS δ own) with
    | none => simp only [hb] at e3; cases e3
    | some δ' =>
      simp only [hb] at e3
      obtain ⟨b, M5, e5, e3⟩ := bind_ok e3
      have Rw : RepS K F2 μi (wipeS δ own) (wipe σ own) := ((R1.mono st.fr st.whole).mono st2.fr st2.whole).wipe own
      refine ⟨wipeS δ own, F2, μi, xs[i], δ', Rw, rx, S2.sub, hb, fun σ2 R2 l2 s2 => ⟨wipe_same (by rw [l2, wipe_length]) fun j hj => s2 j fun z => hj (ho j z), ?_⟩⟩
      refine ⟨δ', Mi, F2, μi, b, M5, S2, R2, e5, fun F5 μ5 H5 st5 S5 => ?_⟩
      obtain ⟨hacc5, FD5, mD5⟩ := st5.apart hacc2 FD2 mD2
      have r5 : Reps K F5 ys acc := Reps.mono (st2.fr.trans st5.fr) ra
      have stt := (Step.transE st (Step.transE st2 st5))
      have R5 := R2.mono st5.fr st5.whole
      cases b with
      | false =>
        rw [if_neg Bool.false_ne_true] at e3 ⊢
        cases e3
        exact ⟨F5, μ5, _, ys, zs', acc, stt, S5, hacc5, FD5, mD5, r5, hrs, e4⟩
      | true =>
        rw [if_pos rfl] at e3 ⊢
        obtain ⟨us, M6, e6, e3⟩ := bind_ok e3
        refine ⟨δ', M5, F5, μ5, us, M6, S5, R5, e6, fun F6 μ6 H6 J1 st6 S6 its1 => ?_⟩
        obtain ⟨hacc6, FD6, mD6⟩ := st6.apart hacc5 FD5 mD5
        have R6 := R5.mono st6.fr st6.whole
        refine ⟨fun j k Hj => k = us.length - j ∧ j ≤ us.length ∧ ∃ Fj μj Mj ys1 zs1 acc1, (Sub F6 Fj ∧ RepS K Fj μj δ' σ2) ∧ Sim K Fj μj Mj Hj ∧ Hj D = some (.lst acc1) ∧ Fj D = none ∧ D ∉ μj ∧ Reps K Fj (ys ++ ys1) acc1 ∧ oy = ys1 ++ zs1 ∧ compLoop (evBlk own1 t1 fifs1 fa δ') (us.drop j) Mj = .ok zs1 M3 ∧ StepE F1 μ1 H1 Fj μj Hj,
          ⟨us.length, rfl, Nat.zero_le _, F6, μ6, M6, [], oy, acc, ⟨Sub.refl _, R6⟩, S6, hacc6, FD6, mD6, by rw [List.append_nil]; exact Reps.mono st6.fr r5, rfl, e3, stt.transE st6⟩, ?_⟩
        rintro j kk Hj ⟨rfl, hj, Fj, μj, Mj, ys1, zs1, acc1, ⟨frj, Rj⟩, Sj, haccj, FDj, mDj, rj, hoy, hrunj, sttj⟩
        by_cases hltj : j < us.length
        · refine .inr ⟨its1.goes j Hj hltj (frj.trans Sj.sub), fun H' => ∃ Fj μj Mj ys1 zs1 acc1, (Sub F6 Fj ∧ RepS K Fj μj δ' σ2) ∧ Sim K Fj μj Mj H' ∧ H' D = some (.lst acc1) ∧ Fj D = none ∧ D ∉ μj ∧ Reps K Fj (ys ++ ys1) acc1 ∧ oy = ys1 ++ zs1 ∧ compLoop (evBlk own1 t1 fifs1 fa δ') (us.drop (j + 1)) Mj = .ok zs1 M3 ∧ StepE F1 μ1 H1 Fj μj H', fun H' p' => ⟨us.length - (j + 1), by omega, rfl, hltj, p'⟩, fun v1 H7 hy1 => ?_⟩
          have hx1 : us[j]? = some us[j] := List.getElem?_eq_getElem hltj
          rw [List.drop_eq_getElem_cons hltj] at hrunj
          unfold compLoop at hrunj
          obtain ⟨oz, M8, e8, hrunj⟩ := bind_ok hrunj
          obtain ⟨zs2, M9, e9, hrunj⟩ := bind_ok hrunj
          obtain ⟨F7, nf7, rx7⟩ := its1.yields j Hj v1 H7 us[j] Fj hx1 frj Sj.sub hy1
          have st7 : StepE Fj μj Hj F7 μj H7 := nf7.step
          have S7 := nf7.sim Sj
          obtain ⟨hacc7, FD7, mD7⟩ := st7.apart haccj FDj mDj
          unfold evBlk at e8
          cases hb1 : bindTg t1 us[j] (wipeS δ' own1) with
          | none => simp only [hb1] at e8; cases e8
          | some δ'' =>
            simp only [hb1] at e8
            obtain ⟨b1, M10, e10, e8⟩ := bind_ok e8
            have Rw1 : RepS K F7 μj (wipeS δ' own1) (wipe σ2 own1) := (Rj.mono st7.fr st7.whole).wipe own1
            refine ⟨wipeS δ' own1, F7, μj, us[j], δ'', Rw1, rx7, S7.sub, hb1, fun σ3 R3 l3 s3 => ⟨wipe_same (by rw [l3, wipe_length]) fun a ha => s3 a fun z => ha (ho1 a z), ?_⟩⟩
            refine ⟨δ'', Mj, F7, μj, b1, M10, S7, R3, e10, fun F8 μ8 H8 st8 S8 => ?_⟩
            obtain ⟨hacc8, FD8, mD8⟩ := st8.apart hacc7 FD7 mD7
            have r8 : Reps K F8 (ys ++ ys1) acc1 := Reps.mono (st7.fr.trans st8.fr) rj
            have fr8 := frj.trans (st7.fr.trans st8.fr)
            have R8 := (Rj.mono st7.fr st7.whole).mono st8.fr st8.whole
            have st18 := (Step.transE sttj (Step.transE st7 st8))
            cases b1 with
            | false =>
              rw [if_neg Bool.false_ne_true] at e8 ⊢
              cases e8
              cases hrunj
              exact ⟨F8, μ8, _, ys1, _, acc1, ⟨fr8, R8⟩, S8, hacc8, FD8, mD8, r8, hoy, e9, st18⟩
            | true =>
              rw [if_pos rfl] at e8 ⊢
              obtain ⟨w, M11, e11, e8⟩ := bind_ok e8
              cases w with
              | ref n => cases e8
              | d y =>
                cases e8
                cases hrunj
                refine ⟨δ'', M10, F8, μ8, .d y, _, S8, R3.mono st8.fr st8.whole, e11, fun F9 μ9 H9 w st9 S9 r9 => ?_⟩
                obtain ⟨hacc9, FD9, mD9⟩ := st9.apart hacc8 FD8 mD8
                have hlen : (ys ++ ys1).length < 16777216 := by
                  rw [hrs, hoy] at hbig
                  simp only [List.length_append, List.length_cons] at hbig ⊢
                  omega
                refine ⟨acc1, hacc9, by rw [← r8.length, sizeLine_eq]; exact hlen, F9, μ9, _, ys1 ++ [y], zs2, acc1 ++ [w], ⟨fr8.trans st9.fr, R8.mono st9.fr st9.whole⟩, S9.updNew FD9 mD9 _, upd_same, FD9, mD9, by rw [← List.append_assoc]; exact (Reps.mono st9.fr r8).append (.cons r9 .nil), by rw [hoy, List.append_assoc]; rfl, e9, (st18.transE st9).updNew hD _⟩
        · have e : j = us.length := by omega
          subst e
          rw [List.drop_length] at hrunj
          cases hrunj
          rw [List.append_nil] at hoy
          subst hoy
          refine .inl ⟨its1.stops Hj (frj.trans Sj.sub), Fj, μj, _, ys ++ oy, zs', acc1, sttj, Sj, haccj, FDj, mDj, rj, by rw [hrs, List.append_assoc], e4⟩
  · have e : i = xs.length := by omega
    subst e
    rw [List.drop_length] at hrun
    cases hrun
    rw [List.append_nil] at hrs
    subst hrs
    exact .inl ⟨its.stops Hi (st.fr.trans Si.sub), k Fi μi Hi _ (st1.transE st) Si ⟨D, rs, acc, rfl, rfl, hacc, FD, mD, st1.up D hD, hbig, ra⟩⟩
theorem p_lc2 {X : Cx} {elt tg iter tg1 iter1 : Expr} {pos : Pos} {scope : Scope} {own : List (Str × Nat)} {own1 : List Nat} {ifs ifs1 : List Expr} {o o1 : List Nat} {t t1 : Tg} {fI fI1 : Sl → Mem → Res (List D)} {fifs fifs1 : Sl → Mem → Res Bool}
    (ho : ∀ i ∈ o, i ∈ own.map (·.2)) (ho1 : ∀ i ∈ o1, i ∈ own1) (hv : ∀ i ∈ own1, i ∈ own.map (·.2)) (hN : X.N.Nodup) (hi : PI X tg iter (LI X.K fI)) (ok : BlkOk X.N X.env.scope scope own)
    (hg : ∀ (s : Shared) (H : Hp) (C : Addr) (cl : List (Str × Addr)) (fp : List Addr), PG (X.blk s H scope (compEnvC scope cl C X.env) fp) tg (LG X.K t o)) (ht : ∀ (s : Shared) (H : Hp) (C : Addr) (cl : List (Str × Addr)) (fp : List Addr), PTs (X.blk s H scope (compEnvC scope cl C X.env) fp) ifs (LT X.K fifs))
    (hi1 : ∀ (s : Shared) (H : Hp) (C : Addr) (cl : List (Str × Addr)) (fp : List Addr), PI (X.blk s H scope (compEnvC scope cl C X.env) fp) tg1 iter1 (LI X.K fI1))
    (hg1 : ∀ (s : Shared) (H : Hp) (C : Addr) (cl : List (Str × Addr)) (fp : List Addr), PG (X.blk s H scope (compEnvC scope cl C X.env) fp) tg1 (LG X.K t1 o1)) (ht1 : ∀ (s : Shared) (H : Hp) (C : Addr) (cl : List (Str × Addr)) (fp : List Addr), PTs (X.blk s H scope (compEnvC scope cl C X.env) fp) ifs1 (LT X.K fifs1))
    (he : ∀ (s : Shared) (H : Hp) (C : Addr) (cl : List (Str × Addr)) (fp : List Addr), PE (X.blk s H scope (compEnvC scope cl C X.env) fp) elt (LE false X.K fa)) (hc : X.calm = true := by rfl) (hs : ∀ x, foldedSetIterable iter X.env x = pure x := by intro _; rfl) (hs1 : ∀ env x, foldedSetIterable iter1 env x = pure x := by intro _ _; rfl) :
    PE X (.ListComp elt [⟨tg, iter, ifs, 0⟩, ⟨tg1, iter1, ifs1, 0⟩] scope pos) (LE true X.K (evLc2 (own.map (·.2)) own1 t fI fifs t1 fI1 fifs1 fa)) :=
  (pe_lc2 hc hN hi ok hv hg ht hi1 hg1 ht1 he hs hs1).imp fun _ _ _ h => liftLc2 ho ho1 h
theorem p_setLc2 {X : Cx} {elt tg iter tg1 iter1 : Expr} {pos : Pos} {scope : Scope} {own : List (Str × Nat)} {own1 : List Nat} {bs : Nat} {i : Nat} {y : Str} {py spos : Pos} {ifs ifs1 : List Expr} {o o1 : List Nat} {t t1 : Tg} {fI fI1 : Sl → Mem → Res (List D)} {fifs fifs1 : Sl → Mem → Res Bool}
    (ho : ∀ i ∈ o, i ∈ own.map (·.2)) (ho1 : ∀ i ∈ o1, i ∈ own1) (hv : ∀ i ∈ own1, i ∈ own.map (·.2)) (hN : X.N.Nodup) (hi : PI X tg iter (LI X.K fI)) (ok : BlkOk X.N X.env.scope scope own)
    (hg : ∀ (s : Shared) (H : Hp) (C : Addr) (cl : List (Str × Addr)) (fp : List Addr), PG (X.blk s H scope (compEnvC scope cl C X.env) fp) tg (LG X.K t o)) (ht : ∀ (s : Shared) (H : Hp) (C : Addr) (cl : List (Str × Addr)) (fp : List Addr), PTs (X.blk s H scope (compEnvC scope cl C X.env) fp) ifs (LT X.K fifs))
    (hi1 : ∀ (s : Shared) (H : Hp) (C : Addr) (cl : List (Str × Addr)) (fp : List Addr), PI (X.blk s H scope (compEnvC scope cl C X.env) fp) tg1 iter1 (LI X.K fI1))
    (hg1 : ∀ (s : Shared) (H : Hp) (C : Addr) (cl : List (Str × Addr)) (fp : List Addr), PG (X.blk s H scope (compEnvC scope cl C X.env) fp) tg1 (LG X.K t1 o1)) (ht1 : ∀ (s : Shared) (H : Hp) (C : Addr) (cl : List (Str × Addr)) (fp : List Addr), PTs (X.blk s H scope (compEnvC scope cl C X.env) fp) ifs1 (LT X.K fifs1))
    (he : ∀ (s : Shared) (H : Hp) (C : Addr) (cl : List (Str × Addr)) (fp : List Addr), PE (X.blk s H scope (compEnvC scope cl C X.env) fp) elt (LE false X.K fa)) (hy : X.N[i]? = some y := by rfl) (hyl : X.env.scope.names.lookup y = some .local := by rfl)
    (hsw : swapsWith (.ListComp elt [⟨tg, iter, ifs, 0⟩, ⟨tg1, iter1, ifs1, 0⟩] scope pos) (some (.Name y py)) spos.line X.env = pure true := by rfl) (hc : X.calm = true := by rfl) (hs : ∀ x, foldedSetIterable iter X.env x = pure x := by intro _; rfl) (hs1 : ∀ env x, foldedSetIterable iter1 env x = pure x := by intro _ _; rfl) :
    PS X (.Assign [.Name y py] (.ListComp elt [⟨tg, iter, ifs, 0⟩, ⟨tg1, iter1, ifs1, 0⟩] scope pos) spos) (LS bs X.K (evAsg (evLc2 (own.map (·.2)) own1 t fI fifs t1 fI1 fifs1 fa) (stN i))) :=
  (ps_setLc2 hc hN hy hyl hsw hi ok hv hg ht hi1 hg1 ht1 he hs hs1).imp fun _ _ _ h => liftLc2 ho ho1 (LE_frozen (liftAsgN h))
theorem p_setLc2N {X : Cx} {elt tg iter tg1 iter1 : Expr} {pos : Pos} {scope : Scope} {own : List (Str × Nat)} {own1 : List Nat} {bs : Nat} {i : Nat} {y : Str} {py spos : Pos} {ifs ifs1 : List Expr} {o o1 : List Nat} {t t1 : Tg} {fI fI1 : Sl → Mem → Res (List D)} {fifs fifs1 : Sl → Mem → Res Bool}
    (ho : ∀ i ∈ o, i ∈ own.map (·.2)) (ho1 : ∀ i ∈ o1, i ∈ own1) (hv : ∀ i ∈ own1, i ∈ own.map (·.2)) (hN : X.N.Nodup) (hi : PI X tg iter (LI X.K fI)) (ok : BlkOk X.N X.env.scope scope own)
    (hg : ∀ (s : Shared) (H : Hp) (C : Addr) (cl : List (Str × Addr)) (fp : List Addr), PG (X.blk s H scope (compEnvC scope cl C X.env) fp) tg (LG X.K t o)) (ht : ∀ (s : Shared) (H : Hp) (C : Addr) (cl : List (Str × Addr)) (fp : List Addr), PTs (X.blk s H scope (compEnvC scope cl C X.env) fp) ifs (LT X.K fifs))
    (hi1 : ∀ (s : Shared) (H : Hp) (C : Addr) (cl : List (Str × Addr)) (fp : List Addr), PI (X.blk s H scope (compEnvC scope cl C X.env) fp) tg1 iter1 (LI X.K fI1))
    (hg1 : ∀ (s : Shared) (H : Hp) (C : Addr) (cl : List (Str × Addr)) (fp : List Addr), PG (X.blk s H scope (compEnvC scope cl C X.env) fp) tg1 (LG X.K t1 o1)) (ht1 : ∀ (s : Shared) (H : Hp) (C : Addr) (cl : List (Str × Addr)) (fp : List Addr), PTs (X.blk s H scope (compEnvC scope cl C X.env) fp) ifs1 (LT X.K fifs1))
    (he : ∀ (s : Shared) (H : Hp) (C : Addr) (cl : List (Str × Addr)) (fp : List Addr), PE (X.blk s H scope (compEnvC scope cl C X.env) fp) elt (LE false X.K fa)) (hy : X.N[i]? = some y := by rfl) (hyl : X.env.scope.names.lookup y = some .local := by rfl)
    (hsw : swapsWith (.ListComp elt [⟨tg, iter, ifs, 0⟩, ⟨tg1, iter1, ifs1, 0⟩] scope pos) (some (.Name y py)) spos.line X.env = pure true := by rfl) (hc : X.calm = true := by rfl) (hs : ∀ x, foldedSetIterable iter X.env x = pure x := by intro _; rfl) (hs1 : ∀ env x, foldedSetIterable iter1 env x = pure x := by intro _ _; rfl) :
    PS X (.Assign [.Name y py] (.ListComp elt [⟨tg, iter, ifs, 0⟩, ⟨tg1, iter1, ifs1, 0⟩] scope pos) spos) (LS bs X.K (evAsg (newOf (evLc2 (own.map (·.2)) own1 t fI fifs t1 fI1 fifs1 fa)) (stN i))) :=
  (ps_setLc2 hc hN hy hyl hsw hi ok hv hg ht hi1 hg1 ht1 he hs hs1).imp fun _ _ _ h => liftLc2 ho ho1 (LE_newed (liftAsgN h))
end
end DL
end P_DLw
section P_DLu
set_option Elab.async false
set_option linter.all false
set_option maxRecDepth 100000
set_option maxHeartbeats 4000000
/-! tuples: their sum, times one, enumerate. -/
namespace PySem
open Sem (wp)
open AutoSeq1 (wpAny_loadPart')
theorem meets_enumerate_newT (l : Addr) (items : Array Value) (n : Nat) (dct : Option Addr) (sl : Array (Option Value)) :
    Meets (Builtin.«enumerate.__new__» ⟨[.type "enumerate", .ref l], []⟩) (fun _ R s => s.heap.get? l = some { cls := .type "tuple", dict := dct, data := .seq items n, slots := sl } ∧
      R (.ok (.ret (.ref (s.heap.push { cls := .type "tuple_iterator", data := .fields #[.ref l, .int 0 0] }).objs.size)))
        { s with heap := (s.heap.push { cls := .type "tuple_iterator", data := .fields #[.ref l, .int 0 0] }).push { cls := .type "enumerate", data := .fields #[.none, .bool false, .ref s.heap.objs.size, rawInt 0, .none, .none] } }) :=
  .of_wp fun prog w A R s h => by
    obtain ⟨hp, g, d, tk, os⟩ := s; obtain ⟨hl, h⟩ := h
    have hsub := sub_enumerate
    have hL : Heap.IsTuple (Shared.heap ⟨hp, g, d, tk, os⟩) l items := ⟨_, hl, rfl, n, rfl⟩
    wp_walk using wpAny_loadPart' hl
    refine wpAny_stack_any fun st => wpAny_pure ?_
    split
    · rename_i c _ _ _ _ _
      cases (c == Value.type "enumerate")
      · wp_walk using wpAny_loadPart' hl, wpAny_pyIter_tuple hL
        exact ⟨_, rfl, h⟩
      · wp_walk using wpAny_loadPart' hl, wpAny_pyIter_tuple hL
        exact ⟨_, rfl, h⟩
    · wp_walk using wpAny_loadPart' hl, wpAny_pyIter_tuple hL
      exact ⟨_, rfl, h⟩
section
variable {prog : Program} {w : World} {A : Around} {E : Value → Shared → Prop} {s : Shared}
theorem call_enumerate_tuple {l : Addr} {items : Array Value} {Q : Value → Shared → Prop} (hL : s.heap.IsTuple l items)
    (h : ∀ h', IsEnum h' (s.heap.objs.size + 1) s.heap.objs.size 0 .none → h'.IsTupleIter s.heap.objs.size l 0 → h'.objs.size = s.heap.objs.size + 2 →
      (∀ b o, s.heap.get? b = some o → h'.get? b = some o) → Q (.ref (s.heap.objs.size + 1)) { s with heap := h' }) :
    wpAny (model prog w) A (call (.type "enumerate") [.ref l]) Q E s := by
  obtain ⟨⟨c, dct, dt, sl⟩, hl, hc, n, hd⟩ := hL
  replace hc : c = .type "tuple" := hc
  replace hd : dt = .seq items n := hd
  subst hc hd
  refine callType_new F.called_enumerate (by decide) (F.typeCall_enumerate_1 _) (F.newCall_enumerate_1 _) (fun obj => F.args_object_init_2 obj _) F.entry_enumerate_new
    (meets_enumerate_newT l items n dct sl) ⟨hl, ?_⟩
  have hz : (s.heap.push { cls := .type "tuple_iterator", data := .fields #[.ref l, .int 0 0] }).objs.size = s.heap.objs.size + 1 := Heap.size_push ..
  show _ ∧ _
  rw [hz]
  have he : IsEnum ((s.heap.push { cls := .type "tuple_iterator", data := .fields #[.ref l, .int 0 0] }).push
      { cls := .type "enumerate", data := .fields #[.none, .bool false, .ref s.heap.objs.size, rawInt 0, .none, .none] }) (s.heap.objs.size + 1) s.heap.objs.size 0 .none := by
    have := Heap.get?_push_size (s.heap.push { cls := .type "tuple_iterator", data := .fields #[.ref l, .int 0 0] })
      (o := { cls := .type "enumerate", data := .fields #[.none, .bool false, .ref s.heap.objs.size, rawInt 0, .none, .none] }) rfl
    rw [hz] at this; exact this
  refine ⟨⟨_, he, rfl⟩, h _ he ⟨_, Heap.get?_push_of_some _ (Heap.get?_push_size _ rfl), rfl, rfl⟩ (by rw [Heap.size_push, hz]) fun b o x => Heap.get?_push_of_some _ (Heap.get?_push_of_some _ x)⟩
end
theorem tuple_mul1 (l : Addr) (items : Array Value) (n : Nat) (dd : Option Addr) (sl : Array (Option Value)) (u : Tok) :
    Meets (Builtin.«tuple.__mul__» ⟨[.ref l, .int 1 u], []⟩) (fun _ R s => s.heap.get? l = some { cls := .type "tuple", dict := dd, data := .seq items n, slots := sl } ∧ R (.ok (.ret (Value.ref l))) s) :=
  .of_wp fun prog w A R s h => by
    obtain ⟨hp, g, d, tk, os⟩ := s
    obtain ⟨hl, h⟩ := h
    have f1 := AutoSeq1.idx_int
    have c1 : (items.isEmpty || (1 : Int) == 1) = true := by simp
    wp_walk using wpAny_loadPart' hl
    repeat (first
      | (refine wpAny_ite_true (decide_eq_true (by simp)) ?_; wp_walk using wpAny_loadPart' hl))
    all_goals exact ⟨_, rfl, h⟩
end PySem
namespace DL
open PySem PySem.Spec PyProof.Rows L2
def sumTD : List D → Option D
  | [.lst l] => (sumInts l).map .int
  | [.tup l] => (sumInts l).map .int
  | _ => none
def mulT1 : D → D → Option D
  | .tup x, .int j => if j = 1 then some (.tup x) else binD .mul (.tup x) (.int j)
  | x, y => binD .mul x y
section
variable {X : Cx} {e e2 : Expr} {es : List Expr} {fa fb : Sl → Mem → Res Val} {pos p tpos : Pos} {elts : List Expr} {kk : Nat}
theorem bb_sumT (hc : X.calm = true) : CallR X (.builtin "sum") (rLD false X.K sumTD) := by
  intro pins s σ H vs us Q I r ⟨F, xs, d, sb, tx, e, q⟩
  match xs, e, tx with
  | [.lst l], e, tx => exact bb_sum hc pins s σ H vs us Q I r ⟨F, [.lst l], d, sb, tx, e, q⟩
  | [.tup l], e, tx =>
    obtain ⟨v, rfl, rx⟩ := repTs_1 tx
    obtain ⟨n, hn, rfl⟩ := Option.map_eq_some_iff.mp (show (sumInts l).map D.int = some d from e)
    obtain ⟨_, a, as, rfl, ha, ra, la⟩ := repT_tup rx
    obtain ⟨ns, rfl, rfl⟩ := sumInts_ok hn ra
    obtain ⟨its, rv, ⟨o, ho, hcl, m, hd⟩, _⟩ := I.tuple (sb.sqT ha)
    rw [Vals.ref1 r]
    obtain ⟨xs, ex⟩ := rv.ints.allInts.items
    have hn2 : numsOf (intItems xs).toList = ns := by rw [← ex]; exact rv.ints.numsOf
    rw [nums_intItems] at hn2
    refine PySem.W.ktm_sumG (xs := xs) (I.ok.hd hc) ⟨o, ho, hcl, m, by rw [hd, ex]⟩ fun h' tk t' hk => ?_
    rw [preSum_eq, List.take_of_length_le (by simp), hn2]
    exact ⟨.int _, H, I.kept hk, ⟨_, rfl⟩, postSame sb q (.int _)⟩
theorem ob_mulT1 : OpR X (binaryOp .Mult) (r2D false X.K mulT1) := by
  intro pins s σ H x y v u Q I rx ry ⟨F, dx, dy, d, sb, tx, ty, e, k⟩
  by_cases h : ∃ l, dx = .tup l ∧ dy = .int 1
  · obtain ⟨l, rfl, rfl⟩ := h
    cases e
    cases repT_int ty
    obtain ⟨hx, a, as, rfl, ha, ra, la⟩ := repT_tup tx
    obtain ⟨its, r, ⟨⟨cls, dd, data, sl⟩, ho, hc, n, hd⟩, hs⟩ := I.tuple (sb.sqT ha)
    simp only at hc hd
    subst hc hd
    cases rx
    obtain ⟨t, rfl⟩ := ry
    refine wpAny_binaryOp_repeat_ref (T := "tuple") (U := "int") (by decide) ⟨_, ho, rfl⟩ (fun s' => typeIs_int s' 1 t) noFill_tuple_mul PySem.F.fills_int_mul PySem.F.slot_int_rmul repeat_tuple PySem.F.slot_int_index.lookup
      (call_meets PySem.F.slot_int_rmul (typeIs_int s 1 t) PySem.F.entry_int_rmul (PySem.F.args_int_rmul_2 _ _) (int_rmul_tuple 1 t a its.toArray n dd sl)
        ⟨ho, rfl, ⟨_, ho, rfl⟩, call_meets PySem.F.slot_tuple_mul ⟨_, ho, rfl⟩ PySem.F.entry_tuple_mul (PySem.F.args_tuple_mul_2 _ _) (PySem.tuple_mul1 a its.toArray n dd sl t) ⟨ho, ?_⟩⟩)
    exact ⟨.ref a, H, I.kept fun _ _ h => h, rfl, postSame sb k hx⟩
  · refine ob_mul pins s σ H x y v u Q I rx ry ⟨F, dx, dy, d, sb, tx, ty, ?_, k⟩
    rw [← e]
    cases dx <;> first | rfl | skip
    cases dy <;> first | rfl | skip
    rename_i l j
    have : j ≠ 1 := fun z => h ⟨l, rfl, by rw [z]⟩
    simp [mulT1, this]
def itemsT : D → Option (List D)
  | .tup l => some l
  | x => itemsE x
def evEnmT (fa : Sl → Mem → Res Val) : Sl → Mem → Res (List D) := fun s M => (fa s M).bind fun v M1 => match v with
  | .d x => Res.of ((itemsT x).map (enumFrom 0)) M1
  | _ => .bad
/-- the items of a tuple, each in a new pair -/
def Itt (K : PySem.W.Frag) (a : Addr) : L2.It :=
  ⟨fun i H => ∃ (xs : List V) (x : V), SqT K H a xs ∧ xs[i]? = some x, fun i H v H' => ∃ T x, v = .ref T ∧ H T = none ∧ H' = upd H T (.tup [.int (i : Nat), x]) ∧ ∀ xs, SqT K H a xs → xs[i]? = some x, fun i H => ∃ xs : List V, SqT K H a xs ∧ i = xs.length⟩
theorem turn_enumT {P : Program} {w : World} {K : PySem.W.Frag} {elts : List Expr} {kk : Nat} {tpos : Pos} (a e it : Addr) :
    Turn P w K (.Tuple elts kk tpos) (Itt K a) [e, it] e (fun i h => (∃ old, IsEnum h e it ((i : Nat) : Int) old) ∧ h.IsTupleIter it a i ∧ e ≠ it) where
  mem := by simp
  obj := fun i h st b hb => by
    obtain ⟨⟨old, he⟩, ⟨o, ho, hc, hd⟩, _⟩ := st
    have e' : b = e ∨ b = it := by simpa using hb
    rcases e' with z | z
    · rw [z]; exact ⟨_, he, fun v q => nomatch q⟩
    · rw [z]; exact ⟨o, ho, fun v q => by rw [hd] at q; cases q⟩
  keep := fun i h h' st k => let ⟨⟨old, he⟩, ⟨o, ho, r⟩, hne⟩ := st; ⟨⟨old, k e (by simp) _ he⟩, ⟨o, k it (by simp) o ho, r⟩, hne⟩
  item := by
    intro X hP hw hK hc i pins s σ H E I hf st hg
    subst hP hw hK
    obtain ⟨⟨old, he⟩, hit, hne⟩ := st
    obtain ⟨xs, x, hq, hx⟩ := hg
    obtain ⟨its, rv, hp, hz⟩ := I.tuple hq
    obtain ⟨u, hu, ru⟩ := rv.get hx
    have hel : e < s.heap.objs.size := Heap.lt_size he
    have hil : it < s.heap.objs.size := by obtain ⟨_, q, _⟩ := hit; exact Heap.lt_size q
    have hat : a ≠ it := by
      rintro rfl
      obtain ⟨o1, h1, h2, _⟩ := hp
      obtain ⟨o2, h3, h4, _⟩ := hit
      rw [h1] at h3
      cases h3
      rw [h2] at h4
      simp at h4
    have hea : e ≠ a := by
      rintro rfl
      obtain ⟨o1, h1, h2, _⟩ := hp
      rw [he] at h1
      cases h1
      simp at h2
    refine wpAny_pyNext_enum_itemD (Draws.tuple (A := X.A.in1) (I.ok.hd hc) it a hat its.toArray) he ⟨hit, hp⟩ (by
      have := (List.getElem?_eq_some_iff.mp hu).1
      simpa using this) hne (by simp [hne, hea]) fun y h' tk hP ho hit' hT hsz hk => ?_
    have hy : y = u := by
      have : its[i]? = some y := by simpa using hP
      rw [hu] at this
      exact (Option.some.inj this).symm
    subst hy
    refine ⟨_, rfl, wpAny_letOwnedTupleGo_enum (s := { s with heap := h', toks := tk + 1 }) ho fun h'' he' sb => ?_⟩
    have hT2 : h''.get? s.heap.objs.size = some { cls := .type "tuple", data := .seq #[.int i tk, y] } := (sb.2 _ (Nat.ne_of_gt hel)).trans hT
    have new : ObjOk X.prog X.w (upd H s.heap.objs.size (.tup [.int (i : Nat), x])) h'' s.heap.objs.size (.tup [.int (i : Nat), x]) :=
      ⟨by show 2 ≤ sizeLine; decide, [.int i tk, y], .cons ⟨_, rfl⟩ (.cons ru .nil), ⟨_, hT2, rfl, _, rfl⟩⟩
    have I1 : L2.Inv X pins σ (upd H s.heap.objs.size (.tup [.int (i : Nat), x])) { s with heap := h'', toks := tk + 1 } :=
      I.turnedNew (ch := [e, it]) (fun b ob hb q => (sb.2 b (fun z => hb (by simp [z]))).trans (hk b ob (fun z => hb (by simp [z])) (fun z => hb (by simp [z])) q)) hf (Nat.le_refl _) new
    refine ⟨.ref s.heap.objs.size, _, I1, rfl, ⟨_, x, rfl, I.hok.fresh (Nat.le_refl _), rfl, fun ys hy => by rw [I.tuple_inj hy hq]; exact hx⟩, ⟨⟨y, ?_⟩, ?_, hne⟩, fun b hb => ?_⟩
    · have e1 : ((i + 1 : Nat) : Int) = (i : Int) + 1 := by omega
      rw [e1]; exact he'
    · obtain ⟨o, ho, r⟩ := hit'.1
      exact ⟨o, (sb.2 it (Ne.symm hne)).trans ho, r⟩
    · have hb' : b < s.heap.objs.size := by
        have e' : b = e ∨ b = it := by simpa using hb
        rcases e' with z | z
        · rw [z]; exact hel
        · rw [z]; exact hil
      rw [upd_ne (Nat.ne_of_lt hb')]
      exact (hf b hb).1
  done := by
    intro X hP hw hK hc i pins s σ H E I hf st hg
    subst hP hw hK
    obtain ⟨⟨old, he⟩, hit, hne⟩ := st
    obtain ⟨xs, hq, hx⟩ := hg
    obtain ⟨its, rv, hp, hz⟩ := I.tuple hq
    have hl := rv.length
    obtain ⟨f0, f1, f2, f3, f4, f5⟩ := hf it (by simp)
    have hat : a ≠ it := by
      rintro rfl
      obtain ⟨o1, h1, h2, _⟩ := hp
      obtain ⟨o2, h3, h4, _⟩ := hit
      rw [h1] at h3
      cases h3
      rw [h2] at h4
      simp at h4
    rw [hx, hl] at hit
    exact wpAny_pyNext_enum_endD (Draws.tuple (A := X.A.in1) (I.ok.hd hc) it a hat its.toArray) he ⟨by simpa using hit, hp⟩ fun h' eb => ⟨rfl, I.turned (t' := s.toks) (fun b o hb q => eb b o hb q) f0 f1 f3 f4 f5⟩
  self := fun A i s Q E st h => let ⟨⟨_, he⟩, _⟩ := st; wpAny_pyIter_enum he h
/-- enumerate(v): a list, a text or a tuple -/
def iEnmT (K : Fr) (ta : TA) : TI := fun σ H R => ta σ H fun vs H1 => ∃ x, vs = [x] ∧ ((∃ a xs, x = .ref a ∧ SqL K H1 a xs ∧ R (Ite K a) H1) ∨ (∃ a xs, x = .ref a ∧ SqT K H1 a xs ∧ R (Itt K a) H1) ∨ ∃ z, x = .str z ∧ R (Itse z) H1)
theorem pi_enmT {ta : TA} (hg : Gl X "enumerate") (hm : X.mg "enumerate" = none) (he : PA X [e] ta) (hp : plainArg e = true) : PI X (.Tuple elts kk tpos) (.Call (.Name "enumerate" p) [e] [] pos) (iEnmT X.K ta) := by
  refine ⟨fun pins s σ H R I h => ?_⟩
  refine Call_ (ld_blt I hg hm boot_enumerate (PyProof.Rows.callWith_type1 (thn (he.run pos pins s σ H _ I h) fun us s1 ⟨vs, H1, I1, r1, q1⟩ => ?_) (star_plain hp [] X.env) rfl))
  obtain ⟨x, ex, q1⟩ := q1
  subst ex
  cases r1 with
  | cons r rr =>
    cases rr
    have hfp : ∀ b, b ∈ [s1.heap.objs.size + 1, s1.heap.objs.size] → s1.heap.objs.size ≤ b := fun b hb => by
      have e' : b = s1.heap.objs.size + 1 ∨ b = s1.heap.objs.size := by simpa using hb
      rcases e' with z | z
      · rw [z]; exact Nat.le_add_right _ _
      · rw [z]; exact Nat.le_refl _
    rcases q1 with ⟨a, xs, rfl, hq, q⟩ | ⟨a, xs, rfl, hq, q⟩ | ⟨z, rfl, q⟩
    · cases r
      obtain ⟨its, rv, p', hz⟩ := I1.list hq
      refine call_enumerate_list p'.isList fun h' he hit hsz hk => wpAny_pyIter_enum he ?_
      have I2 : L2.Inv X pins σ H1 { s1 with heap := h' } := I1.kept (t' := s1.toks) hk
      exact ⟨s1.heap.objs.size + 1, [s1.heap.objs.size + 1, s1.heap.objs.size], _, _, H1, rfl, I2, turn_enum a (s1.heap.objs.size + 1) s1.heap.objs.size, ⟨⟨.none, he⟩, hit, Nat.succ_ne_self _⟩, fun b hb => I1.fpOk (hfp b hb) (I1.hok.fresh (hfp b hb)), q⟩
    · cases r
      obtain ⟨its, rv, p', hz⟩ := I1.tuple hq
      refine call_enumerate_tuple p' fun h' he hit hsz hk => wpAny_pyIter_enum he ?_
      have I2 : L2.Inv X pins σ H1 { s1 with heap := h' } := I1.kept (t' := s1.toks) hk
      exact ⟨s1.heap.objs.size + 1, [s1.heap.objs.size + 1, s1.heap.objs.size], _, _, H1, rfl, I2, turn_enumT a (s1.heap.objs.size + 1) s1.heap.objs.size, ⟨⟨.none, he⟩, hit, Nat.succ_ne_self _⟩, fun b hb => I1.fpOk (hfp b hb) (I1.hok.fresh (hfp b hb)), q⟩
    · obtain ⟨t, rfl⟩ := r
      refine call_enumerate_str fun h' he hit hsz hk => wpAny_pyIter_enum he ?_
      have I2 : L2.Inv X pins σ H1 { s1 with heap := h' } := I1.kept (t' := s1.toks) hk
      exact ⟨s1.heap.objs.size + 1, [s1.heap.objs.size + 1, s1.heap.objs.size], _, _, H1, rfl, I2, turn_enumS z t (s1.heap.objs.size + 1) s1.heap.objs.size, ⟨⟨.none, he⟩, hit, Nat.succ_ne_self _⟩, fun b hb => I1.fpOk (hfp b hb) (I1.hok.fresh (hfp b hb)), q⟩
theorem its_enumT {K : Fr} {F : Hp} {p : Addr} {vs : List V} {ds : List D} (hl : ds.length ≤ big) (h : SqT K F p vs) (r : Reps K F ds vs) : Its K F (enumFrom 0 ds) (Itt K p) where
  few := by rw [enumFrom_len]; exact hl
  goes := fun i H hi s => ⟨vs, vs[i]'(by rw [← r.length]; rwa [enumFrom_len] at hi), s.sqT h, by simp⟩
  stops := fun H s => ⟨vs, s.sqT h, by rw [enumFrom_len, r.length]⟩
  yields := fun i H x H' d F0 hd s0 s1 ⟨T, y, ex, hT, eH, hy⟩ => by
    obtain ⟨dx, h1, rfl⟩ := enumFrom_get ds 0 i d hd
    obtain ⟨v, hv, rv⟩ := r.get h1
    have z := hy vs ((s0.trans s1).sqT h)
    rw [hv] at z
    have z := Option.some.inj z
    subst z
    subst ex eH
    have n := NewF.alloc s1 hT (.tup [.int (i : Nat), v])
    refine ⟨_, n, Rep.tup (by show 2 ≤ big; decide) (.inl (.inl upd_same)) (.cons ?_ (.cons (rv.mono (s0.trans n.fr)) .nil))⟩
    rw [Int.zero_add]; exact .int _
theorem p_enmT {p tpos : Pos} {elts : List Expr} {kk : Nat} (hm : X.mg "enumerate" = none) (he : PE X e (LE false X.K fa)) (hg : Gl X "enumerate" := by rfl) (hp : plainArg e = true := by rfl) : PI X (.Tuple elts kk tpos) (.Call (.Name "enumerate" p) [e] [] pos) (LI X.K (evEnmT fa)) := by
  refine (pi_enmT hg hm (q_cons hp he q_nil) hp).imp fun σ H R ⟨δ, M, F, μ, xs, M', S, RS, e0, k⟩ => ?_
  obtain ⟨v, M1, e1, e0⟩ := bind_ok e0
  cases v with
  | ref n => cases e0
  | d y =>
    obtain ⟨h1, rfl⟩ := of_ok e0
    obtain ⟨l, hl, rfl⟩ := Option.map_eq_some_iff.mp h1
    refine ⟨δ, M, F, μ, [.d y], M', S, RS, by unfold evCons; rw [e1]; rfl, fun F1 μ1 H1 vs1 st1 S1 rs1 => ?_⟩
    cases rs1 with
    | cons r1 rr =>
      cases rr
      refine ⟨_, rfl, ?_⟩
      rename_i v1
      have r1' : Rep X.K F1 y v1 := r1
      cases r1' with
      | lst hz h r => cases hl; exact .inl ⟨_, _, rfl, S1.sub.sqL (SqL.of h), k F1 μ1 H1 _ st1 S1 (its_enumL hz (SqL.of h) r)⟩
      | scr hz h r => cases hl; exact .inl ⟨_, _, rfl, S1.sub.sqL h, k F1 μ1 H1 _ st1 S1 (its_enumL hz h r)⟩
      | tup hz h r => cases hl; exact .inr (.inl ⟨_, _, rfl, S1.sub.sqT h, k F1 μ1 H1 _ st1 S1 (its_enumT hz h r)⟩)
      | str s hz => cases hl; exact .inr (.inr ⟨_, rfl, k F1 μ1 H1 _ st1 S1 (its_enumS hz)⟩)
      | _ => cases hl
end
end DL
end P_DLu
section P_DLs
set_option Elab.async false
set_option linter.all false
set_option maxRecDepth 100000
set_option maxHeartbeats 1000000
/-! rindex; sorted by what data say. -/
namespace DL
open PySem PySem.Spec PyProof.Rows L2 PySem.SeqAt
def tupN : D → Bool
  | .tup (_ :: _) => true
  | _ => false
def oneK : D → Bool
  | .int _ => true
  | .str _ => true
  | _ => false
def sortOk (l : List D) : Bool := D.plains l && ((toPys l).all fun x => (toPys l).all fun y => PySem.W.alike x y) && (l.all tupN || l.all oneK) && l.all fun x => decide ((toPy x).depth ≤ 60)
def leP (x y : D) : Bool := PySem.W.dataLe false toPy x y
def sortedL : List D → Option D
  | [.lst l] => if l.length ≤ 1000 ∧ sortOk l = true then some (.lst (l.mergeSort leP)) else none
  | _ => none
theorem toPys_map : ∀ l : List D, toPys l = l.map toPy
  | [] => rfl
  | x :: l => by show toPy x :: toPys l = _; rw [toPys_map l]; rfl
section
variable {X : Cx} {K : Fr} {F H : Hp}
theorem each_of : ∀ {l : List D} {as : List V} {its : List Value}, Reps K F l as → Vals as its → PySem.W.EachIs (fun v b => ∃ x : V, RelV x v ∧ Rep K F b x) its l
  | [], _, _, .nil, .nil => .nil
  | _ :: _, _, _, .cons r rs, .cons w ws => .cons ⟨_, w, r⟩ (each_of rs ws)
theorem of_each : ∀ {l : List D} {its : List Value}, PySem.W.EachIs (fun v b => ∃ x : V, RelV x v ∧ Rep K F b x) its l → ∃ as, Vals as its ∧ Reps K F l as
  | _, _, .nil => ⟨[], .nil, .nil⟩
  | _, _, .cons ⟨x, w, r⟩ t => by
    obtain ⟨as, h1, h2⟩ := of_each t
    exact ⟨x :: as, .cons w h1, .cons r h2⟩
theorem tupN_ok {x : D} (h : tupN x = true) : ∃ y r, toPy x = .tuple (y :: r) := by
  cases x <;> first | (cases h; done) | skip
  rename_i l
  cases l with
  | nil => cases h
  | cons a l => exact ⟨_, _, rfl⟩
theorem oneK_ok {x : D} (h : oneK x = true) : toPy x ≠ .none ∧ ∀ xs, toPy x ≠ .tuple xs := by
  cases x <;> first | (cases h; done) | exact ⟨fun e => (by cases e), fun _ e => (by cases e)⟩
theorem bb_sorted {k : Nat} (hr : Room k X.A) : CallR X (.builtin "sorted") (rLD true X.K sortedL) := by
  intro pins s σ H vs us Q I r ⟨F, xs, d, sb, tx, e, q⟩
  match xs, e, tx with
  | [.lst l], e, tx =>
    obtain ⟨v, rfl, rx⟩ := repTs_1 tx
    have e : (if l.length ≤ 1000 ∧ sortOk l = true then some (D.lst (l.mergeSort leP)) else none) = some d := e
    by_cases hc : l.length ≤ 1000 ∧ sortOk l = true
    case neg => rw [if_neg hc] at e; cases e
    rw [if_pos hc] at e
    cases e
    obtain ⟨hl, ho⟩ := hc
    unfold sortOk at ho
    simp only [Bool.and_eq_true] at ho
    obtain ⟨⟨⟨hp, hal⟩, hk⟩, hd⟩ := ho
    obtain ⟨a, as, rfl, ha, ra, la⟩ := repT_lst sb rx
    rw [Vals.ref1 r]
    obtain ⟨its, rv, pl, hz⟩ := I.list (SqL.of ha)
    obtain ⟨ws, rd⟩ := readsL I sb ra rv hp
    rw [toPys_map] at rd hal
    refine PySem.W.sorted_data (enc := toPy) pl.isList (each_of ra rv) (PySem.W.readsAll_each toPy rd) (fun x hx y hy => List.all_eq_true.mp (List.all_eq_true.mp hal x hx) y hy) ?_ (by rw [sizeLine_eq]; omega) (fun b hb => ?_) fun out hol eo => ?_
    · rw [Bool.or_eq_true] at hk
      rcases hk with hk | hk
      · exact .inl fun x hx => by
          obtain ⟨b, hb, rfl⟩ := List.mem_map.mp hx
          exact tupN_ok (List.all_eq_true.mp hk b hb)
      · exact .inr fun x hx => by
          obtain ⟨b, hb, rfl⟩ := List.mem_map.mp hx
          exact oneK_ok (List.all_eq_true.mp hk b hb)
    · have h1 : (toPy b).depth ≤ 60 := of_decide_eq_true (List.all_eq_true.mp hd b hb)
      have := hr.un
      omega
    · obtain ⟨as', rv', ra'⟩ := of_each eo
      obtain ⟨ep, he'⟩ := PyProof.Rows.sortedAll_at s.heap its out.toArray
      have hlen : (l.mergeSort leP).length = l.length := (List.mergeSort_perm l leP).length_eq
      have hla : as'.length ≤ sizeLine := by rw [← ra'.length, sizeLine_eq]; show (l.mergeSort leP).length ≤ _; omega
      exact ⟨.ref _, upd H (s.heap.objs.size + 1) (.lst as'), I.laid (t' := s.toks) (fun _ _ => PyProof.Rows.sortedAll_old) (Nat.le_succ _) ⟨hla, out, ep, rv', he'⟩, rfl, postNew sb q (by rw [hlen]; exact la) ra' (I.hok.fresh (Nat.le_succ _))⟩
/-! rindex -/
theorem last_enc {s : List Char} {c : Char} {n : Nat} (h : place (· == c) s.reverse = some n) : Builtin.Str.lastOccurrence (enc s) (enc [c]) 0 (enc s).length = some (s.length - 1 - n) := by
  obtain ⟨h1, h2, h3⟩ := place_spec h
  rw [List.length_reverse] at h1
  have at_ : ∀ i, StrLaws.At (enc s) (enc [c]) (enc s).length i ↔ s[i]? = some c := fun i => by
    show (i + (⟨#[c.toNat]⟩ : Str).length ≤ (enc s).length ∧ _) ↔ _
    rw [enc_one, StrLaws.subAt_one]
    show (s.map Char.toNat)[i]? = _ ↔ _
    rw [List.getElem?_map]
    constructor
    · intro e
      obtain ⟨a, ha, e⟩ := Option.map_eq_some_iff.mp e
      rw [ha, char_inj e]
    · intro e; rw [e]; rfl
  have hn : s[s.length - 1 - n]? = some c := by
    have e : s.reverse[n]? = some c := by
      rw [List.getElem?_eq_getElem (by rw [List.length_reverse]; exact h1)]
      rw [beq_iff_eq] at h2; rw [h2]
    rw [List.getElem?_reverse h1] at e
    exact e
  rcases StrLaws.last_spec (enc s) (enc [c]) with ⟨_, no⟩ | ⟨i, e, hi, hk⟩
  · exact absurd ((at_ _).mpr hn) (no _)
  · have hs := (at_ i).mp hi
    have hil : i < s.length := (List.getElem?_eq_some_iff.mp hs).1
    have e2 : i = s.length - 1 - n := by
      rcases Nat.lt_trichotomy i (s.length - 1 - n) with z | z | z
      · exact absurd ((at_ _).mpr hn) (hk _ z)
      · exact z
      · have hm : s.length - 1 - i < s.reverse.length := by rw [List.length_reverse]; omega
        have := h3 (s.length - 1 - i) hm (by omega)
        have e3 : s.reverse[s.length - 1 - i]? = some c := by
          rw [List.getElem?_reverse (by omega)]
          rw [show s.length - 1 - (s.length - 1 - i) = i by omega]; exact hs
        rw [List.getElem?_eq_getElem hm] at e3
        injection e3 with e3
        rw [e3] at this
        simp at this
    rw [← e2]; exact e
theorem me_rindex : MeFact X "rindex" "str" "str.rindex" (rMD false X.K (atKd .str (meD .rindex))) where
  pa := PySem.F.plainAttrs_str
  slot := PySem.F.slot_str_rindex
  ty := PySem.F.type_str_rindex
  rule := by
    intro pins s σ H x xs v us Q I rx rs ⟨F, dx, dxs, d, sb, tx, txs, e, q⟩
    unfold atKd at e
    split at e
    case isFalse => cases e
    cases dx <;> first | (rename_i h; cases h; done) | skip
    rename_i t _
    obtain ⟨rfl, _⟩ := repT_str tx
    match dxs, e, txs with
    | [.str [c]], e, txs =>
      obtain ⟨w, rfl, rw'⟩ := repTs_1 txs
      obtain ⟨rfl, _⟩ := repT_str rw'
      obtain ⟨n, hn, rfl⟩ := Option.map_eq_some_iff.mp (show (place (· == c) t.reverse).map (fun n : Nat => D.int (t.length - 1 - n : Nat)) = some d from e)
      have ho := last_enc hn
      obtain ⟨tk, rfl⟩ := rx
      cases rs with
      | cons r1 r2 =>
        cases r2
        obtain ⟨tk2, rfl⟩ := r1
        exact PySem.call_gives PySem.F.slot_str_rindex (typeIs_str _ _ _) PySem.F.entry_str_rindex (PySem.F.args_str_rindex_2 _ _) (gives_str_rindex _ _ tk tk2 _ ho) ⟨.int _, H, I.tok _, ⟨_, rfl⟩, postSame sb q (.int _)⟩
theorem tab_rindex : MeTab X false "rindex" (meD .rindex) := tab_str (.inr (.inr (.inl rfl))) me_rindex
end
end DL
end P_DLs
section P_DLdc
set_option Elab.async false
set_option linter.all false
set_option maxRecDepth 100000
set_option maxHeartbeats 1000000
/-! A dict of one text as data: made, compared; a text as a tuple. -/
namespace DL
open PySem PySem.Spec PyProof.Rows L2
theorem Step.freeze {b : Nat} {F F' : Hp} {μ μ' : List Addr} {H H' : Hp} (s : Step b F μ H F' μ' H') {p : Addr} (hp : H p = none) (hF : F' p = none) (o : HO) : Step b F μ H (upd F' p o) μ' H' where
  fr := fun a u h => by
    have q := s.fr a u h
    rw [upd_ne (ne_of_none q hF)]; exact q
  pre := s.pre
  new := s.new
  keep := s.keep
  up := s.up
  newF := fun a u h => by
    by_cases e : a = p
    · rw [e]; exact .inr (.inl hp)
    · rw [upd_ne e] at h; exact s.newF a u h
theorem Sim.freezeD {K : Fr} {F : Hp} {μ : List Addr} {M : Mem} {H : Hp} (S : Sim K F μ M H) {p : Addr} {o : HO} (hF : F p = none) (hH : H p = some o) (hm : p ∉ μ) : Sim K (upd F p o) μ M H where
  sub := fun a u h => by
    by_cases e : a = p
    · rw [e, upd_same] at h; cases h; rw [e]; exact hH
    · rw [upd_ne e] at h; exact S.sub a u h
  out := fun a h => by rw [upd_ne (fun e => hm (by rw [← e]; exact h))]; exact S.out a h
  nd := S.nd
  len := S.len
  obj := fun i u a q1 q2 => by
    have q := S.obj i u a q1 q2
    have sb : Sub F (upd F p o) := fun a u h => by rw [upd_ne (ne_of_none h hF)]; exact h
    cases u with
    | lst ds =>
      cases h : H a with
      | none => rw [h] at q; exact q
      | some w =>
        rw [h] at q
        cases w <;> first | exact q | exact ⟨q.1, Reps.mono sb q.2⟩
    | _ => exact q
def evDic1 (fk fv : Sl → Mem → Res Val) : Sl → Mem → Res Val := fun s M => (fk s M).bind fun u M1 => (fv s M1).bind fun w M2 => match u, w with
  | .d (.str k), .d (.int i) => .ok (.d (.dic [(.str k, .int i)])) M2
  | _, _ => .bad
section
variable {X : Cx} {a b : Expr} {fk fv : Sl → Mem → Res Val} {pos : Pos}
theorem p_dic1 (hk : PE X a (LE false X.K fk)) (hv : PE X b (LE false X.K fv)) : PE X (.Dict [some a] [b] pos) (LE false X.K (evDic1 fk fv)) := by
  refine (pe_disp (pps_cons hk hv pps_nil) rfl rfl (by simp) (show 1 ≤ 15 by decide)).imp fun σ H Q ⟨δ, M, F, μ, x, M', S, R, e0, kk⟩ => ?_
  obtain ⟨u, M1, e1, e0⟩ := bind_ok e0
  obtain ⟨w, M2, e2, e0⟩ := bind_ok e0
  match u, w, e1, e2, e0 with
  | .d (.str k), .d (.int i), e1, e2, e0 =>
    cases e0
    intro p hp
    have Fp : F p = none := by
      cases q : F p with
      | none => rfl
      | some o => rw [S.sub p o q] at hp; cases hp
    have mp : p ∉ μ := fun z => S.tracked z hp
    have S0 := S.updNew Fp mp (.dK [])
    refine ⟨δ, M, F, μ, _, M1, S0, R, e1, fun F1 μ1 H1 v1 st1 S1 r1 => ?_⟩
    refine ⟨δ, M1, F1, μ1, _, M', S1, R.mono st1.fr st1.whole, e2, fun F2 μ2 H2 v2 st2 S2 r2 => ?_⟩
    obtain ⟨h1, F1p, m1⟩ := st1.apart upd_same Fp mp
    obtain ⟨h2, F2p, m2⟩ := st2.apart h1 F1p m1
    have r1' : Rep X.K F1 (.str k) v1 := r1
    have r2' : Rep X.K F2 (.int i) v2 := r2
    cases r1'
    cases r2'
    refine ⟨h2, [(Sum.inr (enc k), V.int i)], rfl, show 1 ≤ 15 by decide, ?_⟩
    have st12 := st1.transE st2
    have st : StepE F μ H F2 μ2 H2 := ⟨st12.fr, st12.pre, fun a ha => by
      rcases st12.new a ha with q | q
      · exact .inl q
      · by_cases e : a = p
        · rw [e, upd_same] at q; cases q
        · rw [upd_ne e] at q; exact .inr q, fun a o h n => st12.keep a o (by rw [upd_ne (ne_of_none h hp)]; exact h) n, fun a h => by
      have q := st12.up a h
      by_cases e : a = p
      · rw [e]; exact hp
      · rwa [upd_ne e] at q, fun a o h => by
      rcases st12.newF a o h with q | q | q
      · exact .inl q
      · by_cases e : a = p
        · rw [e]; exact .inr (.inl hp)
        · rw [upd_ne e] at q; exact .inr (.inl q)
      · exact .inr (.inr q)⟩
    have em : mergeK [] [((Sum.inr (enc k) : Key), V.int i)] = [(Sum.inr (enc k), V.int i)] := rfl
    rw [em]
    have S3 := (S2.updNew F2p m2 (.dK [(Sum.inr (enc k), V.int i)])).freezeD F2p upd_same m2
    refine kk _ μ2 _ _ ((st.updNew hp _).freeze hp F2p _) S3 ?_
    exact Rep.dic [(k, i)] (by simp) upd_same
/-! == of such dicts -/
def dicS : List (D × D) → List (D × D) → Bool
  | [], [] => true
  | (.str a, .int i) :: l, (.str b, .int j) :: k => a == b && i == j && dicS l k
  | _, _ => false
theorem dicS_eq : ∀ {l k : List (List Char × Int)}, dicS (l.map fun p => (D.str p.1, D.int p.2)) (k.map fun p => (D.str p.1, D.int p.2)) = true → l = k
  | [], [], _ => rfl
  | [], _ :: _, h => by cases h
  | _ :: _, [], h => by cases h
  | (a, i) :: l, (b, j) :: k, h => by
    have h : (a == b && i == j && dicS _ _) = true := h
    rw [Bool.and_eq_true, Bool.and_eq_true, beq_iff_eq, beq_iff_eq] at h
    rw [h.1.1, h.1.2, dicS_eq h.2]
def eqC : D → D → Option D
  | .dic l, .dic k => if dicS l k = true then some (.bl true) else none
  | x, y => cmpV .eq x y
theorem ob_eqC {k : Nat} (hr : Room k X.A) : OpR X (compareOp .Eq) (r2D false X.K eqC) := by
  intro pins s σ H x y v u Q I rx ry ⟨F, dx, dy, d, sb, tx, ty, e, q⟩
  by_cases hd : (∃ l k, dx = .dic l ∧ dy = .dic k)
  · obtain ⟨l, k, rfl, rfl⟩ := hd
    obtain ⟨a, l', rfl, rfl, nd, ha⟩ := repT_dic tx
    obtain ⟨b, k', rfl, rfl, _, hb⟩ := repT_dic ty
    have e : (if dicS _ _ = true then some (D.bl true) else none) = some d := e
    split at e
    case isFalse => cases e
    rename_i hs
    cases e
    obtain rfl := dicS_eq hs
    refine op_eq_dict (by have := hr.units; omega) pins s σ H _ _ v u Q I rx ry ⟨a, b, _, rfl, rfl, sb _ _ ha, sb _ _ hb, ?_, fun p hp => ?_, postSame sb q (.bl true)⟩
    · rw [List.map_map]
      have : (l'.map ((fun kv : Key × V => kv.1) ∘ fun p : List Char × Int => ((Sum.inr (enc p.1) : Key), V.int p.2))) = (l'.map (·.1)).map fun t => (Sum.inr (enc t) : Key) := by rw [List.map_map]; rfl
      rw [this]
      exact List.pairwise_map.mpr (nd.imp fun h z => h (enc_inj (Sum.inr.inj z)))
    · obtain ⟨p', _, rfl⟩ := List.mem_map.mp hp
      rfl
  · have e2 : eqC dx dy = cmpV .eq dx dy := by
      cases dx <;> cases dy <;> first | rfl | exact absurd ⟨_, _, rfl, rfl⟩ hd
    rw [e2] at e
    exact ob_eq hr pins s σ H x y v u Q I rx ry ⟨F, dx, dy, d, sb, tx, ty, e, q⟩
/-! tuple of a text -/
def tupSD : List D → Option D
  | [.str s] => some (.tup (s.map fun c => .str [c]))
  | xs => biD .tuple xs
theorem meets_tuple_str (x : Str) (t : Tok) (hsz : x.cps.size ≤ sizeLine) :
    Meets (Builtin.«tuple.__new__» ⟨[.type "tuple", .str x t], []⟩)
      (fun A R s => A.handled = none ∧ ∀ (s' : Shared) (acc : Array Value), (∀ b o', s.heap.get? b = some o' → s'.heap.get? b = some o') → s'.gens = s.gens → s'.drawn = s.drawn → s'.os = s.os → ItemsOf (SignAt x) acc x.cps.size →
        R (.ok (.ret (.ref s'.heap.objs.size))) { s' with heap := s'.heap.push { cls := .type "tuple", data := .seq acc } }) :=
  .of_wp fun prog w A R s h => by
    obtain ⟨hp, g, d, tk, os⟩ := s
    obtain ⟨hA, h⟩ := h
    have hsub := sub_tuple_self
    have hinit := init_tuple_lookup
    have hmh := madeHere_tuple
    have hT : Shared.TypeIs ⟨hp, g, d, tk, os⟩ (.str x t) "str" := rfl
    wp_walk using wpAny_typeOf hT, wpAny_collect_str (A := A.in1) (hn := hsz) hA x t
    intro s' acc hk h1 h2 h3 hacc
    show wpAny _ _ (Builtin.Tuple.tupleExact acc.toList.toArray >>= fun v => ret v) _ _ _
    unfold Builtin.Tuple.tupleExact
    refine wpAny_bind (wpAny_newObj_type ?_ (by show acc.toList.toArray.size ≤ sizeLine; simp only [Array.toArray_toList]; rw [hacc.1]; exact hsz))
    refine wpAny_pure ⟨_, rfl, ?_⟩
    have e : acc.toList.toArray = acc := by simp
    rw [e]
    exact h s' acc hk h1 h2 h3 hacc
theorem call_tuple_str {prog : Program} {w : World} {A : Around} {E : Value → Shared → Prop} {s : Shared} {x : Str} {t : Tok} {Q : Value → Shared → Prop} (hA : A.handled = none) (hsz : x.cps.size ≤ sizeLine)
    (h : ∀ (h1 : Heap) (t' : Nat) (acc : Array Value), (∀ b o', s.heap.get? b = some o' → h1.get? b = some o') → ItemsOf (SignAt x) acc x.cps.size → Q (.ref h1.objs.size) { s with heap := h1.push { cls := .type "tuple", data := .seq acc }, toks := t' }) :
    wpAny (model prog w) A (call (.type "tuple") [.str x t]) Q E s := by
  refine callType_new F.called_tuple (by decide) (F.typeCall_tuple_1 _) (F.newCall_tuple_1 _) (fun obj => F.args_object_init_2 obj _) F.entry_tuple_new
    (meets_tuple_str x t hsz) ⟨hA, fun s' acc hk h1 h2 h3 hacc => ?_⟩
  obtain ⟨hp', g', dd', tk', os'⟩ := s'
  replace h1 : g' = s.gens := h1
  replace h2 : dd' = s.drawn := h2
  replace h3 : os' = s.os := h3
  subst h1 h2 h3
  exact ⟨⟨_, Heap.get?_push_size _ rfl, rfl⟩, h hp' tk' acc hk hacc⟩
theorem bb_tupS (hc : X.calm = true) : CallR X (.type "tuple") (rLD false X.K tupSD) := by
  intro pins s σ H vs us Q I r ⟨F, xs, d, sb, tx, e, q⟩
  by_cases hs : ∃ t, xs = [.str t]
  · obtain ⟨t, rfl⟩ := hs
    obtain ⟨v, rfl, rx⟩ := repTs_1 tx
    cases e
    obtain ⟨rfl, la⟩ := repT_str rx
    obtain ⟨u, rfl, tk, rfl⟩ := vals1 r
    have hsz : (enc t).cps.size ≤ sizeLine := by rw [enc_size]; exact big_ge la
    refine call_tuple_str (I.ok.hd hc) hsz fun h1 t' acc hk hi => ?_
    have rv : Vals (t.map fun c => V.str (enc [c])) acc.toList := by
      refine signs_vals t _ (by rw [Array.length_toList, hi.1, enc_size]) fun i h => ?_
      obtain ⟨c, u, hc, e⟩ := hi.2 i acc.toList[i] (by rw [← Array.getElem?_toList]; exact List.getElem?_eq_getElem h)
      exact ⟨u, by rw [e, hc]; rfl⟩
    have I1 : L2.Inv X pins σ H { s with heap := h1, toks := t' } := I.kept (t' := t') hk
    have hp : H h1.objs.size = none := I1.hok.fresh (Nat.le_refl _)
    refine ⟨.ref h1.objs.size, _, I1.laid (t' := t') (h' := h1.push { cls := .type "tuple", data := .seq acc }) (fun b o q => Heap.get?_push_of_some _ q) (Nat.le_refl _) (show ObjOk X.prog X.w _ _ _ (.tup _) from ⟨by rw [List.length_map]; exact big_ge la, acc.toList, rv, ⟨_, Heap.get?_push_size _ rfl, rfl, 0, by simp⟩⟩), rfl, ?_⟩
    exact postTup sb q (by rw [List.length_map]; exact la) (reps_chars t) hp
  · have e2 : tupSD xs = biD .tuple xs := by
      unfold tupSD
      split
      · exact absurd ⟨_, rfl⟩ hs
      · rfl
    rw [e2] at e
    exact bb_tuple pins s σ H vs us Q I r ⟨F, xs, d, sb, tx, e, q⟩
/-! sorted of a text -/
def sortedSx : List D → Option D
  | [.str s] => if s.length ≤ 1000 then some (.lst ((s.map fun c => D.str [c]).mergeSort leP)) else none
  | xs => sortedL xs
def SgR (v : Value) (b : D) : Prop := ∃ (c : Char) (t : Tok), b = .str [c] ∧ v = .str (enc [c]) t
theorem sorted_str {prog : Program} {w : World} {A : Around} {E : Value → Shared → Prop} {s : Shared} {l : List Char} {t : Tok} {Q : Value → Shared → Prop} (hA : A.handled = none) (hu : A.units + 64 < cLine) (hl : l.length ≤ 1000)
    (h : ∀ (h0 h1 : Heap) (t' : Nat) (out : List Value) (n : Nat), (∀ b o', s.heap.get? b = some o' → h0.get? b = some o') → (∀ b o', h0.get? b = some o' → h1.get? b = some o') → h1.get? h0.objs.size = some (PyProof.Rows.seqObj "list" out.toArray n) → PySem.W.EachIs SgR out ((l.map fun c => D.str [c]).mergeSort leP) →
      Q (.ref h0.objs.size) { s with heap := h1, toks := t' }) :
    wpAny (model prog w) A (call (.builtin "sorted") [.str (enc l) t]) Q E s := by
  have hsz : (enc l).cps.size ≤ sizeLine := by rw [enc_size, sizeLine_eq]; omega
  refine Calls.call_function_entry PyProof.Rows.kind_sorted PyProof.Rows.plain_sorted PyProof.Rows.entry_sorted (PyProof.Rows.args_sorted1 _) ?_
  unfold Builtin.«sorted»
  refine wpAny_bind (m := checkCount "sorted" 1 1 _) (wpAny_pure ?_)
  refine wpAny_bind (wpAny_collect_str (A := A.in1) hA (enc l) t (fun s' acc hk h1 h2 h3 hacc => ?_) hsz)
  have hL : acc.toList.length ≤ sizeLine := by rw [Array.length_toList, hacc.1]; exact hsz
  refine wpAny_bind (wpAny_newList ?_ hL)
  obtain ⟨hp', g', dd', tk', os'⟩ := s'
  replace h1 : g' = s.gens := h1
  replace h2 : dd' = s.drawn := h2
  replace h3 : os' = s.os := h3
  subst h1 h2 h3
  have each : ∀ (its : List Value) (cs : List Char), its.length = cs.length → (∀ j v, its[j]? = some v → SignAt (enc cs) j v) → PySem.W.EachIs SgR its (cs.map fun c => D.str [c]) := by
    intro its
    induction its with
    | nil => intro cs e _; cases cs with | nil => exact .nil | cons _ _ => cases e
    | cons v its ih =>
      intro cs e hj
      cases cs with
      | nil => cases e
      | cons c cs =>
        refine .cons ?_ (ih cs (by simpa using e) fun j u hu => ?_)
        · obtain ⟨x, t, hx, rfl⟩ := hj 0 v rfl
          have : x = c.toNat := by
            have : some c.toNat = some x := hx
            exact (Option.some.inj this).symm
          rw [this]
          exact ⟨c, t, rfl, rfl⟩
        · obtain ⟨x, t, hx, rfl⟩ := hj (j + 1) u hu
          exact ⟨x, t, by simpa [enc] using hx, rfl⟩
  have eI := each acc.toList l (by rw [Array.length_toList, hacc.1, enc_size]) fun j v hv => hacc.2 j v (by simpa using hv)
  have ho : (hp'.push { cls := .type "list", data := .seq acc.toList.toArray }).get? hp'.objs.size = some (PyProof.Rows.seqObj "list" acc.toList.toArray 0) := Heap.get?_push_size _ rfl
  refine wpAny_bind (wpAny_holding (PySem.W.list_sort_data (enc := toPy) (R := SgR) ho eI ?_ ?_ ?_ ?_ ?_ fun out hol eo => ?_))
  · exact eI.mono fun v b ⟨c, t, h1, h2⟩ => ⟨[], by rw [h1, h2]; exact .str _ _, by simp⟩
  · intro x hx y hy
    obtain ⟨b1, hb1, rfl⟩ := List.mem_map.mp hx
    obtain ⟨b2, hb2, rfl⟩ := List.mem_map.mp hy
    obtain ⟨c1, _, rfl⟩ := List.mem_map.mp hb1
    obtain ⟨c2, _, rfl⟩ := List.mem_map.mp hb2
    rfl
  · refine .inr fun x hx => ?_
    obtain ⟨b, hb, rfl⟩ := List.mem_map.mp hx
    obtain ⟨c, _, rfl⟩ := List.mem_map.mp hb
    exact oneK_ok rfl
  · rw [List.length_map]
    show l.length ≤ _
    rw [sizeLine_eq]; omega
  · intro b hb
    obtain ⟨c, _, rfl⟩ := List.mem_map.mp hb
    show A.units + 1 + 1 + (toPy (D.str [c])).depth < cLine
    have : (toPy (D.str [c])).depth ≤ 1 := by first | exact Nat.zero_le _ | exact Nat.le_refl _
    omega
  · refine wpAny_pure ⟨_, rfl, ?_⟩
    obtain ⟨n, hn⟩ := PyProof.Rows.sortedHeap_at (out := out.toArray) ho
    refine h hp' _ tk' out n hk (fun b o q => ?_) hn eo
    have hlt : b < hp'.objs.size := Heap.lt_size q
    rw [PyProof.Rows.sortedHeap_old (Nat.ne_of_lt hlt) (by rw [Heap.size_push]; exact Nat.lt_succ_of_lt hlt)]
    exact Heap.get?_push_of_some _ q
theorem bb_sortedS (hc : X.calm = true) {k : Nat} (hr : Room k X.A) : CallR X (.builtin "sorted") (rLD true X.K sortedSx) := by
  intro pins s σ H vs us Q I r ⟨F, xs, d, sb, tx, e, q⟩
  by_cases hs : ∃ t, xs = [.str t]
  · obtain ⟨t, rfl⟩ := hs
    obtain ⟨v, rfl, rx⟩ := repTs_1 tx
    have e : (if t.length ≤ 1000 then some (D.lst ((t.map fun c => D.str [c]).mergeSort leP)) else none) = some d := e
    split at e
    case isFalse => cases e
    rename_i hl
    cases e
    obtain ⟨rfl, la⟩ := repT_str rx
    obtain ⟨u, rfl, tk, rfl⟩ := vals1 r
    refine sorted_str (I.ok.hd hc) (by have := hr.un; omega) hl fun h0 h1 t' out n k0 k1 ho eo => ?_
    have I1 : L2.Inv X pins σ H { s with heap := h0, toks := t' } := I.kept (t' := t') k0
    have hp : H h0.objs.size = none := I1.hok.fresh (Nat.le_refl _)
    obtain ⟨as', rv', ra'⟩ : ∃ as, Vals as out ∧ Reps X.K F ((t.map fun c => D.str [c]).mergeSort leP) as := by
      generalize (t.map fun c => D.str [c]).mergeSort leP = bs at eo
      clear ho q
      induction eo with
      | nil => exact ⟨[], .nil, .nil⟩
      | cons h t ih =>
        obtain ⟨c, tk, rfl, rfl⟩ := h
        obtain ⟨as, h1, h2⟩ := ih
        exact ⟨.str (enc [c]) :: as, .cons ⟨tk, rfl⟩ h1, .cons (.str [c] (show 1 ≤ big by decide)) h2⟩
    have hlen : ((t.map fun c => D.str [c]).mergeSort leP).length = t.length := by rw [List.length_mergeSort, List.length_map]
    have hla : as'.length ≤ sizeLine := by rw [← ra'.length, hlen, sizeLine_eq]; omega
    exact ⟨.ref _, upd H h0.objs.size (.lst as'), I1.laid (t' := t') k1 (Nat.le_refl _) (show ObjOk X.prog X.w _ _ _ (.lst as') from ⟨hla, out, n, rv', ho⟩), rfl, postNew sb q (by rw [hlen]; exact la) ra' hp⟩
  · have e2 : sortedSx xs = sortedL xs := by
      unfold sortedSx
      split
      · exact absurd ⟨_, rfl⟩ hs
      · rfl
    rw [e2] at e
    exact bb_sorted hr pins s σ H vs us Q I r ⟨F, xs, d, sb, tx, e, q⟩
end
end DL
end P_DLdc
section P_DLj
set_option Elab.async false
set_option linter.all false
set_option maxRecDepth 100000
set_option maxHeartbeats 1000000
/-! sep.join(d), d a dict whose keys are texts. -/
namespace DL
open PySem PySem.Spec PyProof.Rows L2
theorem nolen_dk : typeLookup (.type "dict_keyiterator") "__len__" = pure none := by rw [typeLookup_type, builtinLookup_eq_fast]; kernel_rfl
theorem hint_dk : typeLookup (.type "dict_keyiterator") "__length_hint__" = pure (some (.builtin "dict_keyiterator.__length_hint__")) := by rw [typeLookup_type, builtinLookup_eq_fast]; kernel_rfl
section
variable {prog : Program} {w : World} {A : Around} {E : Value → Shared → Prop} {s : Shared} {I : Addr} {fp wr : List Addr} {G : Array GenState → Array GenState → Prop} {n : Nat} {P : Nat → Value → Prop} {St : Nat → Shared → Prop}
theorem collect_dk {Q : List Value → Shared → Prop} (W : WalksS prog w A.in1 I fp wr G n P St) (hT : ∀ i s, St i s → s.TypeIs (.ref I) "dict_keyiterator") (hst : St 0 s) (hfp : ∀ b ∈ fp, b < s.heap.objs.size) (hI : I ∈ fp)
    (hQ : ∀ s' acc, Moved wr G s s' → ItemsOf P acc n → Q acc.toList s') (hn : n ≤ sizeLine) : wpAny (model prog w) A (collect (.ref I)) Q E s := by
  have hSf : s.heap.objs.size ∉ fp := fun hm => Nat.lt_irrefl _ (hfp _ hm)
  have hSI : s.heap.objs.size ≠ I := fun e => hSf (e ▸ hI)
  unfold collect
  refine wpAny_bind (wpAny_runValue (codeAny_builtin PySem.F.entry_proto_collect ?_))
  rw [Around.under_plainId PySem.F.plain_proto_collect _]
  show wpAny _ A.in1 (newList [] >>= fun l => again (.builtin "list.__iadd__" ⟨[l, .ref I], []⟩)) _ _ s
  refine wpAny_bind (wpAny_newObj_type ?_)
  refine wpAny_pure ⟨plainId_quiet PySem.F.plain_list_iadd _, codeAny_builtin PySem.F.entry_list_iadd ?_⟩
  rw [Around.under_plainId PySem.F.plain_list_iadd _]
  have hst₁ := W.frame 0 s (s.heap.push { cls := .type "list", data := .seq ([] : List Value).toArray }) s.toks hst (Nat.le_refl _) fun b _ o e => Heap.get?_push_of_some _ e
  have hS₁ : (s.heap.push { cls := .type "list", data := .seq ([] : List Value).toArray }).get? s.heap.objs.size = some { cls := .type "list", data := .seq ([] : List Value).toArray } := Heap.get?_push_size _ rfl
  have h1 : Builtin.List.listSameRef (.ref s.heap.objs.size) (.ref I) = false := by simp [Builtin.List.listSameRef, hSI]
  show wpAny _ A.in1 (Builtin.List.listExtendWith (.ref s.heap.objs.size) (.ref I) (.ref s.heap.objs.size)) _ _ _
  unfold Builtin.List.listExtendWith
  refine wpAny_bind (wpAny_typeOf (hT 0 _ hst₁) ?_)
  rw [if_neg (by rw [h1]; decide)]
  refine wpAny_bind (W.self 0 _ _ _ hst₁ ?_)
  refine wpAny_bind (wpAny_holding ?_)
  unfold Builtin.List.listLengthHint
  refine wpAny_bind (wpAny_specialOf (hT 0 _ hst₁) nolen_dk ?_)
  show wpAny _ A.in1 (specialOf (Value.ref I) (Str.ofString "__length_hint__") >>= _) _ _ _
  refine wpAny_bind (wpAny_specialOf (hT 0 _ hst₁) hint_dk ?_)
  (generalize hid : ("dict_keyiterator.__length_hint__" : String) = id0; (fail_if_success (clear hid id0)); wp_delta; rw [show splitId id0 = some ("dict_keyiterator", "__length_hint__") from by subst hid; decide +kernel]; subst hid)
  refine wpAny_bind (wpAny_isInstance (b := true) (hT 0 _ hst₁) (by rw [isSubtype_type]; kernel_rfl) ?_)
  refine wpAny_pure ?_
  rw [if_neg (by decide)]
  refine wpAny_pure ⟨plainId_quiet PySem.F.plain_extend_loop _, codeAny_extend_loopS W hn _ hSf _ n 0 _ _ _ rfl (Nat.zero_le _) hst₁ hS₁ (ItemsOf.nil P) fun s' acc' c' hm hS' hacc => ?_⟩
  show wpAny _ A (load s.heap.objs.size >>= _) _ _ s'
  refine wpAny_bind (wpAny_load hS' ?_)
  exact wpAny_pure (hQ s' acc' (Moved.drop_new (o := { cls := .type "list", data := .seq ([] : List Value).toArray }) (tk := s.toks) hm (Nat.le_refl _)) hacc)
end
theorem strs_keys : ∀ {l : List Value} {ks : List Str}, l.length = ks.length → (∀ (j : Nat) (v : Value), l[j]? = some v → ∃ (y : Str) (t : Tok), ks[j]? = some y ∧ v = Value.str y t) → StrsAre l ks
  | [], [], _, _ => .nil
  | [], _ :: _, h, _ => by cases h
  | _ :: _, [], h, _ => by cases h
  | v :: l, y :: ks, h, k => by
    obtain ⟨y', t, e1, e2⟩ := k 0 v rfl
    cases e1
    subst e2
    exact .cons y t (strs_keys (by simpa using h) fun j w hw => k (j + 1) w hw)
section
variable {prog : Program} {w : World} {A : Around} {E : Value → Shared → Prop} {s : Shared}
theorem join_dict {x : Str} {t : Tok} {d : Addr} {kvs : List (Key × Value)} {ep : Nat} {ys : List Str} {Q : Value → Shared → Prop} (lo : (d == sysModules) = false) (hh : A.handled = none) (hm : s.heap.DictAt (mixKind prog w) d kvs ep) (hz : kvs.length ≤ sizeLine)
    (hk : kvs.map (·.1) = ys.map Sum.inr) (hok : (ys.map (·.length)).sum + ys.length * x.length ≤ 16777216)
    (hq : ∀ h' t' k, (∀ b o, s.heap.get? b = some o → h'.get? b = some o) → Q (.str (Txt.join x ys) t') { s with heap := h', toks := k }) :
    wpAny (model prog w) A (call (.builtin "str.join") [.str x t, .ref d]) Q E s := by
  refine wpAny_call (codeAny_call_builtin PySem.F.slot_str_join.plain PySem.F.entry_str_join (PySem.F.slot_str_join.check _ _ _ _ _ _ _ _ (typeIs_str _ _ _) (PySem.F.args_str_join_2 _ _) ?_))
  rw [join_tree_other]
  refine wpAny_bind (wpAny_typeOf (T := "dict") hm.dictOf.typeIs ?_)
  show wpAny _ A.in1 ((pyIter (.ref d)).tryCatch _ >>= fun it => collect it >>= fun items => joinTail x items) _ _ s
  refine wpAny_bind (wpAny_tryCatch (wpAny_pyIter_dict lo hm ?_))
  have hd := hm.lt_size
  have W := (Walks.dictKeys (prog := prog) (w := w) (A := A.in1.in1) (knd := mixKind prog w) (by simp [hh]) s.heap.objs.size d (Nat.ne_of_lt hd) kvs ep).toS
  have hl : kvs.length = ys.length := by have := congrArg List.length hk; simpa using this
  refine wpAny_bind (collect_dk (s := ({ s with heap := s.heap.push { cls := .type "dict_keyiterator", data := .fields #[.ref d, .int 0 0, .int kvs.length 0, .int ep 0] } } : Shared)) W (fun i s st => st.1.typeIs) ⟨⟨_, Heap.get?_push_size _ rfl, rfl, rfl⟩, hm.push _⟩ (fun b hb => ?_) (by simp) (fun s' acc hmv hacc => ?_) hz)
  · have e : ({ s with heap := s.heap.push { cls := .type "dict_keyiterator", data := .fields #[.ref d, .int 0 0, .int kvs.length 0, .int ep 0] } } : Shared).heap.objs.size = s.heap.objs.size + 1 := Heap.size_push ..
    rw [e]
    simp only [List.mem_cons, List.not_mem_nil, or_false] at hb
    rcases hb with hb | hb
    · rw [hb]; exact Nat.lt_succ_self _
    · rw [hb]; exact Nat.lt_succ_of_lt hd
  · have hs : StrsAre acc.toList ys := strs_keys (by rw [Array.length_toList, hacc.1, hl]) fun j v hv => by
      obtain ⟨k, y, hky, hi⟩ := hacc.2 j v (by rw [← Array.getElem?_toList]; exact hv)
      have e1 : (ys.map Sum.inr)[j]? = some k := by rw [← hk, List.getElem?_map, hky]; rfl
      rw [List.getElem?_map] at e1
      obtain ⟨z, hz2, rfl⟩ := Option.map_eq_some_iff.mp e1
      have hi' : keyIs (Sum.inr z) v = true := hi
      obtain ⟨t, e⟩ := keyIs_rel hi'
      exact ⟨z, t, hz2, e⟩
    obtain ⟨l, hl2, ht⟩ := strsAre_values hs
    subst ht
    rw [hl2]
    have hok' := joinOk_of hok
    unfold JoinOk at hok'
    rw [Bool.not_eq_true'] at hok'
    have g : Gives (joinTail x (strValues l)) (joinMade x l) := by
      have g0 := gives_joinTail x l hok'
      cases l with
      | nil => exact g0
      | cons p r => cases r with
        | nil => exact g0
        | cons q r' => exact g0
    refine g prog w A (wants Q E) s' (post_join l ⟨joinFit_length hok', fun t' k => ?_⟩)
    obtain ⟨h', g', d', tk', os'⟩ := s'
    have eg : g' = s.gens := hmv.gens
    have ed : d' = s.drawn := hmv.drawn
    have eo : os' = s.os := hmv.os
    subst eg; subst ed; subst eo
    refine hq h' t' k fun b o e => ?_
    exact hmv.heap b o (by simp only [List.mem_cons, List.not_mem_nil, or_false]; exact Nat.ne_of_lt (Heap.lt_size e)) (Heap.get?_push_of_some _ e)
end
section
variable {X : Cx}
def rJoinD : V → List V → Hp → VK → Prop := fun x xs H Q => ∃ (a : Str) (p : Addr) (kvs : List (Key × V)) (ys : List Str), x = .str a ∧ xs = [.ref p] ∧ H p = some (.dK kvs) ∧ kvs.map (·.1) = ys.map Sum.inr ∧
  (ys.map (·.length)).sum + ys.length * a.length ≤ 16777216 ∧ Q (.str (Txt.join a ys)) H
theorem mt_joinD (hc : X.calm = true) : MtR X "str.join" rJoinD := by
  intro pins s σ H x xs v us Q I rx rs h
  obtain ⟨a, p, kvs, ys, rfl, rfl, hp, hk, hz, h⟩ := h
  obtain ⟨t, rfl⟩ := rx
  cases rs with
  | cons r1 rs =>
    cases rs
    cases r1
    obtain ⟨z, lo, vs, rk, hd⟩ := (show ObjOk X.prog X.w H s.heap p (.dK kvs) from I.hok p _ hp)
    obtain ⟨ep, hat⟩ := hd.dictAt
    refine join_dict (kvs := vs) (ys := ys) lo (I.ok.hd hc) hat (by rw [← Paired.length rk]; exact z) (by rw [← KV.keys rk]; exact hk) hz fun h' t' k kp => ?_
    exact ⟨.str _, H, (I.kept (h' := h') (t' := k) kp), ⟨t', rfl⟩, h⟩
end
end DL
end P_DLj
section P_DLk
set_option Elab.async false
set_option linter.all false
set_option maxRecDepth 100000
set_option maxHeartbeats 1000000
/-! sep.join({key: True for target in iter ..}): the unlike ones of the texts. -/
namespace DL
open PySem PySem.Spec PyProof.Rows L2
def joinKeys (sep : List Char) (ys : List D) : Option D := match texts ys with
  | some ts => if lens ts.eraseDups + ts.eraseDups.length * sep.length ≤ big then some (.str (glue sep ts.eraseDups)) else none
  | none => none
def evJd (sep : List Char) (own : List Nat) (t : Tg) (fI : Sl → Mem → Res (List D)) (fifs : Sl → Mem → Res Bool) (fk : Sl → Mem → Res Val) : Sl → Mem → Res Val := fun s M =>
  (fI s M).bind fun xs M1 => (compLoop (evBlk own t fifs fk s) xs M1).bind fun ys M2 => Res.of ((joinKeys sep ys).map .d) M2
theorem enc_inj' {a b : List Char} (h : enc a = enc b) : a = b := by
  have h2 := congrArg (fun z : Str => z.cps.toList) h
  have h3 : a.map Char.toNat = b.map Char.toNat := by simpa [enc] using h2
  clear h h2
  induction a generalizing b with
  | nil => cases b with
    | nil => rfl
    | cons _ _ => cases h3
  | cons c a ih => cases b with
    | nil => cases h3
    | cons d b =>
      rw [List.map_cons, List.map_cons] at h3
      injection h3 with h4 h5
      rw [char_inj h4, ih h5]
def ddK (ts : List (List Char)) : List (Key × V) := ts.eraseDups.map fun t => (Sum.inr (enc t), V.bl true)
theorem ddK_keys (ts : List (List Char)) : (ddK ts).map (·.1) = (ts.eraseDups.map enc).map Sum.inr := by
  unfold ddK; rw [List.map_map, List.map_map]; rfl
theorem dups_add (ts : List (List Char)) (t : List Char) : (ts ++ [t]).eraseDups = if t ∈ ts then ts.eraseDups else ts.eraseDups ++ [t] := by
  rw [List.eraseDups_append]
  by_cases h : t ∈ ts
  · rw [if_pos h]
    have : [t].removeAll ts = [] := by show List.filter _ [t] = []; simp [h]
    rw [this]; simp
  · rw [if_neg h]
    have : [t].removeAll ts = [t] := by show List.filter _ [t] = [t]; simp [h]
    rw [this]; rfl
theorem ddK_put (ts : List (List Char)) (t : List Char) : putK (ddK ts) (Sum.inr (enc t)) (V.bl true) = ddK (ts ++ [t]) := by
  unfold putK
  have hany : ((ddK ts).any fun kv => decide (kv.1 = Sum.inr (enc t))) = true ↔ t ∈ ts := by
    rw [List.any_eq_true]
    constructor
    · rintro ⟨p, hp, e⟩
      obtain ⟨u, hu, rfl⟩ := List.mem_map.mp hp
      have e : (Sum.inr (enc u) : Key) = Sum.inr (enc t) := of_decide_eq_true e
      injection e with e
      rw [← enc_inj' e]; exact List.mem_eraseDups.mp hu
    · intro h
      exact ⟨_, List.mem_map.mpr ⟨t, List.mem_eraseDups.mpr h, rfl⟩, decide_eq_true rfl⟩
  by_cases h : t ∈ ts
  · rw [if_pos (hany.mpr h)]
    unfold ddK
    rw [dups_add, if_pos h, List.map_map]
    refine List.map_congr_left fun u _ => ?_
    show (if (Sum.inr (enc u) : Key) = Sum.inr (enc t) then ((Sum.inr (enc u), V.bl true) : Key × V) else (Sum.inr (enc u), V.bl true)) = (Sum.inr (enc u), V.bl true)
    exact ite_self _
  · rw [if_neg (fun z => h (hany.mp z))]
    unfold ddK
    rw [dups_add, if_neg h, List.map_append]; rfl
theorem dups_lenL : ∀ l : List (List Char), l.eraseDups.length ≤ l.length
  | [] => Nat.le_refl _
  | c :: l => by
    rw [List.eraseDups_cons, List.length_cons, List.length_cons]
    have h1 := List.length_filter_le (fun b => !b == c) l
    have h2 := dups_lenL (l.filter fun b => !b == c)
    omega
termination_by l => l.length
decreasing_by
  have h1 := List.length_filter_le (fun b => !b == c) l
  simp only [List.length_cons]
  omega
theorem texts_app : ∀ {a : List D} {y : D} {b : List D} {ts : List (List Char)}, texts (a ++ y :: b) = some ts → ∃ u, y = .str u
  | [], y, b, ts, h => by
    cases y <;> first | (cases h; done) | exact ⟨_, rfl⟩
  | x :: a, y, b, ts, h => by
    cases x <;> first | (cases h; done) | skip
    obtain ⟨us, hu, _⟩ := Option.map_eq_some_iff.mp (show (texts (a ++ y :: b)).map _ = some ts from h)
    exact texts_app hu
theorem texts_str : ∀ ts : List (List Char), texts (ts.map D.str) = some ts
  | [] => rfl
  | t :: ts => by show (texts (ts.map D.str)).map (t :: ·) = _; rw [texts_str ts]; rfl
section
variable {fa : Sl → Mem → Res Val}
theorem liftJd {K : Fr} {own o : List Nat} {t : Tg} {sep : List Char} {fI : Sl → Mem → Res (List D)} {fifs : Sl → Mem → Res Bool} {σ : L2.St} {H : Hp} {Q : VK} (ho : ∀ i ∈ o, i ∈ own) (h : LE false K (evJd sep own t fI fifs fa) σ H Q) :
    tM1 rJoinD (tC (.str (enc sep))) (tDc (LI K fI) (LG K t o) (LT K fifs) (LE false K fa) (tC (.bl true)) own) σ H Q := by
  obtain ⟨δ, M, F, μ, x, M', S, R, e0, k⟩ := h
  obtain ⟨xs, M1, e1, e0⟩ := bind_ok e0
  obtain ⟨rs, M2', e2, e0⟩ := bind_ok e0
  obtain ⟨d, hd, rfl, rfl⟩ := res_map e0
  refine ⟨⟨_, rfl⟩, ⟨δ, M, F, μ, xs, M1, S, R, e1, fun F1 μ1 H1 J st1 S1 its D hD => ?_⟩⟩
  have R1 := R.mono st1.fr st1.whole
  have hfew : xs.length ≤ 16777216 := its.few
  have F1D : F1 D = none := by
    cases q : F1 D with
    | none => rfl
    | some u => rw [S1.sub D u q] at hD; cases hD
  obtain ⟨all, hall, hjoin⟩ : ∃ all, texts rs = some all ∧ (if lens all.eraseDups + all.eraseDups.length * sep.length ≤ big then some (DL.D.str (glue sep all.eraseDups)) else none) = some d := by
    unfold joinKeys at hd
    cases ht : texts rs with
    | none => rw [ht] at hd; cases hd
    | some all => rw [ht] at hd; exact ⟨all, rfl, hd⟩
  refine ⟨fun i m Hi => m = xs.length - i ∧ i ≤ xs.length ∧ ∃ Fi μi Mi ts zs, StepE F1 μ1 H1 Fi μi Hi ∧ Sim K Fi μi Mi Hi ∧ Hi D = some (.dK (ddK ts)) ∧ Fi D = none ∧ D ∉ μi ∧ ts.length ≤ i ∧ rs = ts.map DL.D.str ++ zs ∧ compLoop (evBlk own t fifs fa δ) (xs.drop i) Mi = .ok zs M', ⟨xs.length, rfl, Nat.zero_le _, F1, μ1, M1, [], rs, (Step.refl _ _ _ _).updNew hD _, S1.updNew F1D (fun z => S1.tracked z hD) _, upd_same, F1D, fun z => S1.tracked z hD, Nat.le_refl _, rfl, e2⟩, ?_⟩
  rintro i m Hi ⟨rfl, hi, Fi, μi, Mi, ts, zs, st, Si, hacc, FD, mD, hyl, hrs, hrun⟩
  by_cases hlt : i < xs.length
  · refine .inr ⟨its.goes i Hi hlt (st.fr.trans Si.sub), fun H' => ∃ Fi μi Mi ts zs, StepE F1 μ1 H1 Fi μi H' ∧ Sim K Fi μi Mi H' ∧ H' D = some (.dK (ddK ts)) ∧ Fi D = none ∧ D ∉ μi ∧ ts.length ≤ i + 1 ∧ rs = ts.map DL.D.str ++ zs ∧ compLoop (evBlk own t fifs fa δ) (xs.drop (i + 1)) Mi = .ok zs M', fun H' p' => ⟨xs.length - (i + 1), by omega, rfl, hlt, p'⟩, fun v H2 hy => ?_⟩
    have hx : xs[i]? = some xs[i] := List.getElem?_eq_getElem hlt
    rw [List.drop_eq_getElem_cons hlt] at hrun
    unfold compLoop at hrun
    obtain ⟨oy, M3, e3, hrun⟩ := bind_ok hrun
    obtain ⟨zs', M4, e4, hrun⟩ := bind_ok hrun
    obtain ⟨F2, nf, rx⟩ := its.yields i Hi v H2 xs[i] Fi hx st.fr Si.sub hy
    have st2 : StepE Fi μi Hi F2 μi H2 := nf.step
    have S2 := nf.sim Si
    obtain ⟨hacc2, FD2, mD2⟩ := st2.apart hacc FD mD
    unfold evBlk at e3
    cases hb : bindTg t xs[i] (wipeS δ own) with
    | none => simp only [hb] at e3; cases e3
    | some δ' =>
      simp only [hb] at e3
      obtain ⟨b, M5, e5, e3⟩ := bind_ok e3
      have Rw : RepS K F2 μi (wipeS δ own) (wipe σ own) := ((R1.mono st.fr st.whole).mono st2.fr st2.whole).wipe own
      refine ⟨wipeS δ own, F2, μi, xs[i], δ', Rw, rx, S2.sub, hb, fun σ2 R2 l2 s2 => ⟨wipe_same (by rw [l2, wipe_length]) fun j hj => s2 j fun z => hj (ho j z), ?_⟩⟩
      refine ⟨δ', Mi, F2, μi, b, M5, S2, R2, e5, fun F5 μ5 H5 st5 S5 => ?_⟩
      obtain ⟨hacc5, FD5, mD5⟩ := st5.apart hacc2 FD2 mD2
      have stt := (Step.transE st (Step.transE st2 st5))
      cases b with
      | false =>
        rw [if_neg Bool.false_ne_true] at e3 ⊢
        cases e3
        cases hrun
        exact ⟨F5, μ5, _, ts, zs, stt, S5, hacc5, FD5, mD5, by omega, hrs, e4⟩
      | true =>
        rw [if_pos rfl] at e3 ⊢
        obtain ⟨w, M6, e6, e3⟩ := bind_ok e3
        cases w with
        | ref n => cases e3
        | d y =>
          cases e3
          cases hrun
          obtain ⟨u, rfl⟩ := texts_app (by rw [← hrs]; exact hall)
          refine ⟨δ', M5, F5, μ5, .d (.str u), _, S5, R2.mono st5.fr st5.whole, e6, fun F6 μ6 H6 w st6 S6 r6 => ?_⟩
          obtain ⟨hacc6, FD6, mD6⟩ := st6.apart hacc5 FD5 mD5
          have r6' : Rep K F6 (.str u) w := r6
          cases r6'
          have hle := dups_lenL ts
          refine ⟨ddK ts, Sum.inr (enc u), rfl, hacc6, by unfold ddK; rw [List.length_map, sizeLine_eq]; omega, F6, μ6, _, ts ++ [u], zs', (stt.transE st6).updNew hD _, S6.updNew FD6 mD6 _, by rw [upd_same, ddK_put], FD6, mD6, by rw [List.length_append, List.length_singleton]; omega, by rw [hrs, List.map_append, List.append_assoc]; rfl, e4⟩
  · have e : i = xs.length := by omega
    subst e
    refine .inl ⟨its.stops Hi (st.fr.trans Si.sub), ?_⟩
    rw [List.drop_length] at hrun
    cases hrun
    rw [List.append_nil] at hrs
    subst hrs
    rw [texts_str] at hall
    obtain rfl : ts = all := Option.some.inj hall
    by_cases hz : lens ts.eraseDups + ts.eraseDups.length * sep.length ≤ big
    case neg => rw [if_neg hz] at hjoin; cases hjoin
    rw [if_pos hz] at hjoin
    cases hjoin
    refine ⟨enc sep, D, ddK ts, ts.eraseDups.map enc, rfl, rfl, hacc, ddK_keys ts, ?_, ?_⟩
    · rw [lens_eq, List.length_map, enc_length]; exact hz
    · rw [TL.join_eq, join_enc]
      exact k Fi μi Hi _ (st1.transE st) Si (Rep.str _ (Nat.le_trans (glue_len _ _) hz))
end
end DL
end P_DLk
section P_DLd
set_option Elab.async false
set_option linter.all false
set_option maxRecDepth 100000
set_option maxHeartbeats 1000000
/-! min, max with a default; sep.join of a dict that is made on the spot, printed. -/
namespace DL
open PySem PySem.Spec PyProof.Rows L2 PySem.SeqAt
open PySem.W (AlikeAll min_list_default max_list_default)
def dfltD (b : Bi) : List D → List D → Option D
  | [.lst []], [.non] => some .non
  | [.lst []], [.int i] => some (.int i)
  | [.lst (x :: l)], [.non] => biD b [.lst (x :: l)]
  | [.lst (x :: l)], [.int _] => biD b [.lst (x :: l)]
  | _, _ => none
def evBK (p : List D → List D → Option D) (fl fk : Sl → Mem → Res (List Val)) : Sl → Mem → Res Val := fun s M => (fl s M).bind fun vs M1 => (fk s M1).bind fun ws M2 => match views M2 vs, views M2 ws with
  | some xs, some ys => Res.of ((p xs ys).map .d) M2
  | _, _ => .bad
def rKD (K : Fr) (p : List D → List D → Option D) : List V → List V → Hp → VK → Prop := fun vs zs H Q => ∃ F xs ys d, Sub F H ∧ RepTs K F H xs vs ∧ RepTs K F H ys zs ∧ p xs ys = some d ∧ PostD false K F H d Q
section
variable {X : Cx} {fl fk : Sl → Mem → Res (List Val)}
theorem liftBK {K : Fr} {p : List D → List D → Option D} {σ : L2.St} {H : Hp} {Q : VK} (h : LE false K (evBK p fl fk) σ H Q) : tCKw (rKD K p) (LA K fl) (LA K fk) σ H Q := by
  obtain ⟨δ, M, F, μ, x, M', S, R, e0, k⟩ := h
  obtain ⟨vs, M1, e1, e0⟩ := bind_ok e0
  obtain ⟨ws, M2, e2, e0⟩ := bind_ok e0
  refine ⟨δ, M, F, μ, vs, M1, S, R, e1, fun F1 μ1 H1 v1 st1 S1 r1 => ⟨δ, M1, F1, μ1, ws, M2, S1, R.mono st1.fr st1.whole, e2, fun F2 μ2 H2 v2 st2 S2 r2 => ?_⟩⟩
  cases hx : views M2 vs with
  | none => rw [hx] at e0; cases e0
  | some dx =>
    cases hy : views M2 ws with
    | none => rw [hx, hy] at e0; cases e0
    | some dy =>
      rw [hx, hy] at e0
      obtain ⟨d, hd, rfl, rfl⟩ := res_map e0
      exact ⟨F2, dx, dy, d, S2.sub, S2.views (RepVs.mono st2.fr st2.whole r1) hx, S2.views r2 hy, hd, PostD.of S2 (fun a h => st1.up a (st2.up a h)) fun F' H' u n S' q => k F' μ2 H' u (st1.transE (st2.transE n.step)) S' q⟩
theorem toPys_cons {l : List D} {y : PyData} {ys : List PyData} (h : toPys l = y :: ys) : ∃ x r, l = x :: r ∧ y = toPy x ∧ ys = toPys r := by
  cases l with
  | nil => cases h
  | cons x r =>
    have h : toPy x :: toPys r = y :: ys := h
    injection h with h1 h2
    exact ⟨x, r, rfl, h1.symm, h2.symm⟩
theorem alike_nil : AlikeAll [] := ⟨fun x h => (by cases h), fun x h => (by cases h)⟩
theorem bk_min {k : Nat} (hc : X.calm = true) (hr : Room k X.A) : CallRK X (.builtin "min") ["default"] (rKD X.K (dfltD .min)) := by
  intro pins s σ H xs zs us ws Q I r rz ⟨F, dx, dy, d, sb, tx, ty, e, q⟩
  have hb : ∀ x y b, ltFlat y x = some b → like2 x y = true := fun x y b h => like2_symm (ltFlat_like h)
  have go0 : ∀ {y : D}, dx = [.lst []] → dy = [y] → d = y → (∀ v, RepT X.K F H y v → Rep X.K F y v) → wpAny (model X.prog X.w) X.A (call (.builtin "min") us ((["default"] : List Str).zip ws)) (EP X pins σ Q) X.xe s := by
    rintro y rfl rfl rfl hy
    obtain ⟨v, rfl, rx⟩ := repTs_1 tx
    obtain ⟨z, rfl, ry⟩ := repTs_1 ty
    obtain ⟨a, as, rfl, ha, ra, la⟩ := repT_lst sb rx
    rw [Vals.ref1 r]
    obtain ⟨w, rfl, rw'⟩ := rz.one
    obtain ⟨its, rv, pl, hz⟩ := I.list (SqL.of ha)
    obtain ⟨bs, rd⟩ := readsL I sb ra rv rfl
    refine min_list_default (xs := toPys []) (I.ok.hd hc) pl.isList (by rw [List.toList_toArray]; exact rd) alike_nil (by have := hr.un; show X.A.units + 1 + 0 < cLine; omega) (fun _ h' tk hk => ?_) (fun y ys i v h' tk bs e => by cases e)
    exact ⟨z, H, I.kept hk, rw', postSame sb q (hy z ry)⟩
  have go1 : ∀ {x y : D} {l : List D}, dx = [.lst (x :: l)] → dy = [y] → biD .min [.lst (x :: l)] = some d → wpAny (model X.prog X.w) X.A (call (.builtin "min") us ((["default"] : List Str).zip ws)) (EP X pins σ Q) X.xe s := by
    rintro x y l rfl rfl e
    obtain ⟨v, rfl, rx⟩ := repTs_1 tx
    obtain ⟨z, rfl, ry⟩ := repTs_1 ty
    obtain ⟨a, as, rfl, ha, ra, la⟩ := repT_lst sb rx
    rw [Vals.ref1 r]
    obtain ⟨w, rfl, rw'⟩ := rz.one
    obtain ⟨its, rv, pl, hz⟩ := I.list (SqL.of ha)
    obtain ⟨f0, f1, f2, f3, f4⟩ := best_facts (bt := ltFlat) hb e
    obtain ⟨bs, rd⟩ := readsL I sb ra rv f3
    refine min_list_default (xs := toPys (x :: l)) (I.ok.hd hc) pl.isList (by rw [List.toList_toArray]; exact rd) f1 (by have := hr.un; show X.A.units + 1 + PyData.depthAll (toPys (x :: l)) < cLine; rw [f2]; omega) (fun e => by cases e) (fun y ys i u h' tk cs e hu hrd hk => ?_)
    obtain ⟨x', r', e1, rfl, rfl⟩ := toPys_cons e
    cases e1
    rw [best_min f0] at hrd
    exact pick_item I sb ra rv (by simpa using hu) hrd f4 f3 hk q
  match dx, dy, e, tx, ty with
  | [.lst []], [.non], e, tx, ty => exact go0 rfl rfl (Option.some.inj e).symm fun v t => by cases repT_non t; exact .non
  | [.lst []], [.int i], e, tx, ty => exact go0 rfl rfl (Option.some.inj e).symm fun v t => by cases repT_int t; exact .int i
  | [.lst (x :: l)], [.non], e, tx, ty => exact go1 rfl rfl e
  | [.lst (x :: l)], [.int i], e, tx, ty => exact go1 rfl rfl e
theorem bk_max {k : Nat} (hc : X.calm = true) (hr : Room k X.A) : CallRK X (.builtin "max") ["default"] (rKD X.K (dfltD .max)) := by
  intro pins s σ H xs zs us ws Q I r rz ⟨F, dx, dy, d, sb, tx, ty, e, q⟩
  have hb : ∀ x y b, (fun a b => ltFlat b a) y x = some b → like2 x y = true := fun x y b h => ltFlat_like h
  have go0 : ∀ {y : D}, dx = [.lst []] → dy = [y] → d = y → (∀ v, RepT X.K F H y v → Rep X.K F y v) → wpAny (model X.prog X.w) X.A (call (.builtin "max") us ((["default"] : List Str).zip ws)) (EP X pins σ Q) X.xe s := by
    rintro y rfl rfl rfl hy
    obtain ⟨v, rfl, rx⟩ := repTs_1 tx
    obtain ⟨z, rfl, ry⟩ := repTs_1 ty
    obtain ⟨a, as, rfl, ha, ra, la⟩ := repT_lst sb rx
    rw [Vals.ref1 r]
    obtain ⟨w, rfl, rw'⟩ := rz.one
    obtain ⟨its, rv, pl, hz⟩ := I.list (SqL.of ha)
    obtain ⟨bs, rd⟩ := readsL I sb ra rv rfl
    refine max_list_default (xs := toPys []) (I.ok.hd hc) pl.isList (by rw [List.toList_toArray]; exact rd) alike_nil (by have := hr.un; show X.A.units + 1 + 0 < cLine; omega) (fun _ h' tk hk => ?_) (fun y ys i v h' tk bs e => by cases e)
    exact ⟨z, H, I.kept hk, rw', postSame sb q (hy z ry)⟩
  have go1 : ∀ {x y : D} {l : List D}, dx = [.lst (x :: l)] → dy = [y] → biD .max [.lst (x :: l)] = some d → wpAny (model X.prog X.w) X.A (call (.builtin "max") us ((["default"] : List Str).zip ws)) (EP X pins σ Q) X.xe s := by
    rintro x y l rfl rfl e
    obtain ⟨v, rfl, rx⟩ := repTs_1 tx
    obtain ⟨z, rfl, ry⟩ := repTs_1 ty
    obtain ⟨a, as, rfl, ha, ra, la⟩ := repT_lst sb rx
    rw [Vals.ref1 r]
    obtain ⟨w, rfl, rw'⟩ := rz.one
    obtain ⟨its, rv, pl, hz⟩ := I.list (SqL.of ha)
    obtain ⟨f0, f1, f2, f3, f4⟩ := best_facts (bt := fun a b => ltFlat b a) hb e
    obtain ⟨bs, rd⟩ := readsL I sb ra rv f3
    refine max_list_default (xs := toPys (x :: l)) (I.ok.hd hc) pl.isList (by rw [List.toList_toArray]; exact rd) f1 (by have := hr.un; show X.A.units + 1 + PyData.depthAll (toPys (x :: l)) < cLine; rw [f2]; omega) (fun e => by cases e) (fun y ys i u h' tk cs e hu hrd hk => ?_)
    obtain ⟨x', r', e1, rfl, rfl⟩ := toPys_cons e
    cases e1
    rw [best_max f0] at hrd
    exact pick_item I sb ra rv (by simpa using hu) hrd f4 f3 hk q
  match dx, dy, e, tx, ty with
  | [.lst []], [.non], e, tx, ty => exact go0 rfl rfl (Option.some.inj e).symm fun v t => by cases repT_non t; exact .non
  | [.lst []], [.int i], e, tx, ty => exact go0 rfl rfl (Option.some.inj e).symm fun v t => by cases repT_int t; exact .int i
  | [.lst (x :: l)], [.non], e, tx, ty => exact go1 rfl rfl e
  | [.lst (x :: l)], [.int i], e, tx, ty => exact go1 rfl rfl e
end
section
variable {X : Cx} {fa fk : Sl → Mem → Res Val} {fl fkl : Sl → Mem → Res (List Val)} {e kx tg iter : Expr} {es : List Expr} {kws : List Keyword} {pos : Pos}
theorem p_dflt_min {k : Nat} {p : Pos} (hr : Room k X.A) (hm : X.mg "min" = none) (ha : PA X (e :: es) (LA X.K fl)) (hk : PK X kws (LA X.K fkl)) (hg : Gl X "min" := by rfl) (hc : X.calm = true := by rfl)
    (he : backTo pos (starEach (e :: es) X.env) = (false, eval e X.env) :: backTo pos (starEach es X.env) := by rfl) (hpl : (backTo pos (starEach (e :: es) X.env)).any (·.1) = false := by rfl)
    (hall : (backToKw pos (keywordEach kws X.env)).all (·.1.isSome) = true := by rfl) (hnone : (backToKw pos (keywordEach kws X.env)).any (·.1.isNone) = false := by rfl) (hks : (backToKw pos (keywordEach kws X.env)).filterMap (·.1) = [(("default" : Str))] := by rfl) :
    PE X (.Call (.Name "min" p) (e :: es) kws pos) (LE false X.K (evBK (dfltD .min) fl fkl)) :=
  (pe_callBK (bk_min hc hr) hg hm PyProof.Rows.boot_min ha hk (by decide) (by decide) he hpl hall hnone hks).imp fun _ _ _ h => liftBK h
theorem p_dflt_max {k : Nat} {p : Pos} (hr : Room k X.A) (hm : X.mg "max" = none) (ha : PA X (e :: es) (LA X.K fl)) (hk : PK X kws (LA X.K fkl)) (hg : Gl X "max" := by rfl) (hc : X.calm = true := by rfl)
    (he : backTo pos (starEach (e :: es) X.env) = (false, eval e X.env) :: backTo pos (starEach es X.env) := by rfl) (hpl : (backTo pos (starEach (e :: es) X.env)).any (·.1) = false := by rfl)
    (hall : (backToKw pos (keywordEach kws X.env)).all (·.1.isSome) = true := by rfl) (hnone : (backToKw pos (keywordEach kws X.env)).any (·.1.isNone) = false := by rfl) (hks : (backToKw pos (keywordEach kws X.env)).filterMap (·.1) = [(("default" : Str))] := by rfl) :
    PE X (.Call (.Name "max" p) (e :: es) kws pos) (LE false X.K (evBK (dfltD .max) fl fkl)) :=
  (pe_callBK (bk_max hc hr) hg hm PyProof.Rows.boot_max ha hk (by decide) (by decide) he hpl hall hnone hks).imp fun _ _ _ h => liftBK h
theorem p_jd {scope : Scope} {own : List (Str × Nat)} {ifs : List Expr} {o : List Nat} {t : Tg} {sx : Str} {sep : List Char} {k k2 : Nat} {cpos p2 apos dpos : Pos} {fI : Sl → Mem → Res (List D)} {fifs : Sl → Mem → Res Bool} (ho : ∀ i ∈ o, i ∈ own.map (·.2)) (hN : X.N.Nodup) (hi : PI X tg iter (LI X.K fI)) (ok : BlkOk X.N X.env.scope scope own)
    (hg : ∀ (s : Shared) (H : Hp) (C : Addr) (cl : List (Str × Addr)) (fp : List Addr), PG (X.blk s H scope (compEnvC scope cl C X.env) fp) tg (LG X.K t o)) (ht : ∀ (s : Shared) (H : Hp) (C : Addr) (cl : List (Str × Addr)) (fp : List Addr), PTs (X.blk s H scope (compEnvC scope cl C X.env) fp) ifs (LT X.K fifs))
    (hk : ∀ (s : Shared) (H : Hp) (C : Addr) (cl : List (Str × Addr)) (fp : List Addr), PE (X.blk s H scope (compEnvC scope cl C X.env) fp) kx (LE false X.K fk)) (hc : X.calm = true := by rfl) (hs : ∀ x, foldedSetIterable iter X.env x = pure x := by intro _; rfl)
    (hsep : sx = enc sep := by decide +kernel) (hbase : attributeBase (.Constant (.str sx) k cpos) "join" X.env (eval (.Constant (.str sx) k cpos) X.env) = eval (.Constant (.str sx) k cpos) X.env := by rfl) (hline : (apos.endLine == pos.line) = true := by rfl) :
    PE X (.Call (.Attribute (.Constant (.str sx) k cpos) "join" apos) [.DictComp kx (.Constant (.bool true) k2 p2) [⟨tg, iter, ifs, 0⟩] scope dpos] [] pos) (LE false X.K (evJd sep (own.map (·.2)) t fI fifs fk)) := by
  subst hsep
  exact (pe_m1 PySem.F.slot_str_join PySem.F.type_str_join (mt_joinD hc) pe_str (pe_dc hc hN hi ok hg ht hk (fun _ _ _ _ _ => pe_bl) hs) rfl hbase hline).imp fun _ _ _ h => liftJd ho h
end
end DL
end P_DLd
section P_DLsd
set_option Elab.async false
set_option linter.all false
set_option maxRecDepth 100000
set_option maxHeartbeats 1000000
/-! sorted({key: True for target in iter ..}) where no two texts are unlike; the empty dict. -/
namespace DL
open PySem PySem.Spec PyProof.Rows L2
def soleD (ys : List D) : Option D := match texts ys with
  | some ts => if ts.eraseDups.length ≤ 1 then some (.lst (ts.eraseDups.map D.str)) else none
  | none => none
def evSd (own : List Nat) (t : Tg) (fI : Sl → Mem → Res (List D)) (fifs : Sl → Mem → Res Bool) (fk : Sl → Mem → Res Val) : Sl → Mem → Res Val := fun s M =>
  (fI s M).bind fun xs M1 => (compLoop (evBlk own t fifs fk s) xs M1).bind fun ys M2 => Res.of ((soleD ys).map .d) M2
def rSd : List V → Hp → VK → Prop := fun xs H Q => ∃ (a : Addr) (kvs : List (Key × V)) (ks : List Str), xs = [.ref a] ∧ Rd H a (.dK kvs) ∧ kvs.map (·.1) = ks.map Sum.inr ∧ ks.length < 64 ∧
    ∀ ys p, ys.Perm ks → sortedS ys = true → H p = none → Q (.ref p) (upd H p (.lst (ys.map V.str)))
theorem perm_one {α : Type} : ∀ {a b : List α}, a.Perm b → b.length ≤ 1 → a = b
  | a, [], h, _ => List.Perm.eq_nil h
  | a, [x], h, _ => List.perm_singleton.mp h
  | _, _ :: _ :: _, _, h => by simp at h
theorem reps_strs {K : Fr} {F : Hp} : ∀ {l : List (List Char)}, (∀ u ∈ l, u.length ≤ big) → Reps K F (l.map D.str) ((l.map enc).map V.str)
  | [], _ => .nil
  | u :: l, h => .cons (.str u (h u (List.mem_cons_self ..))) (reps_strs fun x hx => h x (List.mem_cons_of_mem _ hx))
section
variable {fa : Sl → Mem → Res Val}
theorem liftSd {K : Fr} {own o : List Nat} {t : Tg} {fI : Sl → Mem → Res (List D)} {fifs : Sl → Mem → Res Bool} {σ : L2.St} {H : Hp} {Q : VK} (ho : ∀ i ∈ o, i ∈ own) (h : LE false K (evSd own t fI fifs fa) σ H Q) :
    tCB rSd (tCons (tDc (LI K fI) (LG K t o) (LT K fifs) (LE false K fa) (tC (.bl true)) own) tNil) σ H Q := by
  obtain ⟨δ, M, F, μ, x, M', S, R, e0, k⟩ := h
  obtain ⟨xs, M1, e1, e0⟩ := bind_ok e0
  obtain ⟨rs, M2', e2, e0⟩ := bind_ok e0
  obtain ⟨d, hd, rfl, rfl⟩ := res_map e0
  refine ⟨δ, M, F, μ, xs, M1, S, R, e1, fun F1 μ1 H1 J st1 S1 its D hD => ?_⟩
  have R1 := R.mono st1.fr st1.whole
  have hfew : xs.length ≤ 16777216 := its.few
  have F1D : F1 D = none := by
    cases q : F1 D with
    | none => rfl
    | some u => rw [S1.sub D u q] at hD; cases hD
  obtain ⟨all, hall, hjoin⟩ : ∃ all, texts rs = some all ∧ (if all.eraseDups.length ≤ 1 then some (DL.D.lst (all.eraseDups.map DL.D.str)) else none) = some d := by
    unfold soleD at hd
    cases ht : texts rs with
    | none => rw [ht] at hd; cases hd
    | some all => rw [ht] at hd; exact ⟨all, rfl, hd⟩
  refine ⟨fun i m Hi => m = xs.length - i ∧ i ≤ xs.length ∧ ∃ Fi μi Mi ts zs, StepE F1 μ1 H1 Fi μi Hi ∧ Sim K Fi μi Mi Hi ∧ Hi D = some (.dK (ddK ts)) ∧ Fi D = none ∧ D ∉ μi ∧ ts.length ≤ i ∧ (∀ u ∈ ts, u.length ≤ big) ∧ rs = ts.map DL.D.str ++ zs ∧ compLoop (evBlk own t fifs fa δ) (xs.drop i) Mi = .ok zs M', ⟨xs.length, rfl, Nat.zero_le _, F1, μ1, M1, [], rs, (Step.refl _ _ _ _).updNew hD _, S1.updNew F1D (fun z => S1.tracked z hD) _, upd_same, F1D, fun z => S1.tracked z hD, Nat.le_refl _, (fun _ z => nomatch z), rfl, e2⟩, ?_⟩
  rintro i m Hi ⟨rfl, hi, Fi, μi, Mi, ts, zs, st, Si, hacc, FD, mD, hyl, hbl, hrs, hrun⟩
  by_cases hlt : i < xs.length
  · refine .inr ⟨its.goes i Hi hlt (st.fr.trans Si.sub), fun H' => ∃ Fi μi Mi ts zs, StepE F1 μ1 H1 Fi μi H' ∧ Sim K Fi μi Mi H' ∧ H' D = some (.dK (ddK ts)) ∧ Fi D = none ∧ D ∉ μi ∧ ts.length ≤ i + 1 ∧ (∀ u ∈ ts, u.length ≤ big) ∧ rs = ts.map DL.D.str ++ zs ∧ compLoop (evBlk own t fifs fa δ) (xs.drop (i + 1)) Mi = .ok zs M', fun H' p' => ⟨xs.length - (i + 1), by omega, rfl, hlt, p'⟩, fun v H2 hy => ?_⟩
    have hx : xs[i]? = some xs[i] := List.getElem?_eq_getElem hlt
    rw [List.drop_eq_getElem_cons hlt] at hrun
    unfold compLoop at hrun
    obtain ⟨oy, M3, e3, hrun⟩ := bind_ok hrun
    obtain ⟨zs', M4, e4, hrun⟩ := bind_ok hrun
    obtain ⟨F2, nf, rx⟩ := its.yields i Hi v H2 xs[i] Fi hx st.fr Si.sub hy
    have st2 : StepE Fi μi Hi F2 μi H2 := nf.step
    have S2 := nf.sim Si
    obtain ⟨hacc2, FD2, mD2⟩ := st2.apart hacc FD mD
    unfold evBlk at e3
    cases hb : bindTg t xs[i] (wipeS δ own) with
    | none => simp only [hb] at e3; cases e3
    | some δ' =>
      simp only [hb] at e3
      obtain ⟨b, M5, e5, e3⟩ := bind_ok e3
      have Rw : RepS K F2 μi (wipeS δ own) (wipe σ own) := ((R1.mono st.fr st.whole).mono st2.fr st2.whole).wipe own
      refine ⟨wipeS δ own, F2, μi, xs[i], δ', Rw, rx, S2.sub, hb, fun σ2 R2 l2 s2 => ⟨wipe_same (by rw [l2, wipe_length]) fun j hj => s2 j fun z => hj (ho j z), ?_⟩⟩
      refine ⟨δ', Mi, F2, μi, b, M5, S2, R2, e5, fun F5 μ5 H5 st5 S5 => ?_⟩
      obtain ⟨hacc5, FD5, mD5⟩ := st5.apart hacc2 FD2 mD2
      have stt := (Step.transE st (Step.transE st2 st5))
      cases b with
      | false =>
        rw [if_neg Bool.false_ne_true] at e3 ⊢
        cases e3
        cases hrun
        exact ⟨F5, μ5, _, ts, zs, stt, S5, hacc5, FD5, mD5, by omega, hbl, hrs, e4⟩
      | true =>
        rw [if_pos rfl] at e3 ⊢
        obtain ⟨w, M6, e6, e3⟩ := bind_ok e3
        cases w with
        | ref n => cases e3
        | d y =>
          cases e3
          cases hrun
          obtain ⟨u, rfl⟩ := texts_app (by rw [← hrs]; exact hall)
          refine ⟨δ', M5, F5, μ5, .d (.str u), _, S5, R2.mono st5.fr st5.whole, e6, fun F6 μ6 H6 w st6 S6 r6 => ?_⟩
          obtain ⟨hacc6, FD6, mD6⟩ := st6.apart hacc5 FD5 mD5
          have r6' : Rep K F6 (.str u) w := r6
          have hu6 : u.length ≤ big := by cases r6'; assumption
          cases r6'
          have hle := dups_lenL ts
          refine ⟨ddK ts, Sum.inr (enc u), rfl, hacc6, by unfold ddK; rw [List.length_map, sizeLine_eq]; omega, F6, μ6, _, ts ++ [u], zs', (stt.transE st6).updNew hD _, S6.updNew FD6 mD6 _, by rw [upd_same, ddK_put], FD6, mD6, by rw [List.length_append, List.length_singleton]; omega, (fun x hx => by
            rcases List.mem_append.mp hx with h | h
            · exact hbl x h
            · rw [List.mem_singleton.mp h]; exact hu6), by rw [hrs, List.map_append, List.append_assoc]; rfl, e4⟩
  · have e : i = xs.length := by omega
    subst e
    refine .inl ⟨its.stops Hi (st.fr.trans Si.sub), ?_⟩
    rw [List.drop_length] at hrun
    cases hrun
    rw [List.append_nil] at hrs
    subst hrs
    rw [texts_str] at hall
    obtain rfl : ts = all := Option.some.inj hall
    by_cases hz : ts.eraseDups.length ≤ 1
    case neg => rw [if_neg hz] at hjoin; cases hjoin
    rw [if_pos hz] at hjoin
    cases hjoin
    refine ⟨D, ddK ts, ts.eraseDups.map enc, rfl, .inl hacc, ddK_keys ts, by rw [List.length_map]; omega, fun ys p hp hs hq => ?_⟩
    have ey : ys = ts.eraseDups.map enc := perm_one hp (by rw [List.length_map]; exact hz)
    subst ey
    have n := NewF.alloc Si.sub hq (.lst ((ts.eraseDups.map enc).map V.str))
    refine k _ μi _ _ ((st1.transE st).transE n.step) (n.sim Si) ?_
    refine Rep.lst (vs := (ts.eraseDups.map enc).map V.str) (by rw [List.length_map]; exact Nat.le_trans hz (by decide)) upd_same ?_
    exact reps_strs fun u hu => hbl u (List.mem_eraseDups.mp hu)
end
section
variable {X : Cx} {kx tg iter : Expr} {fk : Sl → Mem → Res Val} {pos : Pos}
theorem p_sd {scope : Scope} {own : List (Str × Nat)} {ifs : List Expr} {o : List Nat} {t : Tg} {k2 : Nat} {p p2 dpos : Pos} {fI : Sl → Mem → Res (List D)} {fifs : Sl → Mem → Res Bool} (hm : X.mg "sorted" = none) (ho : ∀ i ∈ o, i ∈ own.map (·.2)) (hN : X.N.Nodup) (hi : PI X tg iter (LI X.K fI)) (ok : BlkOk X.N X.env.scope scope own)
    (hg : ∀ (s : Shared) (H : Hp) (C : Addr) (cl : List (Str × Addr)) (fp : List Addr), PG (X.blk s H scope (compEnvC scope cl C X.env) fp) tg (LG X.K t o)) (ht : ∀ (s : Shared) (H : Hp) (C : Addr) (cl : List (Str × Addr)) (fp : List Addr), PTs (X.blk s H scope (compEnvC scope cl C X.env) fp) ifs (LT X.K fifs))
    (hk : ∀ (s : Shared) (H : Hp) (C : Addr) (cl : List (Str × Addr)) (fp : List Addr), PE (X.blk s H scope (compEnvC scope cl C X.env) fp) kx (LE false X.K fk)) (hc : X.calm = true := by rfl) (hs : ∀ x, foldedSetIterable iter X.env x = pure x := by intro _; rfl) (hgl : Gl X "sorted" := by rfl) :
    PE X (.Call (.Name "sorted" p) [.DictComp kx (.Constant (.bool true) k2 p2) [⟨tg, iter, ifs, 0⟩] scope dpos] [] pos) (LE false X.K (evSd (own.map (·.2)) t fI fifs fk)) := by
  have q : PE X (.Call (.Name "sorted" p) [.DictComp kx (.Constant (.bool true) k2 p2) [⟨tg, iter, ifs, 0⟩] scope dpos] [] pos) (tCB rSd (tCons (tDc (LI X.K fI) (LG X.K t o) (LT X.K fifs) (LE false X.K fk) (tC (.bl true)) (own.map (·.2))) tNil)) :=
    pe_callB (call_sortedD hc) hgl hm PyProof.Rows.boot_sorted (pa_cons (pe_dc hc hN hi ok hg ht hk (fun _ _ _ _ _ => pe_bl) hs) pa_nil)
  exact q.imp fun _ _ _ h => liftSd ho h
/-- the empty dict -/
def evDic0 : Sl → Mem → Res Val := fun s M => .ok (.d (.dic [])) M
theorem p_dic0 : PE X (.Dict [] [] pos) (LE false X.K evDic0) := by
  refine pe_dnewK.imp fun σ H Q ⟨δ, M, F, μ, x, M', S, R, e0, kk⟩ => ?_
  cases e0
  intro p hp
  have n := NewF.alloc S.sub hp (.dK [])
  refine kk _ μ _ _ n.step (n.sim S) ?_
  exact Rep.dic [] (by simp) upd_same
end
end DL
end P_DLsd
section P_DLck
set_option Elab.async false
set_option linter.all false
set_option maxRecDepth 100000
set_option maxHeartbeats 1000000
/-! itertools.combinations of a list, as the library has it. -/
namespace CbK
open PySem PySem.Spec
open Sem (wp)
/-- the next choice: the machine's own step -/
def nextC (n : Nat) (ix : List Nat) : Option (List Nat) :=
  match (List.range ix.length).reverse.find? fun i => ix.getD i 0 != i + n - ix.length with
  | none => none
  | some i => some (ix.take i ++ (List.range (ix.length - i)).map (ix.getD i 0 + 1 + ·))
theorem mro_cb : mroOf (.type "itertools.combinations") = pure [.type "itertools.combinations", .type "object"] := by rw [mroOf_type]; kernel_rfl
theorem lookup_cb_new : typeLookup (.type "itertools.combinations") "__new__" = pure (some (.builtin "itertools.combinations.__new__")) := by rw [typeLookup_type, builtinLookup_eq_fast]; kernel_rfl
theorem slot_cb_init : Slot "itertools.combinations" "__init__" "object.__init__" :=
  .of (owner := "object") (n := "__init__") (by rw [typeLookup_type, builtinLookup_eq_fast]; kernel_rfl) (by decide +kernel) (by decide +kernel) (by decide +kernel)
    (by first | exact .inl (by decide +kernel) | exact .inr (by decide +kernel)) (by rw [isSubtype_type]; kernel_rfl)
theorem sub_cb : isSubtype (.type "itertools.combinations") (.type "itertools.combinations") = pure true := by rw [isSubtype_type]; kernel_rfl
theorem called_cb : TypeCalled "itertools.combinations" "itertools.combinations.__new__" "object.__init__" :=
  ⟨by decide +kernel, by decide +kernel, ⟨_, _, mro_cb⟩, madeBy_type mro_cb lookup_cb_new (by decide +kernel), by decide +kernel, sub_cb, slot_cb_init⟩
theorem typeCall_cb (a b : Value) : checkTypeCall "itertools.combinations" ⟨[a, b], []⟩ = pure () := by kernel_rfl
theorem newCall_cb (a b : Value) : checkBuiltinCall "itertools.combinations.__new__" ⟨[.type "itertools.combinations", a, b], []⟩ = pure () := by kernel_rfl
theorem entry_cb_new : entryFor table "itertools.combinations.__new__" = some Builtin.«itertools.combinations.__new__» := entryFor_of_tree (by kernel_rfl)
theorem slot_cb_iter : Slot "itertools.combinations" "__iter__" "itertools.combinations.__iter__" :=
  .of (owner := "itertools.combinations") (n := "__iter__") (by rw [typeLookup_type, builtinLookup_eq_fast]; kernel_rfl) (by decide +kernel) (by decide +kernel) (by decide +kernel)
    (by first | exact .inl (by decide +kernel) | exact .inr (by decide +kernel)) sub_cb
theorem slot_cb_next : Slot "itertools.combinations" "__next__" "itertools.combinations.__next__" :=
  .of (owner := "itertools.combinations") (n := "__next__") (by rw [typeLookup_type, builtinLookup_eq_fast]; kernel_rfl) (by decide +kernel) (by decide +kernel) (by decide +kernel)
    (by first | exact .inl (by decide +kernel) | exact .inr (by decide +kernel)) sub_cb
theorem entry_cb_iter : entryFor table "itertools.combinations.__iter__" = some Builtin.«dict_keyiterator.__iter__» :=
  entryFor_alias (id' := "dict_keyiterator.__iter__") (by kernel_rfl) (by first | rfl | decide +kernel | (unfold String.splitOn; simp +decide [String.splitOnAux])) (by decide +kernel) (by kernel_rfl)
theorem entry_cb_next : entryFor table "itertools.combinations.__next__" = some Builtin.«itertools.combinations.__next__» := entryFor_of_tree (by kernel_rfl)
theorem owner_cb : Manifest.owners.lookup (String.ofList ("itertools.combinations".toList.reverse).reverse) = some Manifest.sig_itertools_combinations := by kernel_rfl
theorem args_cb_iter (a : Value) : argsOk "itertools.combinations.__iter__" ⟨[a], []⟩ := by
  unfold argsOk; rw [signature?_of (id := "itertools.combinations.__iter__") (n := ['_', '_', 'r', 'e', 't', 'i', '_', '_']) (o := "itertools.combinations".toList.reverse) (by kernel_rfl) owner_cb]; kernel_rfl
theorem args_cb_next (a : Value) : argsOk "itertools.combinations.__next__" ⟨[a], []⟩ := by
  unfold argsOk; rw [signature?_of (id := "itertools.combinations.__next__") (n := ['_', '_', 't', 'x', 'e', 'n', '_', '_']) (o := "itertools.combinations".toList.reverse) (by kernel_rfl) owner_cb]; kernel_rfl
theorem sub_cb2 : isSubtype (.type "itertools.combinations") (.type ("itertools." ++ "combinations")) = pure true := by rw [isSubtype_type]; kernel_rfl
theorem noDict_cb : typeHasDict (.type "itertools.combinations") = false := by decide +kernel
theorem nolen_cb : typeLookup (.type "itertools.combinations") "__len__" = pure none := by rw [typeLookup_type, builtinLookup_eq_fast]; kernel_rfl
theorem nohint_cb : typeLookup (.type "itertools.combinations") "__length_hint__" = pure none := by rw [typeLookup_type, builtinLookup_eq_fast]; kernel_rfl
/-- the record: the pool's place, how far, the last, the numbers -/
def cbF (P : Addr) (st : Nat) (last : Value) (nums : List Nat) : Array Value := ([.ref P, rawInt st, last] ++ nums.map fun (k : Nat) => rawInt k).toArray
abbrev IsCb (h : Heap) (it P : Addr) (st : Nat) (last : Value) (nums : List Nat) : Prop :=
  h.get? it = some { cls := .type "itertools.combinations", dict := none, data := .fields (cbF P st last nums), slots := #[] }
abbrev IsPool (h : Heap) (P : Addr) (items : List Value) : Prop := h.get? P = some { cls := .type "tuple", data := .seq items.toArray }
def st0 (n r : Nat) : Nat := if r > n then 2 else 0
theorem meets_cb_new (L : Addr) (items : Array Value) (r : Nat) (t : Tok) (hn : items.size ≤ 12) (hr : r ≤ 6) :
    Meets (Builtin.«itertools.combinations.__new__» ⟨[.type "itertools.combinations", .ref L, .int r t], []⟩)
      (fun A R s => s.heap.IsList L items ∧ ∀ (h1 : Heap), (∀ b o, s.heap.get? b = some o → h1.get? b = some o) →
        R (.ok (.ret (.ref (h1.objs.size + 1)))) { s with heap := (h1.push { cls := .type "tuple", data := .seq items.toList.toArray }).push { cls := .type "itertools.combinations", data := .fields (cbF h1.objs.size (st0 items.toList.length r) .none (List.range r)) } }) :=
  .of_wp fun prog w A R s h => by
    obtain ⟨hL, h⟩ := h
    obtain ⟨hp, g, dd, tk, os⟩ := s
    have hsub := sub_cb
    have hd := noDict_cb
    obtain ⟨o, ho, hc, c, hdt⟩ := hL
    repeat (first
      | wp_step
      | simp only [List.head?_cons, Option.some_or, List.getElem?_cons_succ, List.getElem?_cons_zero, List.length_cons, List.length_nil, List.forIn_nil])
    refine wpAny_of_eq (a := true) sub_cb2 ?_
    refine wpAny_pure ?_
    refine wpAny_bind (wpAny_of_eq (a := [some (.ref L), some (.int r t)]) (by first | rfl | kernel_rfl!) ?_)
    show wpAny _ _ (Builtin.Itertools.itSsizeArg (.int r t) >>= _) _ _ _
    unfold Builtin.Itertools.itSsizeArg
    unfold asIndex
    refine wpAny_bind (wpAny_bind (wpAny_bind (m := asInt? _) (wpAny_pure (wpAny_pure ?_))))
    refine wpAny_ite_false (decide_eq_false (by simp; omega)) ?_
    refine wpAny_pure ?_
    refine wpAny_bind (wpAny_collect_seq L (.inl rfl) ho hc hdt (fun h1 hk => ?_) (by show items.size ≤ 16777216; omega))
    refine wpAny_ite_false (decide_eq_false (by omega)) ?_
    refine wpAny_ite_false (decide_eq_false (by show ¬ (decide ((r : Int) > 2 ^ 20) = true); rw [decide_eq_true_eq]; omega)) ?_
    have hl : items.toList.length ≤ 12 := by rw [Array.length_toList]; exact hn
    have k := h h1 hk
    refine wpAny_bind (wpAny_newTuple ?_ (by show _ ≤ 16777216; omega))
    refine wpAny_pure ?_
    refine wpAny_bind ?_
    unfold Builtin.Itertools.itNewRecord
    simp only [hd, Bool.not_false, if_true]
    refine wpAny_newObj_type ?_ ?_
    · refine wpAny_pure ⟨_, rfl, ?_⟩
      have z : (h1.push { cls := .type "tuple", data := .seq items.toList.toArray }).objs.size = h1.objs.size + 1 := Heap.size_push ..
      rw [z]
      have e0 : ((r : Int)).toNat = r := Int.toNat_natCast r
      refine cast ?_ k
      simp only [cbF, st0, e0]
      by_cases q : r > items.toList.length
      · rw [if_pos q, if_pos q]; rfl
      · rw [if_neg q, if_neg q]; rfl
    · show Array.size _ ≤ _
      rw [List.size_toArray, List.length_append, List.length_map, List.length_range]
      show 3 + (r : Int).toNat ≤ 16777216 + _
      rw [Int.toNat_natCast]; omega
section
variable {prog : Program} {w : World} {A : Around} {E : Value → Shared → Prop} {s : Shared}
theorem call_cb {L : Addr} {items : List Value} {r : Nat} {t : Tok} {Q : Value → Shared → Prop} (hL : s.heap.IsList L items.toArray) (hn : items.length ≤ 12) (hr : r ≤ 6)
    (h : ∀ (h1 h' : Heap), (∀ b o, s.heap.get? b = some o → h1.get? b = some o) → (∀ b o, h1.get? b = some o → h'.get? b = some o) → 
      IsPool h' h1.objs.size items → IsCb h' (h1.objs.size + 1) h1.objs.size (st0 items.length r) .none (List.range r) → Q (.ref (h1.objs.size + 1)) { s with heap := h' }) :
    wpAny (model prog w) A (call (.type "itertools.combinations") [.ref L, .int r t]) Q E s := by
  refine callType_new called_cb (by decide +kernel) (typeCall_cb _ _) (newCall_cb _ _) (fun obj => by first | exact F.args_object_init_3 obj _ _ | exact F.args_object_init_2 obj _) entry_cb_new (meets_cb_new L items.toArray r t (by rw [List.size_toArray]; exact hn) hr) ⟨hL, fun h1 hk => ?_⟩
  have el : items.toArray.toList = items := rfl
  have z1 : (h1.push { cls := .type "tuple", data := .seq items.toArray.toList.toArray }).objs.size = h1.objs.size + 1 := Heap.size_push ..
  have gP : IsCb ((h1.push { cls := .type "tuple", data := .seq items.toArray.toList.toArray }).push { cls := .type "itertools.combinations", data := .fields (cbF h1.objs.size (st0 items.toArray.toList.length r) .none (List.range r)) }) (h1.objs.size + 1) h1.objs.size (st0 items.length r) .none (List.range r) := by
    rw [← z1]; exact Heap.get?_push_size _ rfl
  refine ⟨⟨_, gP, rfl⟩, ?_⟩
  exact h h1 _ hk (fun b o q => Heap.get?_push_of_some _ (Heap.get?_push_of_some _ q)) (Heap.get?_push_of_some _ (Heap.get?_push_size _ rfl)) gP
theorem iter_cb {it P : Addr} {st : Nat} {last : Value} {nums : List Nat} {Q : Value → Shared → Prop} (hit : IsCb s.heap it P st last nums) (h : Q (.ref it) s) : wpAny (model prog w) A (pyIter (.ref it)) Q E s := by
  have hT : s.TypeIs (.ref it) "itertools.combinations" := ⟨_, hit, rfl⟩
  refine wpAny_pyIter_slot hT slot_cb_iter (wpAny_call_entry slot_cb_iter hT entry_cb_iter ?_ (args_cb_iter _))
  show wpAny _ _ (ret (.ref it)) _ _ s
  exact wpAny_pure ⟨_, rfl, "itertools.combinations", _, hT, slot_cb_next.lookup, h⟩
theorem wp_numbers {it P : Addr} {st : Nat} {last : Value} {nums : List Nat} {Q : List Nat → Shared → Prop} (hit : IsCb s.heap it P st last nums) (h : Q nums s) : wpAny (model prog w) A (Builtin.Itertools.itNumbersFrom (.ref it) 3) Q E s := by
  unfold Builtin.Itertools.itNumbersFrom
  refine wpAny_bind (wpAny_load hit ?_)
  refine wpAny_pure ?_
  have e : (((cbF P st last nums).toList.drop 3).map fun | .int n _ => n.toNat | _ => 0) = nums := by
    show ((nums.map fun (k : Nat) => rawInt k).map _) = nums
    rw [List.map_map]
    conv => rhs; rw [← List.map_id nums]
    exact List.map_congr_left fun k _ => Int.toNat_natCast k
  exact cast (congrArg (fun z => Q z s) e.symm) h
/-- the tuple of a choice -/
def tupO (items : List Value) (ix : List Nat) : Obj := { cls := .type "tuple", data := .seq (ix.map fun i => items.toArray.getD i .none).toArray }
/-- a choice is handed out -/
theorem wp_result {it P : Addr} {st : Nat} {last : Value} {nums idx : List Nat} {items : List Value} {Q : Value → Shared → Prop} (hit : IsCb s.heap it P st last nums) (hP : IsPool s.heap P items) (h6 : idx.length ≤ 6)
    (hQ : ∀ h', IsCb h' it P st (.ref s.heap.objs.size) nums → h'.get? s.heap.objs.size = some (tupO items idx) → (∀ b o, b ≠ it → s.heap.get? b = some o → h'.get? b = some o) →
      Q (.ref s.heap.objs.size) { s with heap := h' }) :
    wpAny (model prog w) A ((Builtin.Itertools.itPoolItems (.ref P) >>= fun items => newTuple (idx.map fun i => items.getD i .none)) >>= fun result => do
      let before ← field (.ref it) 2
      setField (.ref it) 2 result
      letGo [before] [result]
      ret result) (fun fin s' => ∃ v, fin = .done (.ret v) ∧ Q v s') E s := by
  have hlt := Heap.lt_size hit
  refine wpAny_bind (wpAny_bind ?_)
  unfold Builtin.Itertools.itPoolItems
  refine wpAny_bind (wpAny_seqItems hP rfl ?_)
  refine wpAny_pure ?_
  refine wpAny_newTuple ?_ (by show _ ≤ 16777216; rw [List.length_map]; omega)
  have hit2 : IsCb (s.heap.push (tupO items idx)) it P st last nums := Heap.get?_push_of_some _ hit
  refine wpAny_bind (wpAny_field hit2 rfl (x := last) rfl ?_)
  refine wpAny_bind (wpAny_setField_rec hit2 (by show 2 < Array.size _; rw [cbF, List.size_toArray]; simp) fun h3 hit3 sb => ?_)
  have e : (cbF P st last nums).setIfInBounds 2 (.ref s.heap.objs.size) = cbF P st (.ref s.heap.objs.size) nums := by
    simp [cbF]
  rw [e] at hit3
  refine wpAny_bind (wpAny_letGo ?_)
  refine wpAny_pure ⟨_, rfl, ?_⟩
  exact hQ h3 hit3 (sb.extBut _ _ (Nat.ne_of_gt hlt) (Heap.get?_push_size _ rfl)) fun b o hb q => sb.extBut _ _ hb (Heap.get?_push_of_some _ q)
theorem next_first {it P : Addr} {last : Value} {items : List Value} {ix : List Nat} {Q : Option Value → Shared → Prop} (hit : IsCb s.heap it P 0 last ix) (hP : IsPool s.heap P items) (h6 : ix.length ≤ 6) (hne : it ≠ P)
    (hQ : ∀ h', IsCb h' it P 1 (.ref s.heap.objs.size) ix → h'.get? s.heap.objs.size = some (tupO items ix) → (∀ b o, b ≠ it → s.heap.get? b = some o → h'.get? b = some o) →
      Q (some (.ref s.heap.objs.size)) { s with heap := h' }) : wpAny (model prog w) A (callSpecial? (.ref it) "__next__") Q E s := by
  have hT : s.TypeIs (.ref it) "itertools.combinations" := ⟨_, hit, rfl⟩
  refine wpAny_callSpecial?_slot (name := Str.ofString "__next__") hT slot_cb_next (wpAny_call_entry slot_cb_next hT entry_cb_next ?_ (args_cb_next _))
  show wpAny _ _ (field (.ref it) 0 >>= _) _ _ s
  refine wpAny_bind (wpAny_field hit rfl (x := .ref P) rfl ?_)
  refine wpAny_bind (wp_numbers hit ?_)
  show wpAny _ _ ((field (.ref it) 1 >>= _) >>= _) _ _ s
  refine wpAny_bind (wpAny_bind (wpAny_field hit rfl (x := rawInt 0) rfl (wpAny_pure ?_)))
  show wpAny _ _ (setField (.ref it) 1 (rawInt 1) >>= _) _ _ s
  refine wpAny_bind (wpAny_setField_rec hit (by show 1 < Array.size _; rw [cbF, List.size_toArray]; simp) fun h3 hit3 sb => ?_)
  have e : (cbF P 0 last ix).setIfInBounds 1 (rawInt 1) = cbF P 1 last ix := by
    simp [cbF]
  rw [e] at hit3
  have sz : h3.objs.size = s.heap.objs.size := sb.1
  have hP3 : IsPool h3 P items := sb.extBut _ _ hne.symm hP
  refine wpAny_mono (wp_result (Q := fun v s' => Q (some v) s') hit3 hP3 h6 fun h4 hit4 hT4 hk4 => ?_) (fun a s' h => h) (fun _ _ h => h)
  show Q (some (.ref h3.objs.size)) _
  rw [sz]
  have hit4 : IsCb h4 it P 1 (.ref h3.objs.size) ix := hit4
  have hT4 : h4.get? h3.objs.size = _ := hT4
  rw [sz] at hit4 hT4
  exact hQ h4 hit4 hT4 fun b o hb q => hk4 b o hb (sb.extBut _ _ hb q)
theorem next_on {it P : Addr} {last : Value} {items : List Value} {ix ix' : List Nat} {Q : Option Value → Shared → Prop} (hit : IsCb s.heap it P 1 last ix) (hP : IsPool s.heap P items) (h6 : ix'.length ≤ 6) (hne : it ≠ P)
    (hs : nextC items.length ix = some ix')
    (hQ : ∀ h', IsCb h' it P 1 (.ref s.heap.objs.size) ix' → h'.get? s.heap.objs.size = some (tupO items ix') → (∀ b o, b ≠ it → s.heap.get? b = some o → h'.get? b = some o) →
      Q (some (.ref s.heap.objs.size)) { s with heap := h' }) : wpAny (model prog w) A (callSpecial? (.ref it) "__next__") Q E s := by
  have hT : s.TypeIs (.ref it) "itertools.combinations" := ⟨_, hit, rfl⟩
  refine wpAny_callSpecial?_slot (name := Str.ofString "__next__") hT slot_cb_next (wpAny_call_entry slot_cb_next hT entry_cb_next ?_ (args_cb_next _))
  show wpAny _ _ (field (.ref it) 0 >>= _) _ _ s
  refine wpAny_bind (wpAny_field hit rfl (x := .ref P) rfl ?_)
  refine wpAny_bind (wp_numbers hit ?_)
  show wpAny _ _ ((field (.ref it) 1 >>= _) >>= _) _ _ s
  refine wpAny_bind (wpAny_bind (wpAny_field hit rfl (x := rawInt 1) rfl (wpAny_pure ?_)))
  show wpAny _ _ (Builtin.Itertools.itPoolItems (.ref P) >>= _) _ _ s
  refine wpAny_bind ?_
  unfold Builtin.Itertools.itPoolItems
  refine wpAny_bind (wpAny_seqItems hP rfl ?_)
  refine wpAny_pure ?_
  have e6 : items.toArray.size = items.length := List.size_toArray ..
  simp only [e6]
  split
  · rename_i r ix2 hr
    have hr2 : nextC items.length ix = some ix2 := hr
    rw [hs] at hr2
    cases hr2
    refine wpAny_bind ?_
    unfold Builtin.Itertools.itSetNumbersFrom
    refine wpAny_updateFields hit rfl ?_ ?_
    · have e : (cbF P 1 last ix).extract 0 3 ++ (ix'.map fun (k : Nat) => rawInt k).toArray = cbF P 1 last ix' := by
        simp [cbF]
      have hit3 : IsCb (s.heap.update it (Obj.mapFields fun fs => fs.extract 0 3 ++ (ix'.map fun (k : Nat) => rawInt k).toArray)) it P 1 last ix' :=
        (Heap.get?_update_self _ hit rfl).trans (congrArg some (congrArg (fun z => ({ cls := .type "itertools.combinations", dict := none, data := .fields z, slots := #[] } : Obj)) e))
      have sb : Heap.SameBut it s.heap (s.heap.update it (Obj.mapFields fun fs => fs.extract 0 3 ++ (ix'.map fun (k : Nat) => rawInt k).toArray)) := Heap.SameBut.update ..
      generalize s.heap.update it (Obj.mapFields fun fs => fs.extract 0 3 ++ (ix'.map fun (k : Nat) => rawInt k).toArray) = h3 at hit3 sb ⊢
      have sz : h3.objs.size = s.heap.objs.size := sb.1
      have hP3 : IsPool h3 P items := sb.extBut _ _ hne.symm hP
      refine wpAny_mono (wp_result (Q := fun v s' => Q (some v) s') hit3 hP3 h6 fun h4 hit4 hT4 hk4 => ?_) (fun a s' h => h) (fun _ _ h => h)
      show Q (some (.ref h3.objs.size)) _
      rw [sz]
      have hit4 : IsCb h4 it P 1 (.ref h3.objs.size) ix' := hit4
      have hT4 : h4.get? h3.objs.size = _ := hT4
      rw [sz] at hit4 hT4
      exact hQ h4 hit4 hT4 fun b o hb q => hk4 b o hb (sb.extBut _ _ hb q)
    · show Array.size _ ≤ 16777216 + 3
      have z1 : (ix'.map fun (k : Nat) => rawInt k).toArray.size ≤ 6 := by
        rw [List.size_toArray, List.length_map]; exact h6
      rw [Array.size_append, Array.size_extract]
      have z2 := Nat.min_le_left 3 (cbF P 1 last ix).size
      omega
  · rename_i r hr
    have hr2 : nextC items.length ix = none := hr
    rw [hs] at hr2
    cases hr2
theorem wp_stop {it : Addr} {s0 : Shared} {Q : Fin → Shared → Prop} (hh : A.handled = none) (hk : Heap.ExtBut it s0.heap s.heap) (hs : ∃ h, s = { s0 with heap := h })
    (hQ : ∀ e h', CpRep.StopE e h' → Heap.ExtBut it s0.heap h' → E e { s0 with heap := h' }) : wpAny (model prog w) A.in1 (Builtin.Itertools.itStop) Q E s := by
  obtain ⟨h, rfl⟩ := hs
  simp only [Builtin.Itertools.itStop, newExc, newTuple]
  refine wpAny_bind (wpAny_bind (wpAny_newObj_type ?_ (by size_fits)))
  refine wpAny_bind (m := firstArgMember _ _) (wpAny_of_eq (a := Value.none) (by first | rfl | (simp only [firstArgMember]; rfl)) ?_)
  refine wpAny_newObj_type ?_ (by size_fits)
  simp only [raiseNew]
  refine wpAny_bind (wpAny_handled ?_)
  first | rw [show A.in1.handled = none from hh] | rw [hh]
  refine wpAny_bind (wpAny_pure (wpAny_throw ?_))
  exact hQ _ _ ⟨_, _, _, rfl, Heap.get?_push_size _ rfl, rfl, rfl, rfl⟩ ((hk.push _).push _)
theorem next_end {it P : Addr} {last : Value} {items : List Value} {ix : List Nat} {Q : Option Value → Shared → Prop} (hh : A.handled = none) (hit : IsCb s.heap it P 1 last ix) (hP : IsPool s.heap P items)
    (hs : nextC items.length ix = none)
    (hQ : ∀ e h', CpRep.StopE e h' → Heap.ExtBut it s.heap h' → E e { s with heap := h' }) : wpAny (model prog w) A (callSpecial? (.ref it) "__next__") Q E s := by
  have hT : s.TypeIs (.ref it) "itertools.combinations" := ⟨_, hit, rfl⟩
  refine wpAny_callSpecial?_slot (name := Str.ofString "__next__") hT slot_cb_next (wpAny_call_entry slot_cb_next hT entry_cb_next ?_ (args_cb_next _))
  show wpAny _ _ (field (.ref it) 0 >>= _) _ _ s
  refine wpAny_bind (wpAny_field hit rfl (x := .ref P) rfl ?_)
  refine wpAny_bind (wp_numbers hit ?_)
  show wpAny _ _ ((field (.ref it) 1 >>= _) >>= _) _ _ s
  refine wpAny_bind (wpAny_bind (wpAny_field hit rfl (x := rawInt 1) rfl (wpAny_pure ?_)))
  show wpAny _ _ (Builtin.Itertools.itPoolItems (.ref P) >>= _) _ _ s
  refine wpAny_bind ?_
  unfold Builtin.Itertools.itPoolItems
  refine wpAny_bind (wpAny_seqItems hP rfl ?_)
  refine wpAny_pure ?_
  have e6 : items.toArray.size = items.length := List.size_toArray ..
  simp only [e6]
  split
  · rename_i r ix2 hr
    have hr2 : nextC items.length ix = some ix2 := hr
    rw [hs] at hr2
    cases hr2
  · refine wpAny_bind (wpAny_setField_rec hit (by show 1 < Array.size _; rw [cbF, List.size_toArray]; simp) fun h3 hit3 sb => ?_)
    exact wp_stop (it := it) (s0 := s) hh sb.extBut ⟨_, rfl⟩ hQ
theorem next_none {it P : Addr} {last : Value} {ix : List Nat} {Q : Option Value → Shared → Prop} (hh : A.handled = none) (hit : IsCb s.heap it P 2 last ix)
    (hQ : ∀ e h', CpRep.StopE e h' → Heap.ExtBut it s.heap h' → E e { s with heap := h' }) : wpAny (model prog w) A (callSpecial? (.ref it) "__next__") Q E s := by
  have hT : s.TypeIs (.ref it) "itertools.combinations" := ⟨_, hit, rfl⟩
  refine wpAny_callSpecial?_slot (name := Str.ofString "__next__") hT slot_cb_next (wpAny_call_entry slot_cb_next hT entry_cb_next ?_ (args_cb_next _))
  show wpAny _ _ (field (.ref it) 0 >>= _) _ _ s
  refine wpAny_bind (wpAny_field hit rfl (x := .ref P) rfl ?_)
  refine wpAny_bind (wp_numbers hit ?_)
  show wpAny _ _ ((field (.ref it) 1 >>= _) >>= _) _ _ s
  refine wpAny_bind (wpAny_bind (wpAny_field hit rfl (x := rawInt 2) rfl (wpAny_pure ?_)))
  show wpAny _ _ (rule "itertools.combinations.ended" >>= fun _ => Builtin.Itertools.itStop) _ _ s
  refine wpAny_bind (wpAny_rule ?_)
  exact wp_stop (it := it) (s0 := s) hh (fun b o _ q => q) ⟨_, rfl⟩ hQ
end
end CbK
end P_DLck
section P_DLcl
set_option Elab.async false
set_option linter.all false
set_option maxRecDepth 100000
set_option maxHeartbeats 1000000
/-! list(combinations(list, r)), as the library has it. -/
namespace CbK
open PySem PySem.Spec L2
open Sem (wp)
/-- what the choices are -/
structure ChainC (n r : Nat) (cs : List (List Nat)) : Prop where
  zero : r ≤ n → cs[0]? = some (List.range r)
  none : n < r → cs = []
  next : ∀ (i : Nat) (a : List Nat), cs[i]? = some a → nextC n a = cs[i + 1]?
  len : ∀ a ∈ cs, a.length = r
  few : cs.length ≤ 1000
def CbAt (n r : Nat) (cs : List (List Nat)) (it P : Addr) : Nat → Heap → Prop
  | 0, h => IsCb h it P (st0 n r) .none (List.range r)
  | j + 1, h => ∃ (last : Value) (a : List Nat), cs[j]? = some a ∧ IsCb h it P 1 last a
section
variable {prog : Program} {w : World} {A : Around} {E : Value → Shared → Prop} {s : Shared}
theorem pyNext_cb {n r j : Nat} {cs : List (List Nat)} {it P : Addr} {items : List Value} {Q : Option Value → Shared → Prop} (hh : A.handled = none) (C : ChainC n r cs) (hr : r ≤ 6) (hn : items.length = n) (hP : IsPool s.heap P items) (hne : it ≠ P) (st : CbAt n r cs it P j s.heap) (hj : j ≤ cs.length)
    (hQ : ∀ h' a, cs[j]? = some a → CbAt n r cs it P (j + 1) h' → h'.get? s.heap.objs.size = some (tupO items a) → (∀ b o, b ≠ it → s.heap.get? b = some o → h'.get? b = some o) → Q (some (.ref s.heap.objs.size)) { s with heap := h' })
    (hE : ∀ h', j = cs.length → (∀ b o, b ≠ it → s.heap.get? b = some o → h'.get? b = some o) → Q none { s with heap := h' }) : wpAny (model prog w) A (pyNext (.ref it)) Q E s := by
  have stop : ∀ (e : Value) (h' : Heap), CpRep.StopE e h' → Heap.ExtBut it s.heap h' → j = cs.length → wpAny (model prog w) A (do if (← isInstance e (.type "StopIteration")) then return none else throw e) Q E { s with heap := h' } := by
    intro e h' he hk hj
    obtain ⟨a, o, vs, rfl, ho, hc, _⟩ := he
    refine wpAny_bind (wpAny_isInstance (T := "StopIteration") (b := true) ⟨o, ho, hc⟩ isSubtype_stop ?_)
    exact wpAny_pure (hE _ hj hk)
  unfold pyNext
  cases j with
  | zero =>
    have st : IsCb s.heap it P (st0 n r) .none (List.range r) := st
    by_cases q : r ≤ n
    · have e0 : st0 n r = 0 := if_neg (by omega)
      rw [e0] at st
      have hz := C.zero q
      exact wpAny_bind (wpAny_attempt (next_first st hP (by rw [List.length_range]; exact hr) hne fun h' a b c => wpAny_pure (hQ h' _ hz ⟨_, _, hz, a⟩ b c)))
    · have e0 : st0 n r = 2 := if_pos (by omega)
      rw [e0] at st
      have hz := C.none (by omega)
      exact wpAny_bind (wpAny_attempt (next_none hh st fun e h' he hk => stop e h' he hk (by rw [hz]; rfl)))
  | succ j =>
    obtain ⟨last, a, ha, st⟩ := st
    have hx := C.next j a ha
    rw [← hn] at hx
    cases hb : cs[j + 1]? with
    | none =>
      rw [hb] at hx
      have hl := List.getElem?_eq_none_iff.mp hb
      exact wpAny_bind (wpAny_attempt (next_end hh st hP hx fun e h' he hk => stop e h' he hk (by omega)))
    | some b =>
      rw [hb] at hx
      have hm := C.len b (List.mem_of_getElem? hb)
      exact wpAny_bind (wpAny_attempt (next_on st hP (by rw [hm]; exact hr) hne hx fun h' x y z => wpAny_pure (hQ h' _ hb ⟨_, _, hb, x⟩ y z)))
end
/-- how far the list is -/
structure Far (h0 : Heap) (cs : List (List Nat)) (items : List Value) (S it P : Addr) (Ts : List Addr) (c : Nat) (h : Heap) : Prop where
  keep : ∀ b o, h0.get? b = some o → h.get? b = some o
  lst : h.get? S = some (lstObj (Ts.map Value.ref).toArray c)
  pool : IsPool h P items
  le : Ts.length ≤ cs.length
  tup : ∀ (i : Nat) (T : Addr), Ts[i]? = some T → ∃ a, cs[i]? = some a ∧ h.get? T = some (tupO items a)
  nd : Ts.Nodup
  new : ∀ T ∈ Ts, h0.objs.size ≤ T ∧ T ≠ S ∧ T ≠ it
theorem drain_cb {prog : Program} {w : World} {A : Around} {R : Result → Shared → Prop} {h0 : Heap} {n r : Nat} {cs : List (List Nat)} {items : List Value} {S it P : Addr} {res : Value} (hh : A.handled = none) (C : ChainC n r cs) (hr : r ≤ 6) (hn : items.length = n)
    (hne : it ≠ P) (hS0 : h0.objs.size ≤ S) (hSi : S ≠ it) (hSP : S ≠ P) (hi0 : h0.objs.size ≤ it) :
    ∀ (m : Nat) (s : Shared) (Ts : List Addr) (c : Nat), Ts.length + m = cs.length → Far h0 cs items S it P Ts c s.heap → CbAt n r cs it P Ts.length s.heap →
      (∀ h' Ts c, Far h0 cs items S it P Ts c h' → Ts.length = cs.length → R (.ok (.ret res)) { s with heap := h' }) →
      codeAny (model prog w) A (.builtin "list.extend.loop" ⟨[.ref S, .ref it, res], []⟩) R s := by
  intro m
  have kept : ∀ {h h' : Heap} {Ts : List Addr} {c : Nat}, Far h0 cs items S it P Ts c h → (∀ b o, b ≠ it → h.get? b = some o → h'.get? b = some o) → Far h0 cs items S it P Ts c h' := by
    intro h h' Ts c F hk
    refine ⟨fun b o q => ?_, hk _ _ hSi F.lst, hk _ _ hne.symm F.pool, F.le, fun i T q => ?_, F.nd, F.new⟩
    · exact hk b o (Nat.ne_of_lt (Nat.lt_of_lt_of_le (Heap.lt_size q) hi0)) (F.keep b o q)
    · obtain ⟨a, e1, e2⟩ := F.tup i T q
      exact ⟨a, e1, hk _ _ (F.new T (List.mem_of_getElem? q)).2.2 e2⟩
  induction m with
  | zero =>
    intro s Ts c hm Fa st hend
    refine codeAny_builtin F.entry_extend_loop ?_
    rw [Around.under_plainId F.plain_extend_loop _]
    show wpAny _ A.in1 (pyNext (.ref it) >>= _) _ _ s
    refine wpAny_bind (pyNext_cb (A := A.in1) hh C hr hn Fa.pool hne st Fa.le (fun h' a ha _ _ _ => ?_) fun h' hj hk => ?_)
    · have := (List.getElem?_eq_some_iff.mp ha).1
      omega
    · exact wpAny_pure (hend h' Ts c (kept Fa hk) (by omega))
  | succ m ih =>
    intro s Ts c hm Fa st hend
    refine codeAny_builtin F.entry_extend_loop ?_
    rw [Around.under_plainId F.plain_extend_loop _]
    show wpAny _ A.in1 (pyNext (.ref it) >>= _) _ _ s
    have few := C.few
    refine wpAny_bind (pyNext_cb (A := A.in1) hh C hr hn Fa.pool hne st Fa.le (fun h' a ha st' hT hk => ?_) fun h' hj hk => ?_)
    · have F1 := kept Fa hk
      have hlt : ∀ b o, s.heap.get? b = some o → b < s.heap.objs.size := fun b o q => Heap.lt_size q
      have hSlt : S < s.heap.objs.size := hlt _ _ Fa.lst
      show wpAny _ A.in1 (updateSeq S (·.push (.ref s.heap.objs.size)) >>= _) _ _ _
      refine wpAny_bind ?_
      have hasz : (Ts.map Value.ref).toArray.size ≤ 1000 := by rw [List.size_toArray, List.length_map]; omega
      refine wpAny_updateSeq F1.lst rfl (wpAny_pure ⟨plainId_quiet F.plain_extend_loop _, ?_⟩) (by show _ ≤ 16777216; omega) (by show Array.size _ ≤ 16777217; rw [Array.size_push]; omega)
      have keep3 : ∀ b o, b ≠ S → h'.get? b = some o → (h'.update S (Obj.mapSeq (·.push (.ref s.heap.objs.size)))).get? b = some o := fun b o hbS e => (Heap.get?_update_other _ _ (Ne.symm hbS)).trans e
      have hS3 := Heap.get?_update_self (Obj.mapSeq (·.push (Value.ref s.heap.objs.size))) F1.lst rfl
      have hsz := Fa.new
      have hTlt : ∀ T ∈ Ts, T < s.heap.objs.size := fun T hT => by
        obtain ⟨i, hi⟩ := List.getElem?_of_mem hT
        obtain ⟨a, _, e2⟩ := Fa.tup i T hi
        exact hlt _ _ e2
      have hit : it < s.heap.objs.size := by
        cases hz : Ts.length with
        | zero => rw [hz] at st; exact hlt _ _ st
        | succ j => rw [hz] at st; obtain ⟨_, _, _, q⟩ := st; exact hlt _ _ q
      have e0 : ((Ts.map Value.ref).toArray.push (.ref s.heap.objs.size)) = ((Ts ++ [s.heap.objs.size]).map Value.ref).toArray := by simp
      have len1 : (Ts ++ [s.heap.objs.size]).length = Ts.length + 1 := by simp
      obtain ⟨c', hS3⟩ : ∃ c', (h'.update S (Obj.mapSeq (·.push (.ref s.heap.objs.size)))).get? S = some (lstObj ((Ts.map Value.ref).toArray.push (.ref s.heap.objs.size)) c') := ⟨_, hS3⟩
      rw [e0] at hS3
      have F2 : Far h0 cs items S it P (Ts ++ [s.heap.objs.size]) c' (h'.update S (Obj.mapSeq (·.push (.ref s.heap.objs.size)))) := by
        refine ⟨fun b o q => keep3 b o (Nat.ne_of_lt (Nat.lt_of_lt_of_le (Heap.lt_size q) hS0)) (F1.keep b o q), ?_, keep3 _ _ hSP.symm F1.pool, ?_, fun i T q => ?_, ?_, fun T hm => ?_⟩
        · exact hS3
        · rw [len1]; have := (List.getElem?_eq_some_iff.mp ha).1; omega
        · by_cases hi : i < Ts.length
          · rw [List.getElem?_append_left hi] at q
            obtain ⟨b, e1, e2⟩ := F1.tup i T q
            exact ⟨b, e1, keep3 _ _ (F1.new T (List.mem_of_getElem? q)).2.1 e2⟩
          · have hi2 : i = Ts.length := by
              have := (List.getElem?_eq_some_iff.mp q).1
              rw [len1] at this; omega
            subst hi2
            rw [List.getElem?_append_right (Nat.le_refl _), Nat.sub_self] at q
            cases q
            exact ⟨a, ha, keep3 _ _ (Nat.ne_of_gt hSlt) hT⟩
        · rw [List.nodup_append]
          refine ⟨Fa.nd, by simp, fun x hx y hy e => ?_⟩
          rw [List.mem_singleton.mp hy] at e
          exact absurd (hTlt x hx) (by rw [e]; exact Nat.lt_irrefl _)
        · rcases List.mem_append.mp hm with hm | hm
          · exact Fa.new T hm
          · rw [List.mem_singleton.mp hm]
            exact ⟨Nat.le_of_lt (Nat.lt_of_le_of_lt hS0 hSlt), Nat.ne_of_gt hSlt, Nat.ne_of_gt hit⟩
      have st2 : CbAt n r cs it P (Ts ++ [s.heap.objs.size]).length (h'.update S (Obj.mapSeq (·.push (.ref s.heap.objs.size)))) := by
        rw [len1]
        obtain ⟨l, b, e1, e2⟩ := st'
        exact ⟨l, b, e1, keep3 _ _ hSi.symm e2⟩
      exact ih { s with heap := h'.update S (Obj.mapSeq (·.push (.ref s.heap.objs.size))) } (Ts ++ [s.heap.objs.size]) c' (by rw [len1]; omega) F2 st2 hend
    · omega
/-- list(it) -/
theorem call_list_cb {prog : Program} {w : World} {A : Around} {E : Value → Shared → Prop} {s : Shared} {h0 : Heap} {n r : Nat} {cs : List (List Nat)} {items : List Value} {it P : Addr} {Q : Value → Shared → Prop} (hh : A.handled = none) (C : ChainC n r cs) (hr : r ≤ 6) (hn : items.length = n)
    (hne : it ≠ P) (hi0 : h0.objs.size ≤ it) (k0 : ∀ b o, h0.get? b = some o → s.heap.get? b = some o) (hP : IsPool s.heap P items) (st : CbAt n r cs it P 0 s.heap)
    (hQ : ∀ h' Ts c S, Far h0 cs items S it P Ts c h' → Ts.length = cs.length → h0.objs.size ≤ S → Q (.ref S) { s with heap := h' }) :
    wpAny (model prog w) A (call (.type "list") [.ref it]) Q E s := by
  have hit : it < s.heap.objs.size := Heap.lt_size (show IsCb s.heap it P _ _ _ from st)
  have hPl : P < s.heap.objs.size := Heap.lt_size hP
  have hSi : s.heap.objs.size ≠ it := Nat.ne_of_gt hit
  refine callType_codes (Q₁ := fun obj s₁ => obj = .ref s.heap.objs.size ∧ s₁ = { s with heap := s.heap.push { cls := .type "list", data := .seq #[] } }) F.called_list (F.typeCall_list_1 _) F.entry_list_init
    (code_list_new _ ⟨rfl, rfl⟩) fun obj s₁ h₁ => ?_
  obtain ⟨rfl, rfl⟩ := h₁
  have hS : (s.heap.push { cls := .type "list", data := .seq #[] }).get? s.heap.objs.size = some { cls := .type "list", data := .seq #[] } := Heap.get?_push_size _ rfl
  refine ⟨⟨_, hS, rfl⟩, F.args_list_init_2 _ _, ?_⟩
  show wpAny _ A.in1.in1 (do let old ← Builtin.List.listItems (.ref s.heap.objs.size); Builtin.List.listUpdate (.ref s.heap.objs.size) (fun _ => #[]); letGo old.toList.reverse; Builtin.List.listExtendWith (.ref s.heap.objs.size) (.ref it) .none) _ _ _
  refine wpAny_bind ?_
  unfold Builtin.List.listItems
  refine wpAny_bind (wpAny_seqItems hS rfl (wpAny_pure ?_))
  show wpAny _ A.in1.in1 (updateSeq s.heap.objs.size (fun _ => #[]) >>= fun _ => letGo (#[] : Array Value).toList.reverse >>= fun _ => Builtin.List.listExtendWith (.ref s.heap.objs.size) (.ref it) .none) _ _ _
  refine wpAny_bind (wpAny_updateSeq hS rfl ?_)
  have hS2 := Heap.get?_update_self (Obj.mapSeq (fun _ => (#[] : Array Value))) hS rfl
  refine wpAny_bind (wpAny_letGo ?_)
  unfold Builtin.List.listExtendWith
  have up : ∀ (h : Heap) (f : Obj → Obj), (∀ b o, s.heap.get? b = some o → h.get? b = some o) → ∀ b o, s.heap.get? b = some o → (h.update s.heap.objs.size f).get? b = some o := fun h f q b o e =>
    (Heap.get?_update_other _ _ (Ne.symm (Nat.ne_of_lt (Heap.lt_size e)))).trans (q b o e)
  have k1 : ∀ b o, s.heap.get? b = some o → (s.heap.push { cls := .type "list", data := .seq #[] }).get? b = some o := fun b o e => Heap.get?_push_of_some _ e
  have k2 := up _ (Obj.mapSeq (fun _ => (#[] : Array Value))) k1
  have ty : ∀ {h : Heap}, (∀ b o, s.heap.get? b = some o → h.get? b = some o) → (({ s with heap := h } : Shared)).TypeIs (.ref it) "itertools.combinations" := fun {h} q => ⟨_, q _ _ (show IsCb s.heap it P _ _ _ from st), rfl⟩
  refine wpAny_bind (wpAny_typeOf (ty k2) ?_)
  have h1 : Builtin.List.listSameRef (.ref s.heap.objs.size) (.ref it) = false := by simp [Builtin.List.listSameRef, hSi]
  have h2 : (Value.type "itertools.combinations" == Value.type "list") = false := by decide
  have h3 : (Value.type "itertools.combinations" == Value.type "tuple") = false := by decide
  simp only [h1, h2, h3, Bool.or_false, Bool.false_eq_true, if_false]
  refine wpAny_bind (iter_cb (s := { s with heap := _ }) (k2 _ _ (show IsCb s.heap it P _ _ _ from st)) ?_)
  refine wpAny_bind (wpAny_holding ?_)
  unfold Builtin.List.listLengthHint
  refine wpAny_bind (wpAny_specialOf (ty k2) nolen_cb ?_)
  show wpAny _ A.in1.in1 (specialOf (Value.ref it) (Str.ofString "__length_hint__") >>= _) _ _ _
  refine wpAny_bind (wpAny_specialOf (ty k2) nohint_cb ?_)
  refine wpAny_pure ?_
  show wpAny _ A.in1.in1 (rule "list.extend.makes-room" >>= fun _ => Builtin.List.listTouch (.ref s.heap.objs.size) >>= fun _ =>
    again (.builtin "list.extend.loop" ⟨[.ref s.heap.objs.size, .ref it, .none], []⟩)) _ _ _
  refine wpAny_bind (wpAny_rule ?_)
  refine wpAny_bind ?_
  show wpAny _ A.in1.in1 (updateSeq s.heap.objs.size (·.push .none) >>= fun _ => updateSeq s.heap.objs.size (·.pop)) _ _ _
  refine wpAny_bind (wpAny_updateSeq hS2 rfl ?_)
  have hS3 := Heap.get?_update_self (Obj.mapSeq (·.push Value.none)) hS2 rfl
  refine wpAny_updateSeq (hz := by seq_fits) hS3 rfl ?_
  have hS4 := Heap.get?_update_self (Obj.mapSeq (·.pop)) hS3 rfl
  have k4 := up _ (Obj.mapSeq (·.pop)) (up _ (Obj.mapSeq (·.push Value.none)) k2)
  refine wpAny_pure ⟨plainId_quiet F.plain_extend_loop _, ?_⟩
  have hz : h0.objs.size ≤ s.heap.objs.size := Nat.le_trans hi0 (Nat.le_of_lt hit)
  refine drain_cb (A := A.in1) (h0 := h0) hh C hr hn hne hz hSi (Nat.ne_of_gt hPl) hi0 cs.length _ [] _ (by simp) ⟨fun b o q => k4 b o (k0 b o q), hS4, k4 _ _ hP, Nat.zero_le _, fun i T q => by simp at q, List.nodup_nil, fun T hT => by cases hT⟩ ?_ fun h' Ts c Fa hl => ?_
  · exact k4 _ _ (show IsCb s.heap it P _ _ _ from st)
  · exact ⟨rfl, hQ h' Ts c _ Fa hl hz⟩
end CbK
end P_DLcl
section P_DLcm
set_option Elab.async false
set_option linter.all false
set_option maxRecDepth 100000
set_option maxHeartbeats 1000000
/-! list(combinations(list, r)) as a printed form. -/
namespace CbK
open PySem PySem.Spec PyProof.Rows L2
/-- ascending places, so many of n, ascending -/
def plc (n : Nat) : Nat → List (List Nat)
  | 0 => [[]]
  | r + 1 => (plc n r).flatMap fun row => (List.range' (match row.getLast? with | some x => x + 1 | none => 0) (n - (match row.getLast? with | some x => x + 1 | none => 0))).map fun at' => row ++ [at']
def chk (n : Nat) : List (List Nat) → Bool
  | [] => true
  | [a] => (nextC n a).isNone
  | a :: b :: l => nextC n a == some b && chk n (b :: l)
def okC (n r : Nat) : Bool := chk n (plc n r) && (if r ≤ n then (plc n r)[0]? == some (List.range r) else (plc n r).isEmpty) && (plc n r).all (fun a => a.length == r) && decide ((plc n r).length ≤ 1000)
set_option maxRecDepth 1000000 in
theorem okC_all : ∀ n, n ≤ 12 → ∀ r, r ≤ 6 → okC n r = true := by
  have h : ((List.range 13).all fun n => (List.range 7).all fun r => okC n r) = true := by decide +kernel
  intro n hn r hr
  exact List.all_eq_true.mp (List.all_eq_true.mp h n (List.mem_range.mpr (by omega))) r (List.mem_range.mpr (by omega))
theorem chk_next {n : Nat} : ∀ {l : List (List Nat)}, chk n l = true → ∀ (i : Nat) (a : List Nat), l[i]? = some a → nextC n a = l[i + 1]?
  | [], _, _, _, q => by cases q
  | [b], h, i, a, q => by
    cases i with
    | zero => cases q; exact Option.isNone_iff_eq_none.mp h
    | succ i => cases q
  | b :: c :: l, h, i, a, q => by
    have h : (nextC n b == some c && chk n (c :: l)) = true := h
    rw [Bool.and_eq_true, beq_iff_eq] at h
    cases i with
    | zero => cases q; exact h.1
    | succ i => exact chk_next h.2 i a q
theorem chainC {n r : Nat} (hn : n ≤ 12) (hr : r ≤ 6) : ChainC n r (plc n r) := by
  have h := okC_all n hn r hr
  unfold okC at h
  rw [Bool.and_eq_true, Bool.and_eq_true, Bool.and_eq_true, decide_eq_true_eq] at h
  obtain ⟨⟨⟨h1, h2⟩, h3⟩, h4⟩ := h
  refine ⟨fun q => ?_, fun q => ?_, fun i a q => chk_next h1 i a q, fun a q => ?_, h4⟩
  · rw [if_pos q, beq_iff_eq] at h2; exact h2
  · rw [if_neg (by omega)] at h2; exact List.isEmpty_iff.mp h2
  · have := List.all_eq_true.mp h3 a q
    rw [beq_iff_eq] at this; exact this
end CbK
end P_DLcm
section P_DLty
set_option Elab.async false
set_option linter.all false
set_option maxRecDepth 100000
set_option maxHeartbeats 1000000
/-! A name of the top that stands for a type. -/
namespace DL
open PySem PySem.Spec PyProof.Rows L2
theorem mk_type {K : Fr} {h : Heap} {mg : Str → Option Value} {x : Str} {id : String} (X : K.In h) (G : h.Ns mainGlobals mg) (a : PySem.W.nsIn K mainGlobals x = some (some (.type id))) : mg x = some (.type id) := PySem.W.mg_of X G a
end DL
end P_DLty
section P_DLcn
set_option Elab.async false
set_option linter.all false
set_option maxRecDepth 100000
set_option maxHeartbeats 1000000
/-! list(combinations(list, r)) as a printed form: the walk. -/
namespace CbK
open PySem PySem.Spec PyProof.Rows L2
theorem vals_at {vs : List V} {items : List Value} (r : Vals vs items) (k : Nat) : RelV (vs[k]?.getD .non) (items.toArray.getD k .none) := by
  have e : items.toArray.getD k .none = items[k]?.getD .none := by simp [Array.getD_eq_getD_getElem?]
  rw [e]
  cases h : vs[k]? with
  | none =>
    have : items[k]? = none := by
      rw [List.getElem?_eq_none_iff] at h ⊢
      rw [← r.length]; exact h
    rw [this]
    exact rfl
  | some v =>
    obtain ⟨u, hu, ru⟩ := r.get h
    rw [hu]
    exact ru
theorem vals_map {vs : List V} {items : List Value} (r : Vals vs items) : ∀ l : List Nat, Vals (l.map fun k => vs[k]?.getD .non) (l.map fun k => items.toArray.getD k .none)
  | [] => .nil
  | k :: l => .cons (vals_at r k) (vals_map r l)
def pickV (vs : List V) (a : List Nat) : List V := a.map fun k => vs[k]?.getD .non
def putT (vs : List V) : List (Addr × List Nat) → Hp → Hp
  | [], H => H
  | p :: l, H => putT vs l (upd H p.1 (.tup (pickV vs p.2)))
theorem putT_ne {vs : List V} : ∀ {l : List (Addr × List Nat)} {H : Hp} {b : Addr}, b ∉ l.map (·.1) → putT vs l H b = H b
  | [], _, _, _ => rfl
  | p :: l, H, b, h => by
    show putT vs l (upd H p.1 _) b = H b
    rw [putT_ne (fun z => h (List.mem_cons_of_mem _ z)), upd_ne (fun z => h (by rw [z]; exact List.mem_cons_self ..))]
theorem putT_at {vs : List V} : ∀ {l : List (Addr × List Nat)} {H : Hp}, (l.map (·.1)).Nodup → ∀ p ∈ l, putT vs l H p.1 = some (.tup (pickV vs p.2))
  | [], _, _, _, h => by cases h
  | q :: l, H, nd, p, h => by
    rw [List.map_cons, List.nodup_cons] at nd
    show putT vs l (upd H q.1 _) p.1 = _
    rcases List.mem_cons.mp h with rfl | h
    · rw [putT_ne nd.1, upd_same]
    · exact putT_at nd.2 p h
theorem putT_new {vs : List V} : ∀ {l : List (Addr × List Nat)} {F H : Hp}, (l.map (·.1)).Nodup → DL.Sub F H → (∀ p ∈ l, H p.1 = none) → DL.NewF F H (putT vs l F) (putT vs l H)
  | [], F, H, _, sb, _ => DL.NewF.refl sb
  | p :: l, F, H, nd, sb, hf => by
    rw [List.map_cons, List.nodup_cons] at nd
    have n := DL.NewF.alloc sb (hf p (List.mem_cons_self ..)) (.tup (pickV vs p.2))
    refine n.trans (putT_new nd.2 n.sub fun q hq => ?_)
    have hne : q.1 ≠ p.1 := fun z => nd.1 (by rw [← z]; exact List.mem_map.mpr ⟨q, hq, rfl⟩)
    rw [upd_ne hne]; exact hf q (List.mem_cons_of_mem _ hq)
theorem putT_hok {P : Program} {w : World} {h : Heap} {vs : List V} {items : List Value} (rv : Vals vs items) : ∀ {l : List (Addr × List Nat)} {H : Hp}, (l.map (·.1)).Nodup → (∀ p ∈ l, H p.1 = none ∧ h.get? p.1 = some (tupO items p.2) ∧ p.2.length ≤ 6) → HOk P w H h → HOk P w (putT vs l H) h
  | [], H, _, _, k => k
  | p :: l, H, nd, hf, k => by
    rw [List.map_cons, List.nodup_cons] at nd
    obtain ⟨f1, f2, f3⟩ := hf p (List.mem_cons_self ..)
    have new : ObjOk P w (upd H p.1 (.tup (pickV vs p.2))) h p.1 (.tup (pickV vs p.2)) :=
      ⟨by unfold pickV; rw [List.length_map]; show _ ≤ 16777216; omega, p.2.map (fun k => items.toArray.getD k .none), vals_map rv p.2, ⟨_, f2, rfl, _, rfl⟩⟩
    show HOk P w (putT vs l (upd H p.1 (.tup (pickV vs p.2)))) h
    refine putT_hok rv nd.2 (fun q hq => ?_) (k.laidN (fun _ _ z => z) f1 new)
    have hne : q.1 ≠ p.1 := fun z => nd.1 (by rw [← z]; exact List.mem_map.mpr ⟨q, hq, rfl⟩)
    obtain ⟨g1, g2, g3⟩ := hf q (List.mem_cons_of_mem _ hq)
    exact ⟨by rw [upd_ne hne]; exact g1, g2, g3⟩
theorem Un.ext {fs : List Addr} {H H' : Hp} {h h' : Heap} (k : ∀ b o, h.get? b = some o → h'.get? b = some o) (e : ∀ b o, h.get? b = some o → H' b = H b) (s : DL.Sub H H') : Un fs [] H H' h h' where
  keep := fun b u q _ _ _ => k b u q
  slot := fun b u q _ _ _ => ⟨u.slots, k b u q⟩
  free := fun b u q n _ => by rw [e b u q]; exact n
  there := fun b u q _ => ⟨u, k b u q⟩
  tups := fun b xs q => s _ _ q
  frzs := fun b u xs q => s _ _ q
  tbls := fun b ps q => ⟨#[], by rw [s _ _ q]; simp⟩
end CbK
namespace DL
open PySem PySem.Spec PyProof.Rows L2
def pickD (l : List D) (a : List Nat) : List D := a.map fun k => (l[k]?).getD .non
def choD : List D → Option D
  | [.lst l, .int r] => if l.length ≤ 12 ∧ 0 ≤ r ∧ r ≤ 6 then some (.lst ((CbK.plc l.length r.toNat).map fun a => .tup (pickD l a))) else none
  | _ => none
section
variable {X : Cx} {e : Expr} {es : List Expr} {fl : Sl → Mem → Res (List Val)} {pos : Pos}
theorem Reps.pick {K : Fr} {F : Hp} : ∀ {l : List D} {as : List V}, Reps K F l as → ∀ k : Nat, Rep K F ((l[k]?).getD .non) ((as[k]?).getD .non)
  | [], [], .nil, k => .non
  | _ :: _, _ :: _, .cons h t, 0 => h
  | _ :: _, _ :: _, .cons h t, k + 1 => Reps.pick t k
theorem Reps.picks {K : Fr} {F : Hp} {l : List D} {as : List V} (r : Reps K F l as) : ∀ a : List Nat, Reps K F (pickD l a) (CbK.pickV as a)
  | [] => .nil
  | k :: a => .cons (r.pick k) (Reps.picks r a)
theorem list_comb (hc : X.calm = true) {pins : List (Addr × Obj)} {s : Shared} {σ : L2.St} {H : Hp} {vs : List V} {us : List Value} {Q : VK} {E : Value → Shared → Prop} (I : L2.Inv X pins σ H s) (r : Vals vs us) (h : rLD true X.K choD vs H Q) :
    wpAny (model X.prog X.w) X.A (call (.type "itertools.combinations") us) (fun v s1 => wpAny (model X.prog X.w) X.A (call (.type "list") [v]) (EP X pins σ Q) E s1) E s := by
  obtain ⟨F, xs, d, sb, tx, e, q⟩ := h
  match xs, e, tx with
  | [.lst l, .int r0], e, .cons (v := v1) t1 (.cons (v := v2) t2 .nil) =>
    have e : (if l.length ≤ 12 ∧ 0 ≤ r0 ∧ r0 ≤ 6 then some (D.lst ((CbK.plc l.length r0.toNat).map fun a => .tup (pickD l a))) else none) = some d := e
    by_cases hcd : l.length ≤ 12 ∧ 0 ≤ r0 ∧ r0 ≤ 6
    case neg => rw [if_neg hcd] at e; cases e
    rw [if_pos hcd] at e
    cases e
    obtain ⟨h12, h0, h6⟩ := hcd
    obtain ⟨n, rfl⟩ : ∃ n : Nat, r0 = (n : Int) := ⟨r0.toNat, by omega⟩
    rw [Int.toNat_natCast] at q
    have hn6 : n ≤ 6 := by omega
    obtain ⟨a, as, rfl, ha, ra, la⟩ := repT_lst sb t1
    have := repT_int t2
    subst this
    cases r with
    | cons ru1 rr =>
      cases rr with
      | cons ru2 rr =>
        cases rr
        cases ru1
        obtain ⟨tk, rfl⟩ := ru2
        obtain ⟨its, rv, pl, hz⟩ := I.list (SqL.of ha)
        have hil : its.length = l.length := by rw [← rv.length, ra.length]
        have C := CbK.chainC (n := l.length) (r := n) h12 hn6
        refine CbK.call_cb (items := its) (r := n) pl.isList (by rw [hil]; exact h12) hn6 fun h1 h' k1 k2 hP hI => ?_
        have I1 : L2.Inv X pins σ H { s with heap := h1 } := I.kept (t' := s.toks) k1
        rw [hil] at hI
        refine CbK.call_list_cb (s := { s with heap := h' }) (h0 := h1) (I.ok.hd hc) C hn6 hil (Nat.succ_ne_self _) (Nat.le_succ _) k2 hP hI fun h'' Ts c S Fa hl hS => ?_
        have hz1 : (Ts.zip (CbK.plc l.length n)).map (·.1) = Ts := List.map_fst_zip (Nat.le_of_eq hl)
        have hnd : ((Ts.zip (CbK.plc l.length n)).map (·.1)).Nodup := by rw [hz1]; exact Fa.nd
        have hfree : ∀ p ∈ Ts.zip (CbK.plc l.length n), H p.1 = none := fun p hp => by
          have hm : p.1 ∈ Ts := by rw [← hz1]; exact List.mem_map.mpr ⟨p, hp, rfl⟩
          exact I1.hok.fresh (Fa.new p.1 hm).1
        have hzat : ∀ p ∈ Ts.zip (CbK.plc l.length n), h''.get? p.1 = some (CbK.tupO its p.2) ∧ p.2.length ≤ 6 := fun p hp => by
          obtain ⟨i, hi⟩ := List.getElem?_of_mem hp
          obtain ⟨T, a1, e1, e2, rfl⟩ : ∃ T a1, Ts[i]? = some T ∧ (CbK.plc l.length n)[i]? = some a1 ∧ p = (T, a1) := by
            rw [List.getElem?_zip_eq_some] at hi
            exact ⟨p.1, p.2, hi.1, hi.2, rfl⟩
          obtain ⟨a2, e3, e4⟩ := Fa.tup i T e1
          rw [e2] at e3
          cases e3
          exact ⟨e4, by rw [C.len a1 (List.mem_of_getElem? e2)]; exact hn6⟩
        have n1 := CbK.putT_new (vs := as) (l := Ts.zip (CbK.plc l.length n)) hnd sb hfree
        have ok1 : HOk X.prog X.w (CbK.putT as (Ts.zip (CbK.plc l.length n)) H) h'' := CbK.putT_hok rv hnd (fun p hp => ⟨hfree p hp, hzat p hp⟩) (I1.hok.kept Fa.keep)
        have hSn : S ∉ (Ts.zip (CbK.plc l.length n)).map (·.1) := by
          rw [hz1]
          exact fun z => (Fa.new S z).2.1 rfl
        have hS0 : H S = none := I1.hok.fresh hS
        have hS1 : CbK.putT as (Ts.zip (CbK.plc l.length n)) H S = none := by rw [CbK.putT_ne hSn]; exact hS0
        have few := C.few
        have hlT : Ts.length ≤ 1000 := by omega
        have newL : ObjOk X.prog X.w (upd (CbK.putT as (Ts.zip (CbK.plc l.length n)) H) S (.lst (Ts.map V.ref))) h'' S (.lst (Ts.map V.ref)) := by
          refine ⟨by rw [List.length_map, sizeLine_eq]; omega, Ts.map Value.ref, _, ?_, Fa.lst⟩
          clear Fa hl hz1 hnd hfree hzat n1 ok1 hSn hS1 hlT
          induction Ts with
          | nil => exact .nil
          | cons T Ts ih => exact .cons rfl ih
        have ok2 := ok1.laidN (fun _ _ z => z) hS1 newL
        have un : Un X.fs [] H (upd (CbK.putT as (Ts.zip (CbK.plc l.length n)) H) S (.lst (Ts.map V.ref))) h1 h'' := by
          refine CbK.Un.ext Fa.keep (fun b o hb => ?_) (fun b o hb => ?_)
          · have hlt := Heap.lt_size hb
            have b1 : b ≠ S := Nat.ne_of_lt (Nat.lt_of_lt_of_le hlt hS)
            have b2 : b ∉ (Ts.zip (CbK.plc l.length n)).map (·.1) := by
              rw [hz1]
              exact fun z => Nat.lt_irrefl _ (Nat.lt_of_lt_of_le hlt (Fa.new b z).1)
            rw [upd_ne b1, CbK.putT_ne b2]
          · rw [upd_ne (fun z => by rw [z, hS0] at hb; cases hb)]
            exact n1.keep b o hb
        have I2 := I1.un (t' := s.toks) un ok2
        refine ⟨.ref S, _, I2, rfl, ?_⟩
        have n2 : NewF F H (CbK.putT as (Ts.zip (CbK.plc l.length n)) F) (upd (CbK.putT as (Ts.zip (CbK.plc l.length n)) H) S (.lst (Ts.map V.ref))) := by
          refine n1.trans ?_
          have n3 := NewF.alloc n1.sub hS1 (.lst (Ts.map V.ref))
          exact ⟨Sub.refl _, n1.sub.trans n3.keep, n3.keep, fun a o h => .inl h⟩
        have hF : CbK.putT as (Ts.zip (CbK.plc l.length n)) F S = none := by
          cases qq : CbK.putT as (Ts.zip (CbK.plc l.length n)) F S with
          | none => rfl
          | some o => rw [n1.sub S o qq] at hS1; cases hS1
        refine q _ _ S _ (Ts.map V.ref) n2 rfl upd_same hF hS0 ?_ ?_
        · rw [List.length_map]; exact Nat.le_trans few (by decide)
        · have raF := Reps.mono n1.fr ra
          have key : ∀ (Ts : List Addr) (cs : List (List Nat)) (G : Hp), Ts.length = cs.length → (∀ p ∈ Ts.zip cs, G p.1 = some (.tup (CbK.pickV as p.2)) ∧ p.2.length ≤ 6) → Reps X.K G l as → Reps X.K G (cs.map fun a => .tup (pickD l a)) (Ts.map V.ref) := by
            intro Ts
            induction Ts with
            | nil => intro cs G hl _ _; cases cs with | nil => exact .nil | cons _ _ => cases hl
            | cons T Ts ih =>
              intro cs G hl hp rG
              cases cs with
              | nil => cases hl
              | cons c cs =>
                obtain ⟨g1, g2⟩ := hp (T, c) (List.mem_cons_self ..)
                refine .cons (.tup ?_ (.inl (.inl g1)) (rG.picks c)) (ih cs G (by simpa using hl) (fun p h => hp p (List.mem_cons_of_mem _ h)) rG)
                unfold pickD
                rw [List.length_map]
                exact Nat.le_trans g2 (by decide)
          exact key Ts _ _ hl (fun p hp => ⟨CbK.putT_at hnd p hp, (hzat p hp).2⟩) raF
theorem p_comb {p1 p2 pos2 : Pos} (hm1 : X.mg "list" = none) (hm2 : X.mg "combinations" = some (.type "itertools.combinations")) (hc : X.calm = true) (ha : PA X (e :: es) (LA X.K fl)) (hg1 : Gl X "list" := by rfl) (hg2 : Gl X "combinations" := by rfl) (hpl : (e :: es).all plainArg = true := by rfl)
    (na : starEach [.Call (.Name "combinations" p2) (e :: es) [] pos2] X.env = (false, eval (.Call (.Name "combinations" p2) (e :: es) [] pos2) X.env) :: starEach [] X.env := by rfl) :
    PE X (.Call (.Name "list" p1) [.Call (.Name "combinations" p2) (e :: es) [] pos2] [] pos) (LE true X.K (evB choD fl)) := by
  rw [List.all_cons, Bool.and_eq_true] at hpl
  refine ⟨fun pins s σ H Q I h => ?_⟩
  have h := liftB h
  refine Call_ (ld_blt I hg1 hm1 boot_list ?_)
  refine PyProof.Rows.callWith_type1 (PyProof.Rows.args_cons ?_ na) na rfl
  refine Call_ (ld_glob I hg2 hm2 ?_)
  refine PyProof.Rows.callWith_type1 (thn (ha.run pos2 pins s σ H _ I h) fun us s1 ⟨vs, H1, I1, r1, q1⟩ => ?_) (star_plain hpl.1 es X.env) (star_any hpl.2)
  exact thn (list_comb (E := X.xe) hc I1 r1 q1) fun v s2 z => PyProof.Rows.args_nil z
end
end DL
end P_DLcn
section P_DLmt
set_option Elab.async false
set_option linter.all false
set_option maxRecDepth 100000
set_option maxHeartbeats 1000000
/-! list(range(n)), tuple(range(n)); min of tuples of numbers; tuples of numbers compared by <=. -/
namespace DL
open PySem PySem.Spec PyProof.Rows L2 PySem.SeqAt
open PySem.W (AlikeAll min_list_default alike alikeAll dataLt minD)
def lrD : D → Option D
  | .int n => if -16777216 ≤ n ∧ n ≤ 16777216 then some (.lst (upto n.toNat 0)) else none
  | _ => none
def trD : D → Option D
  | .int n => if -16777216 ≤ n ∧ n ≤ 16777216 then some (.tup (upto n.toNat 0)) else none
  | _ => none
section
variable {X : Cx} {a : Expr} {fa : Sl → Mem → Res Val} {pos : Pos}
theorem reps_upto {K : Fr} {F : Hp} : ∀ (n : Nat) (i : Int), Reps K F (upto n i) ((List.range n).map fun k => V.int (i + (k : Nat)))
  | 0, _ => .nil
  | n + 1, i => by
    rw [List.range_succ_eq_map, List.map_cons, List.map_map]
    show Reps K F (.int i :: upto n (i + 1)) _
    refine .cons ?_ ?_
    · have e : i + ((0 : Nat) : Int) = i := by omega
      rw [e]; exact .int i
    · have h := reps_upto (K := K) (F := F) n (i + 1)
      have e : (fun k => V.int (i + ((Nat.succ k : Nat) : Int))) = fun (k : Nat) => V.int (i + 1 + (k : Int)) := by
        funext k; congr 1; omega
      show Reps K F _ (List.map ((fun k => V.int (i + ((k : Nat) : Int))) ∘ Nat.succ) _)
      have e2 : ((fun k => V.int (i + ((k : Nat) : Int))) ∘ Nat.succ) = fun (k : Nat) => V.int (i + 1 + (k : Int)) := e
      rw [e2]; exact h
theorem upto_len : ∀ (n : Nat) (i : Int), (upto n i).length = n
  | 0, _ => rfl
  | n + 1, i => by show (upto n (i + 1)).length + 1 = _; rw [upto_len n]
theorem p_lrg {p p2 q : Pos} (hm : X.mg "list" = none) (hm2 : X.mg "range" = none) (ha : PE X a (LE false X.K fa)) (hc : X.calm = true := by rfl) (hg : Gl X "list" := by rfl) (hg2 : Gl X "range" := by rfl)
    (na : starEach [a] X.env = (false, eval a X.env) :: starEach [] X.env := by rfl) (nr : starEach [.Call (.Name "range" p2) [a] [] q] X.env = (false, eval (.Call (.Name "range" p2) [a] [] q) X.env) :: starEach [] X.env := by rfl) :
    PE X (.Call (.Name "list" p) [.Call (.Name "range" p2) [a] [] q] [] pos) (LE true X.K (ev1 lrD fa)) := by
  refine ⟨fun pins s σ H Q I h => ?_⟩
  have h := lift1 h
  refine Call_ (ld_blt I hg hm boot_list (PyProof.Rows.callWith_type1 (args_cons ?_ nr) nr))
  refine Call_ (ld_blt I hg2 hm2 boot_range (PyProof.Rows.callWith_type1 (args_cons (thn (ha.run pins s σ H _ I h) fun v s1 ⟨x, H1, I1, r1, q1⟩ => args_nil ?_) na) na))
  obtain ⟨F3, x3, d, sb, rx, hp3, q⟩ := q1
  cases x3 <;> first | (cases hp3; done) | skip
  rename_i n
  have hp3 : (if -16777216 ≤ n ∧ n ≤ 16777216 then some (D.lst (upto n.toNat 0)) else none) = some d := hp3
  by_cases hsm : -16777216 ≤ n ∧ n ≤ 16777216
  case neg => rw [if_neg hsm] at hp3; cases hp3
  rw [if_pos hsm] at hp3
  cases hp3
  have := repT_int rx
  subst this
  obtain ⟨t, rfl⟩ := r1
  refine call_range_1 ?_
  have I2 : L2.Inv X pins σ H1 { s1 with heap := s1.heap.push { cls := .type "range", data := .fields #[.int 0 s1.toks, .int n t, .int 1 (s1.toks + 1)] }, toks := s1.toks + 1 + 1 } := I1.kept fun b u e => Heap.get?_push_of_some _ e
  refine args_nil ?_
  refine call_list_range (a := 0) (b := n) (c := 1) (n := (n - 0).toNat) (I1.ok.hd hc) (IsRange.new _ _ _ _ _ _ _) (small_one (by omega) (by omega) (by omega) (by omega)) (rangeSize_nat 0 n) (by show _ ≤ 16777216; omega) fun h' tk acc c' hk e' hi => ?_
  have hl : (rgV 0 n).length ≤ sizeLine := by rw [rgV_length, sizeLine_eq]; omega
  have e0 : (n - 0).toNat = n.toNat := by rw [Int.sub_zero]
  refine ⟨.ref _, upd H1 _ (.lst (rgV 0 n)), I2.laid hk (Nat.le_refl _) (show ObjOk X.prog X.w _ _ _ (.lst (rgV 0 n)) from ⟨hl, acc.toList, c', vals_rg hi, by rw [Array.toArray_toList]; exact e'⟩), rfl, ?_⟩
  refine postNew sb q (by rw [upto_len]; show _ ≤ 16777216; omega) ?_ (I2.hok.fresh (Nat.le_refl _))
  have := reps_upto (K := X.K) (F := F3) n.toNat 0
  unfold rgV
  rw [e0]; exact this
theorem p_trg {p p2 q : Pos} (hm : X.mg "tuple" = none) (hm2 : X.mg "range" = none) (ha : PE X a (LE false X.K fa)) (hc : X.calm = true := by rfl) (hg : Gl X "tuple" := by rfl) (hg2 : Gl X "range" := by rfl)
    (na : starEach [a] X.env = (false, eval a X.env) :: starEach [] X.env := by rfl) (nr : starEach [.Call (.Name "range" p2) [a] [] q] X.env = (false, eval (.Call (.Name "range" p2) [a] [] q) X.env) :: starEach [] X.env := by rfl) :
    PE X (.Call (.Name "tuple" p) [.Call (.Name "range" p2) [a] [] q] [] pos) (LE false X.K (ev1 trD fa)) := by
  refine ⟨fun pins s σ H Q I h => ?_⟩
  have h := lift1 h
  refine Call_ (ld_blt I hg hm boot_tuple (PyProof.Rows.callWith_type1 (args_cons ?_ nr) nr))
  refine Call_ (ld_blt I hg2 hm2 boot_range (PyProof.Rows.callWith_type1 (args_cons (thn (ha.run pins s σ H _ I h) fun v s1 ⟨x, H1, I1, r1, q1⟩ => args_nil ?_) na) na))
  obtain ⟨F3, x3, d, sb, rx, hp3, q⟩ := q1
  cases x3 <;> first | (cases hp3; done) | skip
  rename_i n
  have hp3 : (if -16777216 ≤ n ∧ n ≤ 16777216 then some (D.tup (upto n.toNat 0)) else none) = some d := hp3
  by_cases hsm : -16777216 ≤ n ∧ n ≤ 16777216
  case neg => rw [if_neg hsm] at hp3; cases hp3
  rw [if_pos hsm] at hp3
  cases hp3
  have := repT_int rx
  subst this
  obtain ⟨t, rfl⟩ := r1
  refine call_range_1 ?_
  have I2 : L2.Inv X pins σ H1 { s1 with heap := s1.heap.push { cls := .type "range", data := .fields #[.int 0 s1.toks, .int n t, .int 1 (s1.toks + 1)] }, toks := s1.toks + 1 + 1 } := I1.kept fun b u e => Heap.get?_push_of_some _ e
  refine args_nil ?_
  refine call_tuple_range (a := 0) (b := n) (c := 1) (n := (n - 0).toNat) (I1.ok.hd hc) (IsRange.new _ _ _ _ _ _ _) (small_one (by omega) (by omega) (by omega) (by omega)) (rangeSize_nat 0 n) (by show _ ≤ 16777216; omega) fun h' tk acc hk hi => ?_
  have hl : (rgV 0 n).length ≤ sizeLine := by rw [rgV_length, sizeLine_eq]; omega
  have e0 : (n - 0).toNat = n.toNat := by rw [Int.sub_zero]
  have I3 : L2.Inv X pins σ H1 { s1 with heap := h', toks := tk } := I2.kept hk
  refine ⟨.ref h'.objs.size, upd H1 h'.objs.size (.tup (rgV 0 n)), I3.laid (t' := tk) (fun c o e => Heap.get?_push_of_some _ e) (Nat.le_refl _) (show ObjOk X.prog X.w _ _ _ (.tup (rgV 0 n)) from ⟨hl, acc.toList, vals_rg hi, by rw [Array.toArray_toList]; exact IsTup.new _ _⟩), rfl, ?_⟩
  refine postTup sb q (by rw [upto_len]; show _ ≤ 16777216; omega) ?_ (I3.hok.fresh (Nat.le_refl _))
  have := reps_upto (K := X.K) (F := F3) n.toNat 0
  unfold rgV
  rw [e0]; exact this
end
/-! min of tuples -/
def isI : D → Bool
  | .int _ => true
  | _ => false
def isIT (r : Nat) : D → Bool
  | .tup xs => decide (xs.length = r) && xs.all isI
  | _ => false
def foldT (x : D) (l : List D) : D := l.foldl (fun b z => if dataLt (toPy z) (toPy b) then z else b) x
def minT : List D → List D → Option D
  | [.lst []], [.non] => some .non
  | [.lst (.tup xs :: l)], [.non] => if (D.tup xs :: l).all (isIT xs.length) = true then some (foldT (.tup xs) l) else none
  | _, _ => none
theorem foldT_py : ∀ (l : List D) (x : D), toPy (foldT x l) = minD (toPy x) (toPys l)
  | [], _ => rfl
  | z :: l, x => by
    show toPy (foldT (if dataLt (toPy z) (toPy x) then z else x) l) = List.foldl _ (if dataLt (toPy z) (toPy x) = true then toPy z else toPy x) (toPys l)
    rw [foldT_py l]
    by_cases h : dataLt (toPy z) (toPy x) = true
    · rw [if_pos h, if_pos h]; rfl
    · rw [if_neg h, if_neg h]; rfl
theorem foldT_mem : ∀ (l : List D) (x : D), foldT x l = x ∨ foldT x l ∈ l
  | [], _ => .inl rfl
  | z :: l, x => by
    show foldT (if dataLt (toPy z) (toPy x) then z else x) l = x ∨ foldT (if dataLt (toPy z) (toPy x) then z else x) l ∈ z :: l
    by_cases h : dataLt (toPy z) (toPy x) = true
    · rw [if_pos h]
      rcases foldT_mem l z with e | e
      · exact .inr (by rw [e]; exact List.mem_cons_self ..)
      · exact .inr (List.mem_cons_of_mem _ e)
    · rw [if_neg h]
      rcases foldT_mem l x with e | e
      · exact .inl e
      · exact .inr (List.mem_cons_of_mem _ e)
theorem ints_plain : ∀ {xs : List D}, xs.all isI = true → D.plains xs = true ∧ PyData.depthAll (toPys xs) = 0
  | [], _ => ⟨rfl, rfl⟩
  | x :: xs, h => by
    rw [List.all_cons, Bool.and_eq_true] at h
    obtain ⟨h1, h2⟩ := ints_plain h.2
    cases x <;> first | (cases h.1; done) | skip
    exact ⟨by show (true && D.plains xs) = true; rw [h1]; rfl, by show max 0 (PyData.depthAll (toPys xs)) = 0; rw [h2]; rfl⟩
theorem ints_alike : ∀ {xs ys : List D}, xs.all isI = true → ys.all isI = true → alikeAll (toPys xs) (toPys ys) = true
  | [], _, _, _ => by show alikeAll [] _ = true; unfold alikeAll; rfl
  | x :: xs, [], _, _ => rfl
  | x :: xs, y :: ys, h, g => by
    rw [List.all_cons, Bool.and_eq_true] at h g
    cases x <;> first | (cases h.1; done) | skip
    cases y <;> first | (cases g.1; done) | skip
    show (true && alikeAll (toPys xs) (toPys ys)) = true
    rw [ints_alike h.2 g.2]; rfl
theorem isIT_tup {r : Nat} {x : D} (h : isIT r x = true) : ∃ xs, x = .tup xs ∧ xs.length = r ∧ xs.all isI = true := by
  cases x <;> first | (cases h; done) | skip
  rename_i xs
  have h : (decide (xs.length = r) && xs.all isI) = true := h
  rw [Bool.and_eq_true, decide_eq_true_eq] at h
  exact ⟨xs, rfl, h.1, h.2⟩
theorem its_facts {r : Nat} : ∀ {l : List D}, l.all (isIT r) = true → D.plains l = true ∧ PyData.depthAll (toPys l) ≤ 1
  | [], _ => ⟨rfl, Nat.zero_le _⟩
  | x :: l, h => by
    rw [List.all_cons, Bool.and_eq_true] at h
    obtain ⟨h1, h2⟩ := its_facts h.2
    obtain ⟨xs, rfl, _, h3⟩ := isIT_tup h.1
    obtain ⟨g1, g2⟩ := ints_plain h3
    refine ⟨by show (D.plains xs && D.plains l) = true; rw [g1, h1]; rfl, ?_⟩
    show max (PyData.depth (.tuple (toPys xs))) (PyData.depthAll (toPys l)) ≤ 1
    have : PyData.depth (.tuple (toPys xs)) ≤ 1 := by
      show PyData.depthAll (toPys xs) + 1 ≤ 1
      omega
    omega
section
variable {X : Cx} {fl fkl : Sl → Mem → Res (List Val)} {e : Expr} {es : List Expr} {kws : List Keyword} {pos : Pos}
theorem bk_minT {k : Nat} (hc : X.calm = true) (hr : Room k X.A) : CallRK X (.builtin "min") ["default"] (rKD X.K minT) := by
  intro pins s σ H xs zs us ws Q I r rz ⟨F, dx, dy, d, sb, tx, ty, e, q⟩
  match dx, dy, e, tx, ty with
  | [.lst []], [.non], e, tx, ty =>
    cases (Option.some.inj e)
    obtain ⟨v, rfl, rx⟩ := repTs_1 tx
    obtain ⟨z, rfl, ry⟩ := repTs_1 ty
    obtain ⟨a, as, rfl, ha, ra, la⟩ := repT_lst sb rx
    rw [Vals.ref1 r]
    obtain ⟨w, rfl, rw'⟩ := rz.one
    obtain ⟨its, rv, pl, hz⟩ := I.list (SqL.of ha)
    obtain ⟨bs, rd⟩ := readsL I sb ra rv rfl
    refine min_list_default (xs := toPys []) (I.ok.hd hc) pl.isList (by rw [List.toList_toArray]; exact rd) alike_nil (by have := hr.un; show X.A.units + 1 + 0 < cLine; omega) (fun _ h' tk hk => ?_) (fun y ys i v h' tk bs e => by cases e)
    cases repT_non ry
    exact ⟨.non, H, I.kept hk, rw', postSame sb q .non⟩
  | [.lst (.tup ys :: l)], [.non], e, tx, ty =>
    have e : (if (D.tup ys :: l).all (isIT ys.length) = true then some (foldT (.tup ys) l) else none) = some d := e
    by_cases hg : (D.tup ys :: l).all (isIT ys.length) = true
    case neg => rw [if_neg hg] at e; cases e
    rw [if_pos hg] at e
    cases e
    obtain ⟨v, rfl, rx⟩ := repTs_1 tx
    obtain ⟨z, rfl, ry⟩ := repTs_1 ty
    obtain ⟨a, as, rfl, ha, ra, la⟩ := repT_lst sb rx
    rw [Vals.ref1 r]
    obtain ⟨w, rfl, rw'⟩ := rz.one
    obtain ⟨its, rv, pl, hz⟩ := I.list (SqL.of ha)
    obtain ⟨f3, f2⟩ := its_facts hg
    have f1 : AlikeAll (toPys (.tup ys :: l)) := by
      refine ⟨fun x hx y hy => ?_, fun x hx => ?_⟩
      · obtain ⟨x', hx', rfl⟩ := toPys_mem hx
        obtain ⟨y', hy', rfl⟩ := toPys_mem hy
        obtain ⟨a1, rfl, _, h1⟩ := isIT_tup (List.all_eq_true.mp hg x' hx')
        obtain ⟨a2, rfl, _, h2⟩ := isIT_tup (List.all_eq_true.mp hg y' hy')
        exact ints_alike h1 h2
      · obtain ⟨x', hx', rfl⟩ := toPys_mem hx
        obtain ⟨a1, rfl, _, h1⟩ := isIT_tup (List.all_eq_true.mp hg x' hx')
        exact fun z => nomatch z
    have f4 : (foldT (.tup ys) l).plain = true := by
      have hm : foldT (.tup ys) l ∈ D.tup ys :: l := by
        rcases foldT_mem l (.tup ys) with e | e
        · rw [e]; exact List.mem_cons_self ..
        · exact List.mem_cons_of_mem _ e
      exact mem_plains f3 hm
    obtain ⟨bs, rd⟩ := readsL I sb ra rv f3
    refine min_list_default (xs := toPys (.tup ys :: l)) (I.ok.hd hc) pl.isList (by rw [List.toList_toArray]; exact rd) f1 (by have := hr.un; show X.A.units + 1 + PyData.depthAll (toPys (.tup ys :: l)) < cLine; omega) (fun e => by cases e) (fun y zs i u h' tk cs e hu hrd hk => ?_)
    obtain ⟨x', r', e1, rfl, rfl⟩ := toPys_cons e
    cases e1
    rw [← foldT_py] at hrd
    exact pick_item I sb ra rv (by simpa using hu) hrd f4 f3 hk q
theorem p_dflt_minT {k : Nat} {p : Pos} (hr : Room k X.A) (hm : X.mg "min" = none) (ha : PA X (e :: es) (LA X.K fl)) (hk : PK X kws (LA X.K fkl)) (hg : Gl X "min" := by rfl) (hc : X.calm = true := by rfl)
    (he : backTo pos (starEach (e :: es) X.env) = (false, eval e X.env) :: backTo pos (starEach es X.env) := by rfl) (hpl : (backTo pos (starEach (e :: es) X.env)).any (·.1) = false := by rfl)
    (hall : (backToKw pos (keywordEach kws X.env)).all (·.1.isSome) = true := by rfl) (hnone : (backToKw pos (keywordEach kws X.env)).any (·.1.isNone) = false := by rfl) (hks : (backToKw pos (keywordEach kws X.env)).filterMap (·.1) = [(("default" : Str))] := by rfl) :
    PE X (.Call (.Name "min" p) (e :: es) kws pos) (LE false X.K (evBK minT fl fkl)) :=
  (pe_callBK (bk_minT hc hr) hg hm PyProof.Rows.boot_min ha hk (by decide) (by decide) he hpl hall hnone hks).imp fun _ _ _ h => liftBK h
end
/-! tuples compared -/
def intOf : D → Int
  | .int i => i
  | _ => 0
def leTD : D → D → Option D
  | .tup x, .tup y => if (x.all isI && y.all isI) = true then some (.bl (lexLeI (x.map intOf) (y.map intOf))) else none
  | x, y => cmpV .le x y
theorem lexAt_le (ns ms : List Int) : ∀ (k i : Nat), i + k = min ns.length ms.length → Ob.lexAt (fun j => decide (ns.getD j 0 = ms.getD j 0)) (fun j => decide (ns.getD j 0 ≤ ms.getD j 0)) (decide (ns.length ≤ ms.length)) i k = lexLeI (ns.drop i) (ms.drop i)
  | 0, i, h => by
    rw [Ob.lexAt_zero]
    by_cases hl : ns.length ≤ ms.length
    · have e : ns.drop i = [] := List.drop_eq_nil_of_le (by omega)
      rw [e, decide_eq_true hl]; rfl
    · have e : ms.drop i = [] := List.drop_eq_nil_of_le (by omega)
      have e2 : i < ns.length := by omega
      rw [e, decide_eq_false hl, List.drop_eq_getElem_cons e2]; rfl
  | k + 1, i, h => by
    have h1 : i < ns.length := by omega
    have h2 : i < ms.length := by omega
    rw [Ob.lexAt_succ, List.drop_eq_getElem_cons h1, List.drop_eq_getElem_cons h2, lexAt_le ns ms k (i + 1) (by omega)]
    have g1 : ns.getD i 0 = ns[i] := by simp [h1]
    have g2 : ms.getD i 0 = ms[i] := by simp [h2]
    show (if decide (ns.getD i 0 = ms.getD i 0) = true then _ else decide (ns.getD i 0 ≤ ms.getD i 0)) = (if ns[i] = ms[i] then _ else decide (ns[i] ≤ ms[i]))
    rw [g1, g2]
    by_cases e : ns[i] = ms[i]
    · rw [if_pos (decide_eq_true e), if_pos e]
    · rw [if_neg (by simpa using e), if_neg e]
theorem reps_isI {K : Fr} {F : Hp} : ∀ {l : List D} {vs : List V}, Reps K F l vs → l.all isI = true → vs = (l.map intOf).map V.int
  | [], _, .nil, _ => rfl
  | x :: l, _, .cons h t, g => by
    rw [List.all_cons, Bool.and_eq_true] at g
    rw [reps_isI t g.2]
    cases x <;> first | (cases g.1; done) | skip
    cases h
    rfl
theorem ob_leT {X : Cx} {k : Nat} (hr : Room k X.A) : OpR X (compareOp .LtE) (r2D false X.K leTD) := by
  intro pins s σ H x y v u Q I rx ry ⟨F, dx, dy, d, sb, tx, ty, e, q⟩
  by_cases hd : (∃ l k, dx = .tup l ∧ dy = .tup k)
  · obtain ⟨l, k2, rfl, rfl⟩ := hd
    have e : (if (l.all isI && k2.all isI) = true then some (D.bl (lexLeI (l.map intOf) (k2.map intOf))) else none) = some d := e
    by_cases hg : (l.all isI && k2.all isI) = true
    case neg => rw [if_neg hg] at e; cases e
    rw [if_pos hg] at e
    cases e
    rw [Bool.and_eq_true] at hg
    obtain ⟨_, a, as, rfl, ha, ra, la⟩ := repT_tup tx
    obtain ⟨_, b, bs, rfl, hb, rb, lb⟩ := repT_tup ty
    have e1 := reps_isI ra hg.1
    have e2 := reps_isI rb hg.2
    subst e1 e2
    refine op_leT (by have := hr.un; omega) pins s σ H _ _ v u Q I rx ry ⟨a, b, _, _, rfl, rfl, sb.sqT ha, sb.sqT hb, ?_⟩
    rw [lexAt_le _ _ _ 0 (by omega), List.drop_zero, List.drop_zero]
    exact postSame sb q (.bl _)
  · have e2 : leTD dx dy = cmpV .le dx dy := by
      cases dx <;> cases dy <;> first | rfl | exact absurd ⟨_, _, rfl, rfl⟩ hd
    rw [e2] at e
    exact ob_le pins s σ H x y v u Q I rx ry ⟨F, dx, dy, d, sb, tx, ty, e, q⟩
end DL
end P_DLmt
section P_K07A
set_option Elab.async false
set_option linter.all false
set_option maxRecDepth 100000
set_option maxHeartbeats 4000000
namespace K07
open PySem PySem.Spec PyProof.Rows L2 DL
def top (i : Nat) : Stmt := PySem.Challenge.pw_sockrows_k07_whole_patterns_of_anything.main.body.getD i (.Pass ⟨0, 0, 0, 0⟩)
abbrev s__law_colours : Stmt := top 50
abbrev s__law_named_rows : Stmt := top 53
abbrev s__law_named : Stmt := top 51
abbrev s__law_take : Stmt := top 45
abbrev s__law_drawn_pattern : Stmt := top 55
abbrev s__law_drawn_row : Stmt := top 54
abbrev s__law_is_row : Stmt := top 49
abbrev s__law_is_pattern : Stmt := top 52
abbrev s__law_is : Stmt := top 47
abbrev s_is_text_of : Stmt := top 4
abbrev s_is_rowed : Stmt := top 9
abbrev s_check_row : Stmt := top 28
abbrev s_colours_by : Stmt := top 12
abbrev s_named_by : Stmt := top 13
abbrev s_is_named : Stmt := top 10
abbrev s_is_patterned : Stmt := top 11
abbrev s_check_pattern : Stmt := top 29
abbrev s_check_row_pattern : Stmt := top 34
abbrev s_socks_at : Stmt := top 16
abbrev s_places_held : Stmt := top 17
abbrev s_does_hold_by : Stmt := top 18
abbrev s_does_hold : Stmt := top 36
abbrev s_first_places_by : Stmt := top 19
abbrev s_first_places : Stmt := top 37
abbrev s_hold_count : Stmt := top 38
abbrev s_named : Stmt := top 42
abbrev s_is_whole : Stmt := top 2
abbrev s_is_between : Stmt := top 3
abbrev s_check_size : Stmt := top 30
abbrev s_patterns_by : Stmt := top 21
abbrev s_patterns_of : Stmt := top 40
abbrev s_is_pattern : Stmt := top 35
abbrev s_all_named : Stmt := top 14
abbrev s_free_of : Stmt := top 20
abbrev s_free_rows : Stmt := top 39
abbrev s__law_refused : Stmt := top 57
abbrev s__law_value_right : Stmt := top 58
abbrev s__law_pick : Stmt := top 46
abbrev s__law_odd : Stmt := top 48
abbrev s__law_bent_pattern : Stmt := top 56
abbrev s__law_right : Stmt := top 59
abbrev s__law_well : Stmt := top 44
abbrev s_law : Stmt := top 60
structure Tx (K : PySem.W.Frag) (mg : Str → Option Value) : Prop where
  d__law_colours : ∃ f fd, mg "_law_colours" = some (.ref f) ∧ Fun K "_law_colours" "_law_colours" s__law_colours f fd
  d__law_named_rows : ∃ f fd, mg "_law_named_rows" = some (.ref f) ∧ Fun K "_law_named_rows" "_law_named_rows" s__law_named_rows f fd
  d__law_named : ∃ f fd, mg "_law_named" = some (.ref f) ∧ Fun K "_law_named" "_law_named" s__law_named f fd
  d__law_take : ∃ f fd, mg "_law_take" = some (.ref f) ∧ Fun K "_law_take" "_law_take" s__law_take f fd
  d__law_drawn_pattern : ∃ f fd, mg "_law_drawn_pattern" = some (.ref f) ∧ Fun K "_law_drawn_pattern" "_law_drawn_pattern" s__law_drawn_pattern f fd
  d__law_drawn_row : ∃ f fd, mg "_law_drawn_row" = some (.ref f) ∧ Fun K "_law_drawn_row" "_law_drawn_row" s__law_drawn_row f fd
  d__law_is_row : ∃ f fd, mg "_law_is_row" = some (.ref f) ∧ Fun K "_law_is_row" "_law_is_row" s__law_is_row f fd
  d__law_is_pattern : ∃ f fd, mg "_law_is_pattern" = some (.ref f) ∧ Fun K "_law_is_pattern" "_law_is_pattern" s__law_is_pattern f fd
  d__law_is : ∃ f fd, mg "_law_is" = some (.ref f) ∧ Fun K "_law_is" "_law_is" s__law_is f fd
  d_is_text_of : ∃ f fd, mg "is_text_of" = some (.ref f) ∧ Fun K "is_text_of" "is_text_of" s_is_text_of f fd
  d_is_rowed : ∃ f fd, mg "is_rowed" = some (.ref f) ∧ Fun K "is_rowed" "is_rowed" s_is_rowed f fd
  d_check_row : ∃ f fd, mg "check_row" = some (.ref f) ∧ Fun K "check_row" "check_row" s_check_row f fd
  d_colours_by : ∃ f fd, mg "colours_by" = some (.ref f) ∧ Fun K "colours_by" "colours_by" s_colours_by f fd
  d_named_by : ∃ f fd, mg "named_by" = some (.ref f) ∧ Fun K "named_by" "named_by" s_named_by f fd
  d_is_named : ∃ f fd, mg "is_named" = some (.ref f) ∧ Fun K "is_named" "is_named" s_is_named f fd
  d_is_patterned : ∃ f fd, mg "is_patterned" = some (.ref f) ∧ Fun K "is_patterned" "is_patterned" s_is_patterned f fd
  d_check_pattern : ∃ f fd, mg "check_pattern" = some (.ref f) ∧ Fun K "check_pattern" "check_pattern" s_check_pattern f fd
  d_check_row_pattern : ∃ f fd, mg "check_row_pattern" = some (.ref f) ∧ Fun K "check_row_pattern" "check_row_pattern" s_check_row_pattern f fd
  d_socks_at : ∃ f fd, mg "socks_at" = some (.ref f) ∧ Fun K "socks_at" "socks_at" s_socks_at f fd
  d_places_held : ∃ f fd, mg "places_held" = some (.ref f) ∧ Fun K "places_held" "places_held" s_places_held f fd
  d_does_hold_by : ∃ f fd, mg "does_hold_by" = some (.ref f) ∧ Fun K "does_hold_by" "does_hold_by" s_does_hold_by f fd
  d_does_hold : ∃ f fd, mg "does_hold" = some (.ref f) ∧ Fun K "does_hold" "does_hold" s_does_hold f fd
  d_first_places_by : ∃ f fd, mg "first_places_by" = some (.ref f) ∧ Fun K "first_places_by" "first_places_by" s_first_places_by f fd
  d_first_places : ∃ f fd, mg "first_places" = some (.ref f) ∧ Fun K "first_places" "first_places" s_first_places f fd
  d_hold_count : ∃ f fd, mg "hold_count" = some (.ref f) ∧ Fun K "hold_count" "hold_count" s_hold_count f fd
  d_named : ∃ f fd, mg "named" = some (.ref f) ∧ Fun K "named" "named" s_named f fd
  d_is_whole : ∃ f fd, mg "is_whole" = some (.ref f) ∧ Fun K "is_whole" "is_whole" s_is_whole f fd
  d_is_between : ∃ f fd, mg "is_between" = some (.ref f) ∧ Fun K "is_between" "is_between" s_is_between f fd
  d_check_size : ∃ f fd, mg "check_size" = some (.ref f) ∧ Fun K "check_size" "check_size" s_check_size f fd
  d_patterns_by : ∃ f fd, mg "patterns_by" = some (.ref f) ∧ Fun K "patterns_by" "patterns_by" s_patterns_by f fd
  d_patterns_of : ∃ f fd, mg "patterns_of" = some (.ref f) ∧ Fun K "patterns_of" "patterns_of" s_patterns_of f fd
  d_is_pattern : ∃ f fd, mg "is_pattern" = some (.ref f) ∧ Fun K "is_pattern" "is_pattern" s_is_pattern f fd
  d_all_named : ∃ f fd, mg "all_named" = some (.ref f) ∧ Fun K "all_named" "all_named" s_all_named f fd
  d_free_of : ∃ f fd, mg "free_of" = some (.ref f) ∧ Fun K "free_of" "free_of" s_free_of f fd
  d_free_rows : ∃ f fd, mg "free_rows" = some (.ref f) ∧ Fun K "free_rows" "free_rows" s_free_rows f fd
  d__law_refused : ∃ f fd, mg "_law_refused" = some (.ref f) ∧ Fun K "_law_refused" "_law_refused" s__law_refused f fd
  d__law_value_right : ∃ f fd, mg "_law_value_right" = some (.ref f) ∧ Fun K "_law_value_right" "_law_value_right" s__law_value_right f fd
  d__law_pick : ∃ f fd, mg "_law_pick" = some (.ref f) ∧ Fun K "_law_pick" "_law_pick" s__law_pick f fd
  d__law_odd : ∃ f fd, mg "_law_odd" = some (.ref f) ∧ Fun K "_law_odd" "_law_odd" s__law_odd f fd
  d__law_bent_pattern : ∃ f fd, mg "_law_bent_pattern" = some (.ref f) ∧ Fun K "_law_bent_pattern" "_law_bent_pattern" s__law_bent_pattern f fd
  d__law_right : ∃ f fd, mg "_law_right" = some (.ref f) ∧ Fun K "_law_right" "_law_right" s__law_right f fd
  d__law_well : ∃ f fd, mg "_law_well" = some (.ref f) ∧ Fun K "_law_well" "_law_well" s__law_well f fd
  d_law : ∃ f fd, mg "law" = some (.ref f) ∧ Fun K "law" "law" s_law f fd
  b_abs : mg "abs" = none
  b_all : mg "all" = none
  b_bool : mg "bool" = none
  b_dict : mg "dict" = none
  b_divmod : mg "divmod" = none
  b_enumerate : mg "enumerate" = none
  b_int : mg "int" = none
  b_isinstance : mg "isinstance" = none
  b_len : mg "len" = none
  b_list : mg "list" = none
  b_max : mg "max" = none
  b_min : mg "min" = none
  b_range : mg "range" = none
  b_sorted : mg "sorted" = none
  b_str : mg "str" = none
  b_sum : mg "sum" = none
  b_tuple : mg "tuple" = none
  c_COLOURS : Cst K mg "COLOURS" (.str ['a', 'b', 'c', 'd', 'e', 'f'])
  c_LONGEST_LISTED : Cst K mg "LONGEST_LISTED" (.int 4)
  c_LONGEST_PATTERN : Cst K mg "LONGEST_PATTERN" (.int 6)
  c_LONGEST_TOLD : Cst K mg "LONGEST_TOLD" (.int 6)
  c_MOST_SOCKS : Cst K mg "MOST_SOCKS" (.int 12)
  y_combinations : mg "combinations" = some (.type "itertools.combinations")
  b_isinstance' : mg "isinstance" = none
  x_ivr : ∃ C fI S, IvR K mg C fI S
  x_ivp : ∃ C fI S, IvP K mg C fI S
end K07
end P_K07A
section P_K07G
set_option Elab.async false
set_option linter.all false
set_option maxRecDepth 100000
set_option maxHeartbeats 4000000
namespace K07
open DL
def l__law_colours_1 : Sl → Mem → Res Flow := (evSeq (evAsg (ev2 (binD .add) (vV 1) (evIf (tst (ev2 (cmpV .notin) (vV 2) (vV 1))) (vV 2) (vC (.str [])))) (stN 1)) sPass)
def g__law_colours : List Val → Mem → Res Val := defG false 1 2 fun bs => (evSeq (evAsg (vC (.str [])) (stN 1)) (evSeq (evFor (.n 2) (evIt (vV 0)) l__law_colours_1) (evSeq (sRet (vV 1)) sPass)))
theorem ln__law_colours : ∀ xs M x M', g__law_colours xs M = .ok x M' → xs.length = 1 := defG_len
def e__law_named_rows_1 : Sl → Mem → Res Val := (ev2 (binD .add) (vV 4) (vV 5))
def l__law_named_rows_1 : Sl → Mem → Res Flow := (evSeq (evAsg (ev2 (binD .add) (vV 3) (evLc [5] (.n 5) (evIt (ev2 (fun x y => sliceD x none (some y)) (vC (.str ['a', 'b', 'c', 'd', 'e', 'f'])) (ev2 (binD .add) (evB (biD .len) (evCons (evCall g__law_colours (evCons (vV 4) evNil)) evNil)) (vC (.int 1))))) ifs0 e__law_named_rows_1)) (stN 3)) sPass)
def l__law_named_rows_2 : Sl → Mem → Res Flow := (evSeq (evAsg (evLst evDNil) (stN 3)) (evSeq (evFor (.n 4) (evIt (vV 1)) l__law_named_rows_1) (evSeq (evAsg (vV 3) (stN 1)) sPass)))
def g__law_named_rows : List Val → Mem → Res Val := defG false 1 5 fun bs => (evSeq (evAsg (evLst (evConsD (vC (.str [])) evDNil)) (stN 1)) (evSeq (evFor (.n 2) (evRng (evCons (vV 0) evNil)) l__law_named_rows_2) (evSeq (sRet (vV 1)) sPass)))
theorem ln__law_named_rows : ∀ xs M x M', g__law_named_rows xs M = .ok x M' → xs.length = 1 := defG_len
def e__law_named_1 : Sl → Mem → Res Val := (ev2 subD (vC (.str ['a', 'b', 'c', 'd', 'e', 'f'])) (evM (meD .index) (vV 1) (evCons (vV 2) evNil)))
def g__law_named : List Val → Mem → Res Val := defG false 1 2 fun bs => (evSeq (evAsg (evCall g__law_colours (evCons (vV 0) evNil)) (stN 1)) (evSeq (sRet (evM (meD .join) (vC (.str [])) (evCons (evLc [2] (.n 2) (evIt (vV 0)) ifs0 e__law_named_1) evNil))) sPass))
theorem ln__law_named : ∀ xs M x M', g__law_named xs M = .ok x M' → xs.length = 1 := defG_len
def g__law_take : List Val → Mem → Res Val := defG false 2 2 fun bs => (evSeq (evIte (tst (ev2 (cmpV .gt) (ev2 subD (vV 0) (vC (.int 0))) (vC (.int 0)))) (evSeq (evAsg (evB (biD .divmod) (evCons (ev2 subD (vV 0) (vC (.int 0))) (evCons (vV 1) evNil))) (stTup 2 (stCons (stSub 0 (vC (.int 0))) (stCons (stN 2) stNil)))) (evSeq (sRet (vV 2)) sPass)) sPass) (evSeq (evAsg (ev2 (binD .add) (ev2 subD (vV 0) (vC (.int 2))) (vC (.int 1))) (stSub 0 (vC (.int 2)))) (evSeq (evAsg (ev2 (binD .add) (ev2 (binD .mod) (evB (biD .int) (evCons (ev2 subD (vV 0) (vC (.int 1))) evNil)) (vC (.int 28657))) (vC (.int 40009))) (stN 3)) (evSeq (evAsg (ev2 (binD .mod) (evB (biD .int) (evCons (ev2 (binD .add) (ev2 (binD .add) (ev2 (binD .mul) (ev2 subD (vV 0) (vC (.int 1))) (vV 3)) (ev2 (binD .mul) (vC (.int 50023)) (ev2 subD (vV 0) (vC (.int 2))))) (vC (.int 17))) evNil)) (vC (.int 2147483563))) (stSub 0 (vC (.int 1)))) (evSeq (sRet (ev2 (binD .mod) (evB (biD .int) (evCons (ev2 (binD .fdiv) (ev2 subD (vV 0) (vC (.int 1))) (vC (.int 83))) evNil)) (vV 1))) sPass)))))
theorem ln__law_take : ∀ xs M x M', g__law_take xs M = .ok x M' → xs.length = 2 := defG_len
def e__law_drawn_pattern_1 : Sl → Mem → Res Val := (ev2 subD (vC (.str ['a', 'b', 'c', 'd', 'e', 'f'])) (evCall g__law_take (evCons (vV 0) (evCons (vC (.int 3)) evNil))))
def g__law_drawn_pattern : List Val → Mem → Res Val := defG false 2 2 fun bs => (evSeq (evAsg (evM (meD .join) (vC (.str [])) (evCons (evLc [3] (.n 3) (evRng (evCons (ev2 (binD .add) (vC (.int 1)) (evCall g__law_take (evCons (vV 0) (evCons (vV 1) evNil)))) evNil)) ifs0 e__law_drawn_pattern_1) evNil)) (stN 2)) (evSeq (sRet (evCall g__law_named (evCons (vV 2) evNil))) sPass))
theorem ln__law_drawn_pattern : ∀ xs M x M', g__law_drawn_pattern xs M = .ok x M' → xs.length = 2 := defG_len
def e__law_drawn_row_1 : Sl → Mem → Res Val := (ev2 subD (vC (.str ['a', 'b', 'c', 'd', 'e', 'f'])) (evCall g__law_take (evCons (vV 0) (evCons (vV 4) evNil))))
def g__law_drawn_row : List Val → Mem → Res Val := defG false 2 5 fun bs => (evSeq (evPar [2, 3, 4] (evCons (evCall g__law_take (evCons (vV 0) (evCons (vC (.int 6)) evNil))) (evCons (evCall g__law_take (evCons (vV 0) (evCons (ev2 (binD .add) (vV 1) (vC (.int 1))) evNil))) (evCons (ev2 (binD .add) (vC (.int 1)) (evCall g__law_take (evCons (vV 0) (evCons (vC (.int 6)) evNil)))) evNil)))) (evSeq (evAsg (evM (meD .join) (vC (.str [])) (evCons (evLc [6] (.n 6) (evRng (evCons (vV 3) evNil)) ifs0 e__law_drawn_row_1) evNil)) (stN 5)) (evSeq (evIte (tst (ev2 (cmpV .eq) (vV 2) (vC (.int 0)))) (evSeq (evAsg (evM (meD .join) (vC (.str [])) (evCons (evB sortedSx (evCons (vV 5) evNil)) evNil)) (stN 5)) sPass) sPass) (evSeq (evIte (tst (evAnd (ev2 (cmpV .eq) (vV 2) (vC (.int 1))) (ev2 (cmpV .gt) (vV 3) (vC (.int 1))))) (evSeq (evAsg (evM (meD .join) (vC (.str [])) (evCons (evB sortedSx (evCons (vV 5) evNil)) evNil)) (stN 5)) (evSeq (evAsg (evCall g__law_take (evCons (vV 0) (evCons (vV 3) evNil))) (stN 6)) (evSeq (evAsg (ev2 (binD .add) (ev2 (fun x y => sliceD x (some y) none) (vV 5) (vV 6)) (ev2 (fun x y => sliceD x none (some y)) (vV 5) (vV 6))) (stN 5)) sPass))) sPass) (evSeq (sRet (vV 5)) sPass)))))
theorem ln__law_drawn_row : ∀ xs M x M', g__law_drawn_row xs M = .ok x M' → xs.length = 2 := defG_len
def i__law_is_row_1 : Sl → Mem → Res Bool := (ifs1 (tst (ev2 (cmpV .notin) (vV 1) (vC (.str ['a', 'b', 'c', 'd', 'e', 'f'])))))
def g__law_is_row : List Val → Mem → Res Val := defG false 1 1 fun bs => (evSeq (sRet (evAnd (ev1 (isiD .str) (vV 0)) (evAnd (ev2 (cmpV .lt) (evB (biD .len) (evCons (vV 0) evNil)) (vC (.int 13))) (ev2 (cmpV .eq) (evLc [1] (.n 1) (evIt (vV 0)) i__law_is_row_1 (vV 1)) (evLst evDNil))))) sPass)
theorem ln__law_is_row : ∀ xs M x M', g__law_is_row xs M = .ok x M' → xs.length = 1 := defG_len
def g__law_is_pattern : List Val → Mem → Res Val := defG false 1 0 fun bs => (evSeq (sRet (evAnd (evCall g__law_is_row (evCons (vV 0) evNil)) (evAnd (ev3 (cmpV .lt) (cmpV .lt) (vC (.int 0)) (evB (biD .len) (evCons (vV 0) evNil)) (vC (.int 7))) (ev2 (cmpV .eq) (evCall g__law_named (evCons (vV 0) evNil)) (vV 0))))) sPass)
theorem ln__law_is_pattern : ∀ xs M x M', g__law_is_pattern xs M = .ok x M' → xs.length = 1 := defG_len
def g__law_is : Nat → List Val → Mem → Res Val
  | 0 => fun _ _ => .bad
  | n + 1 => defG false 2 2 fun bs => (evSeq (evIte (tst (ev1 (isiD .tuple) (vV 1))) (evSeq (evIte (tst (evOr (evNot (ev1 (isiD .tuple) (vV 0))) (ev2 (cmpV .ne) (evB (biD .len) (evCons (vV 0) evNil)) (evB (biD .len) (evCons (vV 1) evNil))))) (evSeq (sRet (vC (.bl false))) sPass) sPass) (evSeq (sRet (evB (biD .all) (evCons (evLc [2, 3] (.t [(.n 2), (.n 3)]) (evEnmT (vV 1)) ifs0 (evCall (g__law_is n) (evCons (ev2 subD (vV 0) (vV 2)) (evCons (vV 3) evNil)))) evNil))) sPass)) sPass) (evSeq (evIte (tst (ev1 (isiD .list) (vV 1))) (evSeq (sRet (evAnd (ev1 (isiD .list) (vV 0)) (evCall (g__law_is n) (evCons (evB (biD .tuple) (evCons (vV 0) evNil)) (evCons (evB (biD .tuple) (evCons (vV 1) evNil)) evNil))))) sPass) sPass) (evSeq (evIte (tst (ev1 (isiD .dict) (vV 1))) (evSeq (sRet (evAnd (ev1 (isiD .dict) (vV 0)) (ev2 eqC (vV 0) (vV 1)))) sPass) sPass) (evSeq (evIte (tst (evOr (ev2 (cmpV .is) (vV 1) (vC .non)) (evOr (ev2 (cmpV .is) (vV 1) (vC (.bl true))) (ev2 (cmpV .is) (vV 1) (vC (.bl false)))))) (evSeq (sRet (evIf (tst (ev2 (cmpV .is) (vV 1) (vC .non))) (ev2 (cmpV .is) (vV 0) (vC .non)) (evIf (tst (ev2 (cmpV .is) (vV 1) (vC (.bl true)))) (ev2 (cmpV .is) (vV 0) (vC (.bl true))) (ev2 (cmpV .is) (vV 0) (vC (.bl false)))))) sPass) sPass) (evSeq (evIte (tst (ev1 (isiD .int) (vV 1))) (evSeq (sRet (evAnd (ev1 (isiD .int) (vV 0)) (evAnd (evNot (ev1 (isiD .bool) (vV 0))) (ev2 eqC (vV 0) (vV 1))))) sPass) sPass) (evSeq (sRet (evAnd (ev1 (isiD .str) (vV 0)) (ev2 eqC (vV 0) (vV 1)))) sPass))))))
theorem ln__law_is : ∀ n xs M x M', g__law_is n xs M = .ok x M' → xs.length = 2
  | 0, _, _, _, _, h => by cases h
  | n + 1, xs, M, x, M', h => defG_len (f := fun bs => (evSeq (evIte (tst (ev1 (isiD .tuple) (vV 1))) (evSeq (evIte (tst (evOr (evNot (ev1 (isiD .tuple) (vV 0))) (ev2 (cmpV .ne) (evB (biD .len) (evCons (vV 0) evNil)) (evB (biD .len) (evCons (vV 1) evNil))))) (evSeq (sRet (vC (.bl false))) sPass) sPass) (evSeq (sRet (evB (biD .all) (evCons (evLc [2, 3] (.t [(.n 2), (.n 3)]) (evEnmT (vV 1)) ifs0 (evCall (g__law_is n) (evCons (ev2 subD (vV 0) (vV 2)) (evCons (vV 3) evNil)))) evNil))) sPass)) sPass) (evSeq (evIte (tst (ev1 (isiD .list) (vV 1))) (evSeq (sRet (evAnd (ev1 (isiD .list) (vV 0)) (evCall (g__law_is n) (evCons (evB (biD .tuple) (evCons (vV 0) evNil)) (evCons (evB (biD .tuple) (evCons (vV 1) evNil)) evNil))))) sPass) sPass) (evSeq (evIte (tst (ev1 (isiD .dict) (vV 1))) (evSeq (sRet (evAnd (ev1 (isiD .dict) (vV 0)) (ev2 eqC (vV 0) (vV 1)))) sPass) sPass) (evSeq (evIte (tst (evOr (ev2 (cmpV .is) (vV 1) (vC .non)) (evOr (ev2 (cmpV .is) (vV 1) (vC (.bl true))) (ev2 (cmpV .is) (vV 1) (vC (.bl false)))))) (evSeq (sRet (evIf (tst (ev2 (cmpV .is) (vV 1) (vC .non))) (ev2 (cmpV .is) (vV 0) (vC .non)) (evIf (tst (ev2 (cmpV .is) (vV 1) (vC (.bl true)))) (ev2 (cmpV .is) (vV 0) (vC (.bl true))) (ev2 (cmpV .is) (vV 0) (vC (.bl false)))))) sPass) sPass) (evSeq (evIte (tst (ev1 (isiD .int) (vV 1))) (evSeq (sRet (evAnd (ev1 (isiD .int) (vV 0)) (evAnd (evNot (ev1 (isiD .bool) (vV 0))) (ev2 eqC (vV 0) (vV 1))))) sPass) sPass) (evSeq (sRet (evAnd (ev1 (isiD .str) (vV 0)) (ev2 eqC (vV 0) (vV 1)))) sPass))))))) xs M x M' h
def e_is_text_of_1 : Sl → Mem → Res Val := (ev2 (cmpV .isin) (vV 2) (vV 1))
def g_is_text_of : List Val → Mem → Res Val := defG false 2 1 fun bs => (evSeq (sRet (evAnd (ev1 (isiD .str) (vV 0)) (evB (biD .all) (evCons (evLc [2] (.n 2) (evIt (vV 0)) ifs0 e_is_text_of_1) evNil)))) sPass)
theorem ln_is_text_of : ∀ xs M x M', g_is_text_of xs M = .ok x M' → xs.length = 2 := defG_len
def g_is_rowed : List Val → Mem → Res Val := defG false 1 0 fun bs => (evSeq (sRet (evAnd (evCall g_is_text_of (evCons (vV 0) (evCons (vC (.str ['a', 'b', 'c', 'd', 'e', 'f'])) evNil))) (ev2 (cmpV .le) (evB (biD .len) (evCons (vV 0) evNil)) (vC (.int 12))))) sPass)
theorem ln_is_rowed : ∀ xs M x M', g_is_rowed xs M = .ok x M' → xs.length = 1 := defG_len
def g_check_row : List Val → Mem → Res Val := defG false 1 0 fun bs => (evSeq (evIte (tst (evNot (evCall g_is_rowed (evCons (vV 0) evNil)))) (evSeq sNever sPass) sPass) sPass)
theorem ln_check_row : ∀ xs M x M', g_check_row xs M = .ok x M' → xs.length = 1 := defG_len
def g_colours_by : List Val → Mem → Res Val := defG false 1 1 fun bs => (evSeq (sRet (evJd [] [1] (.n 1) (evIt (vV 0)) ifs0 (vV 1))) sPass)
theorem ln_colours_by : ∀ xs M x M', g_colours_by xs M = .ok x M' → xs.length = 1 := defG_len
def e_named_by_1 : Sl → Mem → Res Val := (ev2 subD (vC (.str ['a', 'b', 'c', 'd', 'e', 'f'])) (evM (meD .index) (vV 1) (evCons (vV 2) evNil)))
def g_named_by : List Val → Mem → Res Val := defG false 1 2 fun bs => (evSeq (evAsg (evCall g_colours_by (evCons (vV 0) evNil)) (stN 1)) (evSeq (sRet (evM (meD .join) (vC (.str [])) (evCons (evLc [2] (.n 2) (evIt (vV 0)) ifs0 e_named_by_1) evNil))) sPass))
theorem ln_named_by : ∀ xs M x M', g_named_by xs M = .ok x M' → xs.length = 1 := defG_len
def g_is_named : List Val → Mem → Res Val := defG false 1 0 fun bs => (evSeq (sRet (ev2 (cmpV .eq) (evCall g_named_by (evCons (vV 0) evNil)) (vV 0))) sPass)
theorem ln_is_named : ∀ xs M x M', g_is_named xs M = .ok x M' → xs.length = 1 := defG_len
def g_is_patterned : List Val → Mem → Res Val := defG false 1 0 fun bs => (evSeq (sRet (evAnd (evCall g_is_rowed (evCons (vV 0) evNil)) (evAnd (ev3 (cmpV .le) (cmpV .le) (vC (.int 1)) (evB (biD .len) (evCons (vV 0) evNil)) (vC (.int 6))) (evCall g_is_named (evCons (vV 0) evNil))))) sPass)
theorem ln_is_patterned : ∀ xs M x M', g_is_patterned xs M = .ok x M' → xs.length = 1 := defG_len
def g_check_pattern : List Val → Mem → Res Val := defG false 1 0 fun bs => (evSeq (evIte (tst (evNot (evCall g_is_patterned (evCons (vV 0) evNil)))) (evSeq sNever sPass) sPass) sPass)
theorem ln_check_pattern : ∀ xs M x M', g_check_pattern xs M = .ok x M' → xs.length = 1 := defG_len
def g_check_row_pattern : List Val → Mem → Res Val := defG false 2 0 fun bs => (evSeq (sEx (evCall g_check_row (evCons (vV 0) evNil))) (evSeq (sEx (evCall g_check_pattern (evCons (vV 1) evNil))) sPass))
theorem ln_check_row_pattern : ∀ xs M x M', g_check_row_pattern xs M = .ok x M' → xs.length = 2 := defG_len
def e_socks_at_1 : Sl → Mem → Res Val := (ev2 subD (vV 0) (vV 2))
def g_socks_at : List Val → Mem → Res Val := defG false 2 1 fun bs => (evSeq (sRet (evM (meD .join) (vC (.str [])) (evCons (evLc [2] (.n 2) (evIt (vV 1)) ifs0 e_socks_at_1) evNil))) sPass)
theorem ln_socks_at : ∀ xs M x M', g_socks_at xs M = .ok x M' → xs.length = 2 := defG_len
def i_places_held_1 : Sl → Mem → Res Bool := (ifs1 (tst (ev2 (cmpV .eq) (evCall g_named_by (evCons (evCall g_socks_at (evCons (vV 0) (evCons (vV 3) evNil))) evNil)) (vV 1))))
def g_places_held : List Val → Mem → Res Val := defG false 2 2 fun bs => (evSeq (evAsg (evB choD (evCons (ev1 lrD (evB (biD .len) (evCons (vV 0) evNil))) (evCons (evB (biD .len) (evCons (vV 1) evNil)) evNil))) (stN 2)) (evSeq (sRet (evLc [3] (.n 3) (evIt (vV 2)) i_places_held_1 (vV 3))) sPass))
theorem ln_places_held : ∀ xs M x M', g_places_held xs M = .ok x M' → xs.length = 2 := defG_len
def g_does_hold_by : List Val → Mem → Res Val := defG false 2 0 fun bs => (evSeq (sRet (ev2 (cmpV .ne) (evCall g_places_held (evCons (vV 0) (evCons (vV 1) evNil))) (evLst evDNil))) sPass)
theorem ln_does_hold_by : ∀ xs M x M', g_does_hold_by xs M = .ok x M' → xs.length = 2 := defG_len
def g_does_hold : List Val → Mem → Res Val := defG false 2 0 fun bs => (evSeq (sEx (evCall g_check_row_pattern (evCons (vV 0) (evCons (vV 1) evNil)))) (evSeq (sRet (evCall g_does_hold_by (evCons (vV 0) (evCons (vV 1) evNil)))) sPass))
theorem ln_does_hold : ∀ xs M x M', g_does_hold xs M = .ok x M' → xs.length = 2 := defG_len
def g_first_places_by : List Val → Mem → Res Val := defG false 2 0 fun bs => (evSeq (sRet (evBK minT (evCons (evCall g_places_held (evCons (vV 0) (evCons (vV 1) evNil))) evNil) (evCons (vC .non) evNil))) sPass)
theorem ln_first_places_by : ∀ xs M x M', g_first_places_by xs M = .ok x M' → xs.length = 2 := defG_len
def g_first_places : List Val → Mem → Res Val := defG false 2 0 fun bs => (evSeq (sEx (evCall g_check_row_pattern (evCons (vV 0) (evCons (vV 1) evNil)))) (evSeq (sRet (evCall g_first_places_by (evCons (vV 0) (evCons (vV 1) evNil)))) sPass))
theorem ln_first_places : ∀ xs M x M', g_first_places xs M = .ok x M' → xs.length = 2 := defG_len
def g_hold_count : List Val → Mem → Res Val := defG false 2 0 fun bs => (evSeq (sEx (evCall g_check_row_pattern (evCons (vV 0) (evCons (vV 1) evNil)))) (evSeq (sRet (evB (biD .len) (evCons (evCall g_places_held (evCons (vV 0) (evCons (vV 1) evNil))) evNil))) sPass))
theorem ln_hold_count : ∀ xs M x M', g_hold_count xs M = .ok x M' → xs.length = 2 := defG_len
def g_named : List Val → Mem → Res Val := defG false 1 0 fun bs => (evSeq (sEx (evCall g_check_row (evCons (vV 0) evNil))) (evSeq (sRet (evCall g_named_by (evCons (vV 0) evNil))) sPass))
theorem ln_named : ∀ xs M x M', g_named xs M = .ok x M' → xs.length = 1 := defG_len
def g_is_whole : List Val → Mem → Res Val := defG false 1 0 fun bs => (evSeq (sRet (evAnd (ev1 (isiD .int) (vV 0)) (evNot (ev1 (isiD .bool) (vV 0))))) sPass)
theorem ln_is_whole : ∀ xs M x M', g_is_whole xs M = .ok x M' → xs.length = 1 := defG_len
def g_is_between : List Val → Mem → Res Val := defG false 3 0 fun bs => (evSeq (sRet (evAnd (evCall g_is_whole (evCons (vV 0) evNil)) (ev3 (cmpV .le) (cmpV .le) (vV 1) (vV 0) (vV 2)))) sPass)
theorem ln_is_between : ∀ xs M x M', g_is_between xs M = .ok x M' → xs.length = 3 := defG_len
def g_check_size : List Val → Mem → Res Val := defG false 3 0 fun bs => (evSeq (evIte (tst (evNot (evCall g_is_between (evCons (vV 0) (evCons (vV 1) (evCons (vV 2) evNil)))))) (evSeq sNever sPass) sPass) sPass)
theorem ln_check_size : ∀ xs M x M', g_check_size xs M = .ok x M' → xs.length = 3 := defG_len
def e_patterns_by_1 : Sl → Mem → Res Val := (evCall g_named_by (evCons (evCall g_socks_at (evCons (vV 0) (evCons (vV 3) evNil))) evNil))
def g_patterns_by : List Val → Mem → Res Val := defG false 2 2 fun bs => (evSeq (evAsg (evB choD (evCons (ev1 lrD (evB (biD .len) (evCons (vV 0) evNil))) (evCons (vV 1) evNil))) (stN 2)) (evSeq (sRet (evSd [3] (.n 3) (evIt (vV 2)) ifs0 e_patterns_by_1)) sPass))
theorem ln_patterns_by : ∀ xs M x M', g_patterns_by xs M = .ok x M' → xs.length = 2 := defG_len
def g_patterns_of : List Val → Mem → Res Val := defG false 2 0 fun bs => (evSeq (sEx (evCall g_check_row (evCons (vV 0) evNil))) (evSeq (sEx (evCall g_check_size (evCons (vV 1) (evCons (vC (.int 1)) (evCons (vC (.int 4)) evNil))))) (evSeq (sRet (evB (biD .tuple) (evCons (evCall g_patterns_by (evCons (vV 0) (evCons (vV 1) evNil))) evNil))) sPass)))
theorem ln_patterns_of : ∀ xs M x M', g_patterns_of xs M = .ok x M' → xs.length = 2 := defG_len
def g_is_pattern : List Val → Mem → Res Val := defG false 1 0 fun bs => (evSeq (sRet (evCall g_is_patterned (evCons (vV 0) evNil))) sPass)
theorem ln_is_pattern : ∀ xs M x M', g_is_pattern xs M = .ok x M' → xs.length = 1 := defG_len
def e_all_named_1 : Sl → Mem → Res Val := (ev2 (binD .add) (vV 3) (vV 4))
def l_all_named_1 : Sl → Mem → Res Flow := (evSeq (evAsg (evLc2 [3, 4] [4] (.n 3) (evIt (vV 1)) ifs0 (.n 4) (evIt (ev2 (fun x y => sliceD x none (some y)) (vC (.str ['a', 'b', 'c', 'd', 'e', 'f'])) (ev2 (binD .add) (evB (biD .len) (evCons (evCall g_colours_by (evCons (vV 3) evNil)) evNil)) (vC (.int 1))))) ifs0 e_all_named_1) (stN 1)) sPass)
def g_all_named : List Val → Mem → Res Val := defG false 1 4 fun bs => (evSeq (evAsg (evLst (evConsD (vC (.str [])) evDNil)) (stN 1)) (evSeq (evFor (.n 2) (evRng (evCons (vV 0) evNil)) l_all_named_1) (evSeq (sRet (vV 1)) sPass)))
theorem ln_all_named : ∀ xs M x M', g_all_named xs M = .ok x M' → xs.length = 1 := defG_len
def i_free_of_1 : Sl → Mem → Res Bool := (ifs1 (tst (evNot (evCall g_does_hold_by (evCons (vV 2) (evCons (vV 1) evNil))))))
def g_free_of : List Val → Mem → Res Val := defG false 2 1 fun bs => (evSeq (sRet (evLc [2] (.n 2) (evIt (evCall g_all_named (evCons (vV 0) evNil))) i_free_of_1 (vV 2))) sPass)
theorem ln_free_of : ∀ xs M x M', g_free_of xs M = .ok x M' → xs.length = 2 := defG_len
def g_free_rows : List Val → Mem → Res Val := defG false 2 0 fun bs => (evSeq (sEx (evCall g_check_size (evCons (vV 0) (evCons (vC (.int 0)) (evCons (vC (.int 6)) evNil))))) (evSeq (sEx (evCall g_check_pattern (evCons (vV 1) evNil))) (evSeq (sRet (evB (biD .tuple) (evCons (evCall g_free_of (evCons (vV 0) (evCons (vV 1) evNil))) evNil))) sPass)))
theorem ln_free_rows : ∀ xs M x M', g_free_rows xs M = .ok x M' → xs.length = 2 := defG_len
/-- where what is no row, no pattern is refused -/
def xt_check_row : Sl → Mem → Res Bool := tst (evNot (evCall g_is_rowed (evCons (vV 0) evNil)))
def x_check_row : List Val → Mem → Res D := xIf xt_check_row
def xt_check_pattern : Sl → Mem → Res Bool := tst (evNot (evCall g_is_patterned (evCons (vV 0) evNil)))
def x_check_pattern : List Val → Mem → Res D := xIf xt_check_pattern
/-- what is refused behind a row, behind a size -/
def xr07 (r : List Char) (v : D) : Mem → Res D := fun M => (g_check_row [.d (.str r)] M).bind fun y M1 => (match y with
  | .d .non => x_check_pattern [.d v] M1
  | _ => .bad)
def xs07 (v : D) : Mem → Res D := fun M => (g_check_size [.d (.int 2), .d (.int 0), .d (.int 6)] M).bind fun y M1 => (match y with
  | .d .non => x_check_pattern [.d v] M1
  | _ => .bad)
def rf07 (w : Int) (v : D) : Mem → Res D := if w == 0 then xr07 ['a', 'b', 'c', 'a', 'b'] v else if w == 1 then xr07 [] v else if w == 2 then xr07 ['a', 'b'] v else xs07 v
def gd07 (w : Int) (v : D) : Mem → Res Val := if w == 0 then g_does_hold [.d (.str ['a', 'b', 'c', 'a', 'b']), .d v] else if w == 1 then g_first_places [.d (.str []), .d v] else if w == 2 then g_hold_count [.d (.str ['a', 'b']), .d v] else g_free_rows [.d (.int 2), .d v]
def ev_try__law_refused : Sl → Mem → Res Flow := fun s M => match s with
  | [some (.d (.int w)), some (.d v), none, none] => (match rf07 w v M with
    | .ok d0 M1 => .ok (.ret (.d (.lst [d0]))) M1
    | .bad => (gd07 w v M).bind fun x M1 => .ok (.nx [some (.d (.int w)), some (.d v), some x, none]) M1)
  | _ => .bad
def g__law_refused : List Val → Mem → Res Val := defG false 2 2 fun bs => (evSeq ev_try__law_refused (evSeq (sRet (evIf (tst (ev2 (cmpV .ne) (evLst (evConsD (vV 2) evDNil)) (evLst evDNil))) (evLst evDNil) (evLst (evConsD (vV 2) (evConsD (vV 2) evDNil))))) sPass))
theorem ln__law_refused : ∀ xs M x M', g__law_refused xs M = .ok x M' → xs.length = 2 := defG_len
def i__law_value_right_1 : Sl → Mem → Res Bool := (ifs1 (tst (evNot (evCall (g__law_is 6) (evCons (evCall g__law_refused (evCons (vV 2) (evCons (vV 0) evNil))) (evCons (evIf (tst (vV 1)) (evLst evDNil) (evLst (evConsD (vV 0) evDNil))) evNil))))))
def i__law_value_right_2 : Sl → Mem → Res Bool := (ifs1 (tst (evOr (evNot (evCall g_does_hold (evCons (vV 0) (evCons (ev2 (fun x y => sliceD x none (some y)) (vV 0) (vV 4)) evNil)))) (evNot (evCall g_is_pattern (evCons (ev2 (fun x y => sliceD x none (some y)) (vV 0) (vV 4)) evNil))))))
def g__law_value_right : List Val → Mem → Res Val := defG false 1 4 fun bs => (evSeq (evAsg (evCall g__law_is_pattern (evCons (vV 0) evNil)) (stN 1)) (evSeq (evIte (tst (evNot (evCall (g__law_is 6) (evCons (evLst (evConsD (evCall g_is_pattern (evCons (vV 0) evNil)) (evConsD (evCallN 0 1 (@pickO [(true, 0)]) g_is_pattern evNil (evCons (vV 0) evNil)) evDNil))) (evCons (evLst (evConsD (vV 1) (evConsD (vV 1) evDNil))) evNil))))) (evSeq (sRet (vC (.bl false))) sPass) sPass) (evSeq (evIte (tst (ev2 (cmpV .ne) (evLc [2] (.n 2) (evRng (evCons (vC (.int 4)) evNil)) i__law_value_right_1 (vV 2)) (evLst evDNil))) (evSeq (sRet (vC (.bl false))) sPass) sPass) (evSeq (evIte (tst (evNot (vV 1))) (evSeq (sRet (vC (.bl true))) sPass) sPass) (evSeq (evAsg (evLst (evConsD (evCall g_does_hold (evCons (vV 0) (evCons (vV 0) evNil))) (evConsD (evCall g_first_places (evCons (vV 0) (evCons (vV 0) evNil))) (evConsD (evCall g_hold_count (evCons (vV 0) (evCons (vV 0) evNil))) (evConsD (evCall g_named (evCons (vV 0) evNil)) evDNil))))) (stN 3)) (evSeq (evIte (tst (evNot (evCall (g__law_is 6) (evCons (vV 3) (evCons (evLst (evConsD (vC (.bl true)) (evConsD (ev1 trD (evB (biD .len) (evCons (vV 0) evNil))) (evConsD (vC (.int 1)) (evConsD (vV 0) evDNil))))) evNil))))) (evSeq (sRet (vC (.bl false))) sPass) sPass) (evSeq (evIte (tst (ev2 (cmpV .ne) (evLc [4] (.n 4) (evRng (evCons (vC (.int 1)) (evCons (evB (biD .len) (evCons (vV 0) evNil)) evNil))) i__law_value_right_2 (vV 4)) (evLst evDNil))) (evSeq (sRet (vC (.bl false))) sPass) sPass) (evSeq (sRet (evOr (ev2 (cmpV .gt) (evB (biD .len) (evCons (vV 0) evNil)) (vC (.int 4))) (evCall (g__law_is 6) (evCons (evCall g_patterns_of (evCons (vV 0) (evCons (evB (biD .len) (evCons (vV 0) evNil)) evNil))) (evCons (evTup (evConsD (vV 0) evDNil)) evNil))))) sPass))))))))
theorem ln__law_value_right : ∀ xs M x M', g__law_value_right xs M = .ok x M' → xs.length = 1 := defG_len
def g__law_pick : List Val → Mem → Res Val := defG false 2 0 fun bs => (evSeq (sRet (ev2 subD (vV 1) (evCall g__law_take (evCons (vV 0) (evCons (evB (biD .len) (evCons (vV 1) evNil)) evNil))))) sPass)
theorem ln__law_pick : ∀ xs M x M', g__law_pick xs M = .ok x M' → xs.length = 2 := defG_len
def g__law_odd : List Val → Mem → Res Val := defG false 1 2 fun bs => (evSeq (evAsg (ev2 (binD .sub) (evCall g__law_take (evCons (vV 0) (evCons (ev2 (binD .pow) (vC (.int 10)) (vC (.int 9))) evNil))) (ev2 (binD .mul) (vC (.int 5)) (ev2 (binD .pow) (vC (.int 10)) (vC (.int 8))))) (stN 1)) (evSeq (evAsg (evLst (evConsD (vC .non) (evConsD (vC (.bl true)) (evConsD (vC (.bl false)) (evConsD (vC (.str [])) (evConsD (vC (.str ['a', 'b', 'g'])) (evConsD (evTup evDNil) (evConsD (evTup (evConsD (vC (.int 1)) (evConsD (vC .non) evDNil))) (evConsD (evLst evDNil) (evConsD (evLst (evConsD (vV 1) evDNil)) (evConsD evDic0 (evConsD (evDic1 (vC (.str ['a'])) (vV 1)) (evConsD (vV 1) (evConsD (vC (.int 0)) (evConsD (vC (.int 1)) (evConsD (ev1 negD (vC (.int 1))) (evConsD (evTup (evConsD (evTup evDNil) (evConsD (evLst (evConsD (vV 1) evDNil)) evDNil))) evDNil))))))))))))))))) (stN 2)) (evSeq (sRet (evCall g__law_pick (evCons (vV 0) (evCons (vV 2) evNil)))) sPass)))
theorem ln__law_odd : ∀ xs M x M', g__law_odd xs M = .ok x M' → xs.length = 1 := defG_len
def g__law_bent_pattern : List Val → Mem → Res Val := defG false 2 1 fun bs => (evSeq (evAsg (evLst (evConsD (vC (.str ['b', 'a'])) (evConsD (vC (.str [])) (evConsD (vC (.str ['b'])) (evConsD (vC (.str ['a', 'b', 'd'])) (evConsD (ev2 (binD .add) (vV 1) (vC (.str ['f']))) (evConsD (evM (meD .upper) (vV 1) evNil) (evConsD (ev2 (binD .add) (vV 1) (vC (.str ['a', 'a', 'a', 'a', 'a', 'a']))) (evConsD (evB tupSD (evCons (vV 1) evNil)) (evConsD (evTup (evConsD (vV 1) evDNil)) (evConsD (evLst (evConsD (vV 1) evDNil)) (evConsD (vC (.str ['c', 'a', 'b'])) (evConsD (vC (.str ['a', 'a', 'c'])) evDNil))))))))))))) (stN 2)) (evSeq (sRet (evCall g__law_pick (evCons (vV 0) (evCons (ev2 (binD .add) (vV 2) (evLst (evConsD (vC .non) (evConsD (vC (.int 0)) (evConsD (vC (.bl true)) (evConsD (vC (.str [' ', 'a', 'b'])) (evConsD (vC (.str ['a', 'b', 'c', 'd', 'e', 'f', 'a'])) (evConsD (evDic1 (vV 1) (vC (.int 1))) evDNil)))))))) evNil)))) sPass))
theorem ln__law_bent_pattern : ∀ xs M x M', g__law_bent_pattern xs M = .ok x M' → xs.length = 2 := defG_len
def e__law_right_1 : Sl → Mem → Res Val := (evCall g__law_bent_pattern (evCons (vV 0) (evCons (vV 2) evNil)))
def i__law_right_1 : Sl → Mem → Res Bool := (ifs1 (tst (evNot (evCall g__law_value_right (evCons (vV 5) evNil)))))
def l__law_right_1 : Sl → Mem → Res Flow := (evSeq (evPar [2, 3] (evCons (evCall g__law_drawn_pattern (evCons (vV 0) (evCons (vV 1) evNil))) (evCons (evCall g__law_drawn_row (evCons (vV 0) (evCons (vC (.int 8)) evNil))) evNil))) (evSeq (evAsg (evLst (evConsD (vV 2) (evConsD (ev1 revD (vV 2)) (evConsD (evCall g__law_named (evCons (vV 3) evNil)) (evConsD (vV 3) (evConsD (ev2 (binD .add) (vV 2) (vC (.str ['a']))) (evConsD (vC (.str ['a', 'b', 'c', 'd', 'e', 'f'])) (evConsD (vC (.str ['a', 'b', 'c', 'd', 'e', 'f', 'a'])) (evConsD (vC (.str ['b', 'b', 'b'])) (evConsD (vC (.str ['a', 'b', 'a'])) evDNil)))))))))) (stN 4)) (evSeq (evIte (tst (ev2 (cmpV .ne) (evLc [5] (.n 5) (evIt (ev2 (binD .add) (vV 4) (evLc [6] (.n 6) (evRng (evCons (vC (.int 6)) evNil)) ifs0 e__law_right_1))) i__law_right_1 (vV 5)) (evLst evDNil))) (evSeq (sRet (vC (.bl false))) sPass) sPass) sPass)))
def i__law_right_2 : Sl → Mem → Res Bool := (ifs1 (tst (evNot (evCall g__law_value_right (evCons (evCall g__law_odd (evCons (vV 0) evNil)) evNil)))))
def g__law_right : List Val → Mem → Res Val := defG false 1 7 fun bs => (evSeq (evFor (.n 1) (evIt (evLst (evConsD (vC (.int 1)) (evConsD (vC (.int 2)) (evConsD (vC (.int 3)) (evConsD (vC (.int 4)) (evConsD (vC (.int 5)) (evConsD (vC (.int 6)) evDNil)))))))) l__law_right_1) (evSeq (sRet (ev2 (cmpV .eq) (evLc [7] (.n 7) (evRng (evCons (vC (.int 10)) evNil)) i__law_right_2 (vV 7)) (evLst evDNil))) sPass))
theorem ln__law_right : ∀ xs M x M', g__law_right xs M = .ok x M' → xs.length = 1 := defG_len
def l__law_well_1 : Sl → Mem → Res Flow := (evSeq (evAsg (ev2 (binD .mod) (evB (biD .int) (evCons (ev2 (binD .add) (ev2 (binD .add) (ev2 (binD .mul) (vV 3) (vC (.int 45013))) (ev2 (binD .mod) (evB (biD .int) (evCons (vV 4) evNil)) (vC (.int 2147483399)))) (vC (.int 37))) evNil)) (vC (.int 2147483563))) (stN 3)) sPass)
def g__law_well : List Val → Mem → Res Val := defG true 2 3 fun bs => (evSeq (evAsg (evIf (tst (ev2 (cmpV .lt) (vV 1) (evB (biD .len) (evCons (vV 0) evNil)))) (evB (biD .int) (evCons (ev2 subD (vV 0) (vV 1)) evNil)) (ev2 (binD .add) (ev2 (binD .add) (ev2 (binD .mul) (vC (.int 9311)) (vV 1)) (ev2 (binD .mod) (evB (biD .int) (evCons (evB (biD .sum) (evCons (ev2 (fun x y => sliceD x none (some y)) (vV 0) (vC (.int 2))) evNil)) evNil)) (vC (.int 1000003)))) (vC (.int 71)))) (stN 2)) (evSeq (evAsg (ev2 (binD .add) (vC (.int 50021)) (ev2 (binD .mul) (vC (.int 1013)) (vV 1))) (stN 3)) (evSeq (evFor (.n 4) (evIt (ev2 (binD .add) (ev2 (fun x y => sliceD x none (some y)) (vV 0) (vC (.int 5))) (evLst (evConsD (vV 2) evDNil)))) l__law_well_1) (evSeq (sRet (newOf (evLst (evConsD (evIf (tst (evOr (ev2 (cmpV .lt) (vV 2) (vC (.int 0))) (ev2 (cmpV .ge) (vV 2) (ev2 (binD .pow) (vC (.int 10)) (vC (.int 17)))))) (ev2 (binD .mod) (evB (biD .int) (evCons (evB (biD .abs) (evCons (vV 2) evNil)) evNil)) (ev2 (binD .pow) (vC (.int 10)) (vC (.int 60)))) (vC (.int 0))) (evConsD (vV 3) (evConsD (vC (.int 0)) evDNil)))))) sPass))))
theorem ln__law_well : ∀ xs M x M', g__law_well xs M = .ok x M' → xs.length = 2 := defG_len
def i_law_1 : Sl → Mem → Res Bool := (ifs1 (tst (ev2 (cmpV .ne) (evCall g_does_hold (evCons (vV 3) (evCons (vV 4) evNil))) (ev2 (cmpV .eq) (vV 3) (vV 4)))))
def i_law_2 : Sl → Mem → Res Bool := (ifs1 (tst (evOr (evNot (evCall g_is_pattern (evCons (vV 3) evNil))) (ev2 (cmpV .ne) (evLc [4] (.n 4) (evIt (vV 2)) i_law_1 (vV 4)) (evLst evDNil)))))
def l_law_1 : Sl → Mem → Res Flow := (evSeq (evAsg (evCall g__law_named_rows (evCons (vV 1) evNil)) (stN 2)) (evSeq (evIte (tst (ev2 (cmpV .ne) (evLc [3] (.n 3) (evIt (vV 2)) i_law_2 (vV 3)) (evLst evDNil))) (evSeq (sRet (vC (.bl false))) sPass) sPass) sPass))
def e_law_1 : Sl → Mem → Res Val := (evCall g__law_right (evCons (newOf (evCall g__law_well (evCons (vV 0) (evCons (vV 5) evNil)))) evNil))
def g_law : List Val → Mem → Res Val := defG false 1 5 fun bs => (evSeq (evFor (.n 1) (evRng (evCons (vC (.int 1)) (evCons (vC (.int 5)) evNil))) l_law_1) (evSeq (sRet (evB (biD .all) (evCons (evLc [5] (.n 5) (evRng (evCons (evB (biD .max2) (evCons (vC (.int 2)) (evCons (evB (biD .min2) (evCons (evB (biD .len) (evCons (vV 0) evNil)) (evCons (vC (.int 3)) evNil))) evNil))) evNil)) ifs0 e_law_1) evNil))) sPass))
theorem ln_law : ∀ xs M x M', g_law xs M = .ok x M' → xs.length = 1 := defG_len
end K07
end P_K07G
section P_K07P1
set_option Elab.async false
set_option linter.all false
set_option maxRecDepth 100000
set_option maxHeartbeats 4000000
namespace K07
open PySem PySem.Spec PyProof.Rows L2 DL
section
variable {P : Program} {w : World} {K : PySem.W.Frag} {mg : Str → Option Value} {base : Heap}
theorem sc__law_colours : FnScope ["row", "found", "sock"] ["row"] (defScope s__law_colours) := ⟨rfl, rfl, rfl, by decide +kernel, rfl, by decide +kernel, by decide +kernel⟩
theorem ok__law_colours (T : Tx K mg) {f : Addr} {fd : FuncData} (F__law_colours : Fun K "_law_colours" "_law_colours" s__law_colours f fd) : FnOk P w K mg base CX0 1 f fd ["row"] (spF false K 1 g__law_colours) := by

  refine F__law_colours.ok sc__law_colours (fun vs H Q E h => h.1) (fun cdv A outer s H vs Q E hr h => ?_)
  obtain ⟨bs, z⟩ := def_body (N := ["row", "found", "sock"]) (m := 2) rfl h
  refine ⟨_, ?_, z⟩
  exact (p_scons (p_asgn 1 sc__law_colours.nd p_str) (p_scons (p_for (p_it (p_var 0)) (p_tgn 2 sc__law_colours.nd) (p_scons (p_asgn 1 sc__law_colours.nd (p_bin ob_add (p_var 1) (p_ifx (p_cmpT (ob_notin hr) (p_var 2) (p_var 1)) (p_var 2) p_str))) p_snil)) (p_scons (p_ret (p_var 1)) p_snil)))
theorem sc__law_named_rows : FnScope ["size", "rows", "lap", "longer", "row", "sock"] ["size"] (defScope s__law_named_rows) := ⟨rfl, rfl, rfl, by decide +kernel, rfl, by decide +kernel, by decide +kernel⟩
theorem ok__law_named_rows (T : Tx K mg) {f : Addr} {fd : FuncData} (F__law_named_rows : Fun K "_law_named_rows" "_law_named_rows" s__law_named_rows f fd) : FnOk P w K mg base CX0 2 f fd ["size"] (spF false K 1 g__law_named_rows) := by
  obtain ⟨f__law_colours, fd__law_colours, m__law_colours, F__law_colours⟩ := T.d__law_colours
  have G__law_colours := ok__law_colours (P := P) (w := w) (base := base) T F__law_colours
  have B__law_colours : L2.Binds K fd__law_colours ["row"] [] := F__law_colours.binds fun _ _ _ _ _ _ us hl => match us, hl with | [_], _ => rfl
  refine F__law_named_rows.ok sc__law_named_rows (fun vs H Q E h => h.1) (fun cdv A outer s H vs Q E hr h => ?_)
  obtain ⟨bs, z⟩ := def_body (N := ["size", "rows", "lap", "longer", "row", "sock"]) (m := 5) rfl h
  refine ⟨_, ?_, z⟩
  exact (p_scons (p_asgn 1 sc__law_named_rows.nd (p_frz (p_lst (p_dcons p_str p_dnil)))) (p_scons (p_for (p_rng1 T.b_range (p_var 0)) (p_tgn 2 sc__law_named_rows.nd) (p_scons (p_asgn 3 sc__law_named_rows.nd (p_frz (p_lst p_dnil))) (p_scons (p_for (p_it (p_var 1)) (p_tgn 4 sc__law_named_rows.nd) (p_scons (p_asgn 3 sc__law_named_rows.nd (p_bin ob_add (p_var 3) (p_frz (p_lc (own := [("sock", 5)]) (by decide) sc__law_named_rows.nd (p_it (p_slH p_str (p_bin ob_add (p_callB bb_len T.b_len PySem.boot_len (p_cons (p_call ln__law_colours F__law_colours G__law_colours (hr.mono (by first | decide | omega)) m__law_colours B__law_colours (p_cons (p_var 4) p_nil)) p_nil)) p_int))) (blk_mk rfl (by kernel_rfl)) (fun _ _ _ _ _ => (p_tgn 5 sc__law_named_rows.nd)) (fun _ _ _ _ _ => p_ifs0) (fun _ _ _ _ _ => (p_bin ob_add (p_var 4) (p_var 5))))))) p_snil)) (p_scons (p_asgn 1 sc__law_named_rows.nd (p_var 3)) p_snil)))) (p_scons (p_ret (p_var 1)) p_snil)))
theorem sc__law_named : FnScope ["row", "come", "sock"] ["row"] (defScope s__law_named) := ⟨rfl, rfl, rfl, by decide +kernel, rfl, by decide +kernel, by decide +kernel⟩
theorem ok__law_named (T : Tx K mg) {f : Addr} {fd : FuncData} (F__law_named : Fun K "_law_named" "_law_named" s__law_named f fd) : FnOk P w K mg base CX0 2 f fd ["row"] (spF false K 1 g__law_named) := by
  obtain ⟨f__law_colours, fd__law_colours, m__law_colours, F__law_colours⟩ := T.d__law_colours
  have G__law_colours := ok__law_colours (P := P) (w := w) (base := base) T F__law_colours
  have B__law_colours : L2.Binds K fd__law_colours ["row"] [] := F__law_colours.binds fun _ _ _ _ _ _ us hl => match us, hl with | [_], _ => rfl
  refine F__law_named.ok sc__law_named (fun vs H Q E h => h.1) (fun cdv A outer s H vs Q E hr h => ?_)
  obtain ⟨bs, z⟩ := def_body (N := ["row", "come", "sock"]) (m := 2) rfl h
  refine ⟨_, ?_, z⟩
  exact (p_scons (p_asgn 1 sc__law_named.nd (p_call ln__law_colours F__law_colours G__law_colours (hr.mono (by first | decide | omega)) m__law_colours B__law_colours (p_cons (p_var 0) p_nil))) (p_scons (p_ret (p_me tab_join p_str (p_cons (p_frz (p_lc (own := [("sock", 2)]) (by decide) sc__law_named.nd (p_it (p_var 0)) (blk_mk rfl (by kernel_rfl)) (fun _ _ _ _ _ => (p_tgn 2 sc__law_named.nd)) (fun _ _ _ _ _ => p_ifs0) (fun _ _ _ _ _ => (p_sub p_str (p_me (tab_index hr) (p_var 1) (p_cons (p_var 2) p_nil)))))) p_nil))) p_snil))
theorem sc__law_take : FnScope ["well", "many", "figure", "by"] ["well", "many"] (defScope s__law_take) := ⟨rfl, rfl, rfl, by decide +kernel, rfl, by decide +kernel, by decide +kernel⟩
theorem ok__law_take (T : Tx K mg) {f : Addr} {fd : FuncData} (F__law_take : Fun K "_law_take" "_law_take" s__law_take f fd) : FnOk P w K mg base CX0 1 f fd ["well", "many"] (spF false K 2 g__law_take) := by

  refine F__law_take.ok sc__law_take (fun vs H Q E h => h.1) (fun cdv A outer s H vs Q E hr h => ?_)
  obtain ⟨bs, z⟩ := def_body (N := ["well", "many", "figure", "by"]) (m := 2) rfl h
  refine ⟨_, ?_, z⟩
  exact (p_scons (p_ite (p_cmpT ob_gt (p_sub (p_var 0) p_int) p_int) (p_scons (p_asg (p_callB bb_divmod T.b_divmod PyProof.Rows.boot_divmod (p_cons (p_sub (p_var 0) p_int) (p_cons (p_var 1) p_nil))) (p_atup (p_acons (p_asub 0 p_int) (p_acons (p_an 2 sc__law_take.nd) p_anil)))) (p_scons (p_ret (p_var 2)) p_snil)) p_snil) (p_scons (p_asg (p_bin ob_add (p_sub (p_var 0) p_int) p_int) (p_asub 0 p_int)) (p_scons (p_asgn 3 sc__law_take.nd (p_bin ob_add (p_bin ob_mod (p_callTy bb_int T.b_int PyProof.Rows.boot_int (p_cons (p_sub (p_var 0) p_int) p_nil)) p_int) p_int)) (p_scons (p_asg (p_bin ob_mod (p_callTy bb_int T.b_int PyProof.Rows.boot_int (p_cons (p_bin ob_add (p_bin ob_add (p_bin ob_mul (p_sub (p_var 0) p_int) (p_var 3)) (p_bin ob_mul p_int (p_sub (p_var 0) p_int))) p_int) p_nil)) p_int) (p_asub 0 p_int)) (p_scons (p_ret (p_bin ob_mod (p_callTy bb_int T.b_int PyProof.Rows.boot_int (p_cons (p_bin ob_fdiv (p_sub (p_var 0) p_int) p_int) p_nil)) (p_var 1))) p_snil)))))
theorem sc__law_drawn_pattern : FnScope ["well", "most", "row", "at"] ["well", "most"] (defScope s__law_drawn_pattern) := ⟨rfl, rfl, rfl, by decide +kernel, rfl, by decide +kernel, by decide +kernel⟩
theorem ok__law_drawn_pattern (T : Tx K mg) {f : Addr} {fd : FuncData} (F__law_drawn_pattern : Fun K "_law_drawn_pattern" "_law_drawn_pattern" s__law_drawn_pattern f fd) : FnOk P w K mg base CX0 3 f fd ["well", "most"] (spF false K 2 g__law_drawn_pattern) := by
  obtain ⟨f__law_named, fd__law_named, m__law_named, F__law_named⟩ := T.d__law_named
  have G__law_named := ok__law_named (P := P) (w := w) (base := base) T F__law_named
  have B__law_named : L2.Binds K fd__law_named ["row"] [] := F__law_named.binds fun _ _ _ _ _ _ us hl => match us, hl with | [_], _ => rfl
  obtain ⟨f__law_take, fd__law_take, m__law_take, F__law_take⟩ := T.d__law_take
  have G__law_take := ok__law_take (P := P) (w := w) (base := base) T F__law_take
  have B__law_take : L2.Binds K fd__law_take ["well", "many"] [] := F__law_take.binds fun _ _ _ _ _ _ us hl => match us, hl with | [_, _], _ => rfl
  refine F__law_drawn_pattern.ok sc__law_drawn_pattern (fun vs H Q E h => h.1) (fun cdv A outer s H vs Q E hr h => ?_)
  obtain ⟨bs, z⟩ := def_body (N := ["well", "most", "row", "at"]) (m := 2) rfl h
  refine ⟨_, ?_, z⟩
  exact (p_scons (p_asgn 2 sc__law_drawn_pattern.nd (p_me tab_join p_str (p_cons (p_frz (p_lc (own := [("at", 3)]) (by decide) sc__law_drawn_pattern.nd (p_rng1 T.b_range (p_bin ob_add p_int (p_call ln__law_take F__law_take G__law_take (hr.mono (by first | decide | omega)) m__law_take B__law_take (p_cons (p_var 0) (p_cons (p_var 1) p_nil))))) (blk_mk rfl (by kernel_rfl)) (fun _ _ _ _ _ => (p_tgn 3 sc__law_drawn_pattern.nd)) (fun _ _ _ _ _ => p_ifs0) (fun _ _ _ _ _ => (p_sub p_str (p_call ln__law_take F__law_take G__law_take (hr.mono (by first | decide | omega)) m__law_take B__law_take (p_cons (p_var 0) (p_cons p_int p_nil))))))) p_nil))) (p_scons (p_ret (p_call ln__law_named F__law_named G__law_named (hr.mono (by first | decide | omega)) m__law_named B__law_named (p_cons (p_var 2) p_nil))) p_snil))
theorem sc__law_drawn_row : FnScope ["well", "most", "way", "size", "many", "row", "at"] ["well", "most"] (defScope s__law_drawn_row) := ⟨rfl, rfl, rfl, by decide +kernel, rfl, by decide +kernel, by decide +kernel⟩
theorem ok__law_drawn_row (T : Tx K mg) {f : Addr} {fd : FuncData} (F__law_drawn_row : Fun K "_law_drawn_row" "_law_drawn_row" s__law_drawn_row f fd) : FnOk P w K mg base CX0 2 f fd ["well", "most"] (spF false K 2 g__law_drawn_row) := by
  obtain ⟨f__law_take, fd__law_take, m__law_take, F__law_take⟩ := T.d__law_take
  have G__law_take := ok__law_take (P := P) (w := w) (base := base) T F__law_take
  have B__law_take : L2.Binds K fd__law_take ["well", "many"] [] := F__law_take.binds fun _ _ _ _ _ _ us hl => match us, hl with | [_, _], _ => rfl
  refine F__law_drawn_row.ok sc__law_drawn_row (fun vs H Q E h => h.1) (fun cdv A outer s H vs Q E hr h => ?_)
  obtain ⟨bs, z⟩ := def_body (N := ["well", "most", "way", "size", "many", "row", "at"]) (m := 5) rfl h
  refine ⟨_, ?_, z⟩
  exact (p_scons (p_parT (p_cons (p_call ln__law_take F__law_take G__law_take (hr.mono (by first | decide | omega)) m__law_take B__law_take (p_cons (p_var 0) (p_cons p_int p_nil))) (p_cons (p_call ln__law_take F__law_take G__law_take (hr.mono (by first | decide | omega)) m__law_take B__law_take (p_cons (p_var 0) (p_cons (p_bin ob_add (p_var 1) p_int) p_nil))) (p_cons (p_bin ob_add p_int (p_call ln__law_take F__law_take G__law_take (hr.mono (by first | decide | omega)) m__law_take B__law_take (p_cons (p_var 0) (p_cons p_int p_nil)))) p_nil))) (p_names 2 sc__law_drawn_row.nd (p_names 3 sc__law_drawn_row.nd (p_names 4 sc__law_drawn_row.nd p_names0)))) (p_scons (p_asgn 5 sc__law_drawn_row.nd (p_me tab_join p_str (p_cons (p_frz (p_lc (own := [("at", 6)]) (by decide) sc__law_drawn_row.nd (p_rng1 T.b_range (p_var 3)) (blk_mk rfl (by kernel_rfl)) (fun _ _ _ _ _ => (p_tgn 6 sc__law_drawn_row.nd)) (fun _ _ _ _ _ => p_ifs0) (fun _ _ _ _ _ => (p_sub p_str (p_call ln__law_take F__law_take G__law_take (hr.mono (by first | decide | omega)) m__law_take B__law_take (p_cons (p_var 0) (p_cons (p_var 4) p_nil))))))) p_nil))) (p_scons (p_ite (p_cmpT (ob_eq hr) (p_var 2) p_int) (p_scons (p_asgn 5 sc__law_drawn_row.nd (p_me tab_join p_str (p_cons (p_frz (p_callB (bb_sortedS rfl hr) T.b_sorted PyProof.Rows.boot_sorted (p_cons (p_var 5) p_nil))) p_nil))) p_snil) p_snil) (p_scons (p_ite (p_bool (p_andW (p_cmpT (ob_eq hr) (p_var 2) p_int) (p_last (p_cmpT ob_gt (p_var 3) p_int)))) (p_scons (p_asgn 5 sc__law_drawn_row.nd (p_me tab_join p_str (p_cons (p_frz (p_callB (bb_sortedS rfl hr) T.b_sorted PyProof.Rows.boot_sorted (p_cons (p_var 5) p_nil))) p_nil))) (p_scons (p_asgn 6 sc__law_drawn_row.nd (p_call ln__law_take F__law_take G__law_take (hr.mono (by first | decide | omega)) m__law_take B__law_take (p_cons (p_var 0) (p_cons (p_var 3) p_nil)))) (p_scons (p_asgn 5 sc__law_drawn_row.nd (p_bin ob_add (p_slL (p_var 5) (p_var 6)) (p_slH (p_var 5) (p_var 6)))) p_snil))) p_snil) (p_scons (p_ret (p_var 5)) p_snil)))))
theorem sc__law_is_row : FnScope ["value", "sock"] ["value"] (defScope s__law_is_row) := ⟨rfl, rfl, rfl, by decide +kernel, rfl, by decide +kernel, by decide +kernel⟩
theorem ok__law_is_row (T : Tx K mg) {f : Addr} {fd : FuncData} (F__law_is_row : Fun K "_law_is_row" "_law_is_row" s__law_is_row f fd) : FnOk P w K mg base CX0 1 f fd ["value"] (spF false K 1 g__law_is_row) := by

  refine F__law_is_row.ok sc__law_is_row (fun vs H Q E h => h.1) (fun cdv A outer s H vs Q E hr h => ?_)
  obtain ⟨bs, z⟩ := def_body (N := ["value", "sock"]) (m := 1) rfl h
  refine ⟨_, ?_, z⟩
  exact (p_scons (p_ret (p_and (p_isi .str T.b_isinstance T.b_str PyProof.Rows.boot_str (p_var 0)) (p_and (p_cmp ob_lt (p_callB bb_len T.b_len PySem.boot_len (p_cons (p_var 0) p_nil)) p_int) (p_one (p_cmp (ob_eq hr) (p_frz (p_lc (own := [("sock", 1)]) (by decide) sc__law_is_row.nd (p_it (p_var 0)) (blk_mk rfl (by kernel_rfl)) (fun _ _ _ _ _ => (p_tgn 1 sc__law_is_row.nd)) (fun _ _ _ _ _ => (p_ifs1 (p_cmpT (ob_notin hr) (p_var 1) p_str))) (fun _ _ _ _ _ => (p_var 1)))) (p_frz (p_lst p_dnil))))))) p_snil)
theorem sc__law_is_pattern : FnScope ["value"] ["value"] (defScope s__law_is_pattern) := ⟨rfl, rfl, rfl, by decide +kernel, rfl, by decide +kernel, by decide +kernel⟩
theorem ok__law_is_pattern (T : Tx K mg) {f : Addr} {fd : FuncData} (F__law_is_pattern : Fun K "_law_is_pattern" "_law_is_pattern" s__law_is_pattern f fd) : FnOk P w K mg base CX0 3 f fd ["value"] (spF false K 1 g__law_is_pattern) := by
  obtain ⟨f__law_named, fd__law_named, m__law_named, F__law_named⟩ := T.d__law_named
  have G__law_named := ok__law_named (P := P) (w := w) (base := base) T F__law_named
  have B__law_named : L2.Binds K fd__law_named ["row"] [] := F__law_named.binds fun _ _ _ _ _ _ us hl => match us, hl with | [_], _ => rfl
  obtain ⟨f__law_is_row, fd__law_is_row, m__law_is_row, F__law_is_row⟩ := T.d__law_is_row
  have G__law_is_row := ok__law_is_row (P := P) (w := w) (base := base) T F__law_is_row
  have B__law_is_row : L2.Binds K fd__law_is_row ["value"] [] := F__law_is_row.binds fun _ _ _ _ _ _ us hl => match us, hl with | [_], _ => rfl
  refine F__law_is_pattern.ok sc__law_is_pattern (fun vs H Q E h => h.1) (fun cdv A outer s H vs Q E hr h => ?_)
  obtain ⟨bs, z⟩ := def_body (N := ["value"]) (m := 0) rfl h
  refine ⟨_, ?_, z⟩
  exact (p_scons (p_ret (p_and (p_call ln__law_is_row F__law_is_row G__law_is_row (hr.mono (by first | decide | omega)) m__law_is_row B__law_is_row (p_cons (p_var 0) p_nil)) (p_and (p_cmp3 ob_lt ob_lt p_int (p_callB bb_len T.b_len PySem.boot_len (p_cons (p_var 0) p_nil)) p_int) (p_one (p_cmp (ob_eq hr) (p_call ln__law_named F__law_named G__law_named (hr.mono (by first | decide | omega)) m__law_named B__law_named (p_cons (p_var 0) p_nil)) (p_var 0)))))) p_snil)
theorem sc__law_is : FnScope ["one", "due", "at", "each"] ["one", "due"] (defScope s__law_is) := ⟨rfl, rfl, rfl, by decide +kernel, rfl, by decide +kernel, by decide +kernel⟩
theorem ok__law_is (T : Tx K mg) (n : Nat) {f : Addr} {fd : FuncData} (F__law_is : Fun K "_law_is" "_law_is" s__law_is f fd) (m__law_is : mg "_law_is" = some (.ref f)) : FnOk P w K mg base CX0 (1 + n) f fd ["one", "due"] (spF false K 2 (g__law_is n)) := by
  have B__law_is : L2.Binds K fd ["one", "due"] [] := F__law_is.binds fun _ _ _ _ _ _ us hl => match us, hl with | [_, _], _ => rfl
  induction n with
  | zero => exact ⟨fun vs H Q E h => h.1, fun A outer s H args us vs Q E hr he hb hv h => by obtain ⟨_, _, _, _, _, _, _, _, _, e, _⟩ := h; cases e⟩
  | succ n G__law_is =>
    refine F__law_is.ok sc__law_is (fun vs H Q E h => h.1) (fun cdv A outer s H vs Q E hr h => ?_)
    obtain ⟨bs, z⟩ := def_body (N := ["one", "due", "at", "each"]) (m := 2) rfl h
    refine ⟨_, ?_, z⟩
    exact (p_scons (p_ite (p_val (p_isi .tuple T.b_isinstance T.b_tuple PyProof.Rows.boot_tuple (p_var 1))) (p_scons (p_ite (p_bool (p_orW (p_notT (p_val (p_isi .tuple T.b_isinstance T.b_tuple PyProof.Rows.boot_tuple (p_var 0)))) (p_last (p_cmpT (ob_ne hr) (p_callB bb_len T.b_len PySem.boot_len (p_cons (p_var 0) p_nil)) (p_callB bb_len T.b_len PySem.boot_len (p_cons (p_var 1) p_nil)))))) (p_scons (p_ret p_bl) p_snil) p_snil) (p_scons (p_ret (p_callB (bb_all rfl) T.b_all PyProof.Rows.boot_all (p_cons (p_frz (p_lc (own := [("at", 2), ("each", 3)]) (by decide) sc__law_is.nd (p_enmT T.b_enumerate (p_var 1)) (blk_mk rfl (by kernel_rfl)) (fun _ _ _ _ _ => (p_tgt (p_tgcons (p_tgn 2 sc__law_is.nd) (p_tgcons (p_tgn 3 sc__law_is.nd) p_tgnil)))) (fun _ _ _ _ _ => p_ifs0) (fun _ _ _ _ _ => (p_call (ln__law_is _) F__law_is G__law_is hr m__law_is B__law_is (p_cons (p_sub (p_var 0) (p_var 2)) (p_cons (p_var 3) p_nil)))))) p_nil))) p_snil)) p_snil) (p_scons (p_ite (p_val (p_isi .list T.b_isinstance T.b_list PyProof.Rows.boot_list (p_var 1))) (p_scons (p_ret (p_and (p_isi .list T.b_isinstance T.b_list PyProof.Rows.boot_list (p_var 0)) (p_one (p_call (ln__law_is _) F__law_is G__law_is hr m__law_is B__law_is (p_cons (p_callTy bb_tuple T.b_tuple PyProof.Rows.boot_tuple (p_cons (p_var 0) p_nil)) (p_cons (p_callTy bb_tuple T.b_tuple PyProof.Rows.boot_tuple (p_cons (p_var 1) p_nil)) p_nil)))))) p_snil) p_snil) (p_scons (p_ite (p_val (p_isi .dict T.b_isinstance T.b_dict PyProof.Rows.boot_dict (p_var 1))) (p_scons (p_ret (p_and (p_isi .dict T.b_isinstance T.b_dict PyProof.Rows.boot_dict (p_var 0)) (p_one (p_cmp (ob_eqC hr) (p_var 0) (p_var 1))))) p_snil) p_snil) (p_scons (p_ite (p_bool (p_orW (p_cmpT ob_is (p_var 1) p_non) (p_orW (p_cmpT ob_is (p_var 1) p_bl) (p_last (p_cmpT ob_is (p_var 1) p_bl))))) (p_scons (p_ret (p_ifx (p_cmpT ob_is (p_var 1) p_non) (p_cmp ob_is (p_var 0) p_non) (p_ifx (p_cmpT ob_is (p_var 1) p_bl) (p_cmp ob_is (p_var 0) p_bl) (p_cmp ob_is (p_var 0) p_bl)))) p_snil) p_snil) (p_scons (p_ite (p_val (p_isi .int T.b_isinstance T.b_int PyProof.Rows.boot_int (p_var 1))) (p_scons (p_ret (p_and (p_isi .int T.b_isinstance T.b_int PyProof.Rows.boot_int (p_var 0)) (p_and (p_not (p_isi .bool T.b_isinstance T.b_bool PyProof.Rows.boot_bool (p_var 0))) (p_one (p_cmp (ob_eqC hr) (p_var 0) (p_var 1)))))) p_snil) p_snil) (p_scons (p_ret (p_and (p_isi .str T.b_isinstance T.b_str PyProof.Rows.boot_str (p_var 0)) (p_one (p_cmp (ob_eqC hr) (p_var 0) (p_var 1))))) p_snil))))))
theorem sc_is_text_of : FnScope ["value", "signs", "sign"] ["value", "signs"] (defScope s_is_text_of) := ⟨rfl, rfl, rfl, by decide +kernel, rfl, by decide +kernel, by decide +kernel⟩
theorem ok_is_text_of (T : Tx K mg) {f : Addr} {fd : FuncData} (F_is_text_of : Fun K "is_text_of" "is_text_of" s_is_text_of f fd) : FnOk P w K mg base CX0 1 f fd ["value", "signs"] (spF false K 2 g_is_text_of) := by

  refine F_is_text_of.ok sc_is_text_of (fun vs H Q E h => h.1) (fun cdv A outer s H vs Q E hr h => ?_)
  obtain ⟨bs, z⟩ := def_body (N := ["value", "signs", "sign"]) (m := 1) rfl h
  refine ⟨_, ?_, z⟩
  exact (p_scons (p_ret (p_and (p_isi .str T.b_isinstance T.b_str PyProof.Rows.boot_str (p_var 0)) (p_one (p_callB (bb_all rfl) T.b_all PyProof.Rows.boot_all (p_cons (p_frz (p_lc (own := [("sign", 2)]) (by decide) sc_is_text_of.nd (p_it (p_var 0)) (blk_mk rfl (by kernel_rfl)) (fun _ _ _ _ _ => (p_tgn 2 sc_is_text_of.nd)) (fun _ _ _ _ _ => p_ifs0) (fun _ _ _ _ _ => (p_cmp (ob_in hr) (p_var 2) (p_var 1))))) p_nil))))) p_snil)
theorem sc_is_rowed : FnScope ["value"] ["value"] (defScope s_is_rowed) := ⟨rfl, rfl, rfl, by decide +kernel, rfl, by decide +kernel, by decide +kernel⟩
theorem ok_is_rowed (T : Tx K mg) {f : Addr} {fd : FuncData} (F_is_rowed : Fun K "is_rowed" "is_rowed" s_is_rowed f fd) : FnOk P w K mg base CX0 2 f fd ["value"] (spF false K 1 g_is_rowed) := by
  obtain ⟨f_is_text_of, fd_is_text_of, m_is_text_of, F_is_text_of⟩ := T.d_is_text_of
  have G_is_text_of := ok_is_text_of (P := P) (w := w) (base := base) T F_is_text_of
  have B_is_text_of : L2.Binds K fd_is_text_of ["value", "signs"] [] := F_is_text_of.binds fun _ _ _ _ _ _ us hl => match us, hl with | [_, _], _ => rfl
  refine F_is_rowed.ok sc_is_rowed (fun vs H Q E h => h.1) (fun cdv A outer s H vs Q E hr h => ?_)
  obtain ⟨bs, z⟩ := def_body (N := ["value"]) (m := 0) rfl h
  refine ⟨_, ?_, z⟩
  exact (p_scons (p_ret (p_and (p_call ln_is_text_of F_is_text_of G_is_text_of (hr.mono (by first | decide | omega)) m_is_text_of B_is_text_of (p_cons (p_var 0) (p_cons (p_glob T.c_COLOURS) p_nil))) (p_one (p_cmp ob_le (p_callB bb_len T.b_len PySem.boot_len (p_cons (p_var 0) p_nil)) (p_glob T.c_MOST_SOCKS))))) p_snil)
theorem sc_check_row : FnScope ["row"] ["row"] (defScope s_check_row) := ⟨rfl, rfl, rfl, by decide +kernel, rfl, by decide +kernel, by decide +kernel⟩
theorem ok_check_row (T : Tx K mg) {f : Addr} {fd : FuncData} (F_check_row : Fun K "check_row" "check_row" s_check_row f fd) : FnOk P w K mg base CX0 3 f fd ["row"] (spF false K 1 g_check_row) := by
  obtain ⟨f_is_rowed, fd_is_rowed, m_is_rowed, F_is_rowed⟩ := T.d_is_rowed
  have G_is_rowed := ok_is_rowed (P := P) (w := w) (base := base) T F_is_rowed
  have B_is_rowed : L2.Binds K fd_is_rowed ["value"] [] := F_is_rowed.binds fun _ _ _ _ _ _ us hl => match us, hl with | [_], _ => rfl
  refine F_check_row.ok sc_check_row (fun vs H Q E h => h.1) (fun cdv A outer s H vs Q E hr h => ?_)
  obtain ⟨bs, z⟩ := def_body (N := ["row"]) (m := 0) rfl h
  refine ⟨_, ?_, z⟩
  exact (p_scons (p_ite (p_notT (p_val (p_call ln_is_rowed F_is_rowed G_is_rowed (hr.mono (by first | decide | omega)) m_is_rowed B_is_rowed (p_cons (p_var 0) p_nil)))) (p_scons p_never p_snil) p_snil) p_snil)
theorem sc_colours_by : FnScope ["row", "colour"] ["row"] (defScope s_colours_by) := ⟨rfl, rfl, rfl, by decide +kernel, rfl, by decide +kernel, by decide +kernel⟩
theorem ok_colours_by (T : Tx K mg) {f : Addr} {fd : FuncData} (F_colours_by : Fun K "colours_by" "colours_by" s_colours_by f fd) : FnOk P w K mg base CX0 1 f fd ["row"] (spF false K 1 g_colours_by) := by

  refine F_colours_by.ok sc_colours_by (fun vs H Q E h => h.1) (fun cdv A outer s H vs Q E hr h => ?_)
  obtain ⟨bs, z⟩ := def_body (N := ["row", "colour"]) (m := 1) rfl h
  refine ⟨_, ?_, z⟩
  exact (p_scons (p_ret (p_jd (own := [("colour", 1)]) (by decide) sc_colours_by.nd (p_it (p_var 0)) (blk_mk rfl (by kernel_rfl)) (fun _ _ _ _ _ => (p_tgn 1 sc_colours_by.nd)) (fun _ _ _ _ _ => p_ifs0) (fun _ _ _ _ _ => (p_var 1)))) p_snil)
theorem sc_named_by : FnScope ["row", "colours", "colour"] ["row"] (defScope s_named_by) := ⟨rfl, rfl, rfl, by decide +kernel, rfl, by decide +kernel, by decide +kernel⟩
theorem ok_named_by (T : Tx K mg) {f : Addr} {fd : FuncData} (F_named_by : Fun K "named_by" "named_by" s_named_by f fd) : FnOk P w K mg base CX0 2 f fd ["row"] (spF false K 1 g_named_by) := by
  obtain ⟨f_colours_by, fd_colours_by, m_colours_by, F_colours_by⟩ := T.d_colours_by
  have G_colours_by := ok_colours_by (P := P) (w := w) (base := base) T F_colours_by
  have B_colours_by : L2.Binds K fd_colours_by ["row"] [] := F_colours_by.binds fun _ _ _ _ _ _ us hl => match us, hl with | [_], _ => rfl
  refine F_named_by.ok sc_named_by (fun vs H Q E h => h.1) (fun cdv A outer s H vs Q E hr h => ?_)
  obtain ⟨bs, z⟩ := def_body (N := ["row", "colours", "colour"]) (m := 2) rfl h
  refine ⟨_, ?_, z⟩
  exact (p_scons (p_asgn 1 sc_named_by.nd (p_call ln_colours_by F_colours_by G_colours_by (hr.mono (by first | decide | omega)) m_colours_by B_colours_by (p_cons (p_var 0) p_nil))) (p_scons (p_ret (p_me tab_join p_str (p_cons (p_frz (p_lc (own := [("colour", 2)]) (by decide) sc_named_by.nd (p_it (p_var 0)) (blk_mk rfl (by kernel_rfl)) (fun _ _ _ _ _ => (p_tgn 2 sc_named_by.nd)) (fun _ _ _ _ _ => p_ifs0) (fun _ _ _ _ _ => (p_sub (p_glob T.c_COLOURS) (p_me (tab_index hr) (p_var 1) (p_cons (p_var 2) p_nil)))))) p_nil))) p_snil))
theorem sc_is_named : FnScope ["row"] ["row"] (defScope s_is_named) := ⟨rfl, rfl, rfl, by decide +kernel, rfl, by decide +kernel, by decide +kernel⟩
theorem ok_is_named (T : Tx K mg) {f : Addr} {fd : FuncData} (F_is_named : Fun K "is_named" "is_named" s_is_named f fd) : FnOk P w K mg base CX0 3 f fd ["row"] (spF false K 1 g_is_named) := by
  obtain ⟨f_named_by, fd_named_by, m_named_by, F_named_by⟩ := T.d_named_by
  have G_named_by := ok_named_by (P := P) (w := w) (base := base) T F_named_by
  have B_named_by : L2.Binds K fd_named_by ["row"] [] := F_named_by.binds fun _ _ _ _ _ _ us hl => match us, hl with | [_], _ => rfl
  refine F_is_named.ok sc_is_named (fun vs H Q E h => h.1) (fun cdv A outer s H vs Q E hr h => ?_)
  obtain ⟨bs, z⟩ := def_body (N := ["row"]) (m := 0) rfl h
  refine ⟨_, ?_, z⟩
  exact (p_scons (p_ret (p_cmp (ob_eq hr) (p_call ln_named_by F_named_by G_named_by (hr.mono (by first | decide | omega)) m_named_by B_named_by (p_cons (p_var 0) p_nil)) (p_var 0))) p_snil)
theorem sc_is_patterned : FnScope ["value"] ["value"] (defScope s_is_patterned) := ⟨rfl, rfl, rfl, by decide +kernel, rfl, by decide +kernel, by decide +kernel⟩
theorem ok_is_patterned (T : Tx K mg) {f : Addr} {fd : FuncData} (F_is_patterned : Fun K "is_patterned" "is_patterned" s_is_patterned f fd) : FnOk P w K mg base CX0 4 f fd ["value"] (spF false K 1 g_is_patterned) := by
  obtain ⟨f_is_rowed, fd_is_rowed, m_is_rowed, F_is_rowed⟩ := T.d_is_rowed
  have G_is_rowed := ok_is_rowed (P := P) (w := w) (base := base) T F_is_rowed
  have B_is_rowed : L2.Binds K fd_is_rowed ["value"] [] := F_is_rowed.binds fun _ _ _ _ _ _ us hl => match us, hl with | [_], _ => rfl
  obtain ⟨f_is_named, fd_is_named, m_is_named, F_is_named⟩ := T.d_is_named
  have G_is_named := ok_is_named (P := P) (w := w) (base := base) T F_is_named
  have B_is_named : L2.Binds K fd_is_named ["row"] [] := F_is_named.binds fun _ _ _ _ _ _ us hl => match us, hl with | [_], _ => rfl
  refine F_is_patterned.ok sc_is_patterned (fun vs H Q E h => h.1) (fun cdv A outer s H vs Q E hr h => ?_)
  obtain ⟨bs, z⟩ := def_body (N := ["value"]) (m := 0) rfl h
  refine ⟨_, ?_, z⟩
  exact (p_scons (p_ret (p_and (p_call ln_is_rowed F_is_rowed G_is_rowed (hr.mono (by first | decide | omega)) m_is_rowed B_is_rowed (p_cons (p_var 0) p_nil)) (p_and (p_cmp3 ob_le ob_le p_int (p_callB bb_len T.b_len PySem.boot_len (p_cons (p_var 0) p_nil)) (p_glob T.c_LONGEST_PATTERN)) (p_one (p_call ln_is_named F_is_named G_is_named (hr.mono (by first | decide | omega)) m_is_named B_is_named (p_cons (p_var 0) p_nil)))))) p_snil)
theorem sc_check_pattern : FnScope ["pattern"] ["pattern"] (defScope s_check_pattern) := ⟨rfl, rfl, rfl, by decide +kernel, rfl, by decide +kernel, by decide +kernel⟩
theorem ok_check_pattern (T : Tx K mg) {f : Addr} {fd : FuncData} (F_check_pattern : Fun K "check_pattern" "check_pattern" s_check_pattern f fd) : FnOk P w K mg base CX0 5 f fd ["pattern"] (spF false K 1 g_check_pattern) := by
  obtain ⟨f_is_patterned, fd_is_patterned, m_is_patterned, F_is_patterned⟩ := T.d_is_patterned
  have G_is_patterned := ok_is_patterned (P := P) (w := w) (base := base) T F_is_patterned
  have B_is_patterned : L2.Binds K fd_is_patterned ["value"] [] := F_is_patterned.binds fun _ _ _ _ _ _ us hl => match us, hl with | [_], _ => rfl
  refine F_check_pattern.ok sc_check_pattern (fun vs H Q E h => h.1) (fun cdv A outer s H vs Q E hr h => ?_)
  obtain ⟨bs, z⟩ := def_body (N := ["pattern"]) (m := 0) rfl h
  refine ⟨_, ?_, z⟩
  exact (p_scons (p_ite (p_notT (p_val (p_call ln_is_patterned F_is_patterned G_is_patterned (hr.mono (by first | decide | omega)) m_is_patterned B_is_patterned (p_cons (p_var 0) p_nil)))) (p_scons p_never p_snil) p_snil) p_snil)
theorem sc_check_row_pattern : FnScope ["row", "pattern"] ["row", "pattern"] (defScope s_check_row_pattern) := ⟨rfl, rfl, rfl, by decide +kernel, rfl, by decide +kernel, by decide +kernel⟩
theorem ok_check_row_pattern (T : Tx K mg) {f : Addr} {fd : FuncData} (F_check_row_pattern : Fun K "check_row_pattern" "check_row_pattern" s_check_row_pattern f fd) : FnOk P w K mg base CX0 6 f fd ["row", "pattern"] (spF false K 2 g_check_row_pattern) := by
  obtain ⟨f_check_row, fd_check_row, m_check_row, F_check_row⟩ := T.d_check_row
  have G_check_row := ok_check_row (P := P) (w := w) (base := base) T F_check_row
  have B_check_row : L2.Binds K fd_check_row ["row"] [] := F_check_row.binds fun _ _ _ _ _ _ us hl => match us, hl with | [_], _ => rfl
  obtain ⟨f_check_pattern, fd_check_pattern, m_check_pattern, F_check_pattern⟩ := T.d_check_pattern
  have G_check_pattern := ok_check_pattern (P := P) (w := w) (base := base) T F_check_pattern
  have B_check_pattern : L2.Binds K fd_check_pattern ["pattern"] [] := F_check_pattern.binds fun _ _ _ _ _ _ us hl => match us, hl with | [_], _ => rfl
  refine F_check_row_pattern.ok sc_check_row_pattern (fun vs H Q E h => h.1) (fun cdv A outer s H vs Q E hr h => ?_)
  obtain ⟨bs, z⟩ := def_body (N := ["row", "pattern"]) (m := 0) rfl h
  refine ⟨_, ?_, z⟩
  exact (p_scons (p_ex (p_call ln_check_row F_check_row G_check_row (hr.mono (by first | decide | omega)) m_check_row B_check_row (p_cons (p_var 0) p_nil))) (p_scons (p_ex (p_call ln_check_pattern F_check_pattern G_check_pattern (hr.mono (by first | decide | omega)) m_check_pattern B_check_pattern (p_cons (p_var 1) p_nil))) p_snil))
theorem sc_socks_at : FnScope ["row", "places", "place"] ["row", "places"] (defScope s_socks_at) := ⟨rfl, rfl, rfl, by decide +kernel, rfl, by decide +kernel, by decide +kernel⟩
theorem ok_socks_at (T : Tx K mg) {f : Addr} {fd : FuncData} (F_socks_at : Fun K "socks_at" "socks_at" s_socks_at f fd) : FnOk P w K mg base CX0 1 f fd ["row", "places"] (spF false K 2 g_socks_at) := by

  refine F_socks_at.ok sc_socks_at (fun vs H Q E h => h.1) (fun cdv A outer s H vs Q E hr h => ?_)
  obtain ⟨bs, z⟩ := def_body (N := ["row", "places", "place"]) (m := 1) rfl h
  refine ⟨_, ?_, z⟩
  exact (p_scons (p_ret (p_me tab_join p_str (p_cons (p_frz (p_lc (own := [("place", 2)]) (by decide) sc_socks_at.nd (p_it (p_var 1)) (blk_mk rfl (by kernel_rfl)) (fun _ _ _ _ _ => (p_tgn 2 sc_socks_at.nd)) (fun _ _ _ _ _ => p_ifs0) (fun _ _ _ _ _ => (p_sub (p_var 0) (p_var 2))))) p_nil))) p_snil)
theorem sc_places_held : FnScope ["row", "pattern", "some", "places"] ["row", "pattern"] (defScope s_places_held) := ⟨rfl, rfl, rfl, by decide +kernel, rfl, by decide +kernel, by decide +kernel⟩
theorem ok_places_held (T : Tx K mg) {f : Addr} {fd : FuncData} (F_places_held : Fun K "places_held" "places_held" s_places_held f fd) : FnOk P w K mg base CX0 3 f fd ["row", "pattern"] (spF false K 2 g_places_held) := by
  obtain ⟨f_named_by, fd_named_by, m_named_by, F_named_by⟩ := T.d_named_by
  have G_named_by := ok_named_by (P := P) (w := w) (base := base) T F_named_by
  have B_named_by : L2.Binds K fd_named_by ["row"] [] := F_named_by.binds fun _ _ _ _ _ _ us hl => match us, hl with | [_], _ => rfl
  obtain ⟨f_socks_at, fd_socks_at, m_socks_at, F_socks_at⟩ := T.d_socks_at
  have G_socks_at := ok_socks_at (P := P) (w := w) (base := base) T F_socks_at
  have B_socks_at : L2.Binds K fd_socks_at ["row", "places"] [] := F_socks_at.binds fun _ _ _ _ _ _ us hl => match us, hl with | [_, _], _ => rfl
  refine F_places_held.ok sc_places_held (fun vs H Q E h => h.1) (fun cdv A outer s H vs Q E hr h => ?_)
  obtain ⟨bs, z⟩ := def_body (N := ["row", "pattern", "some", "places"]) (m := 2) rfl h
  refine ⟨_, ?_, z⟩
  exact (p_scons (p_asgn 2 sc_places_held.nd (p_frz (p_comb T.b_list T.y_combinations rfl (p_cons (p_frz (p_lrg T.b_list T.b_range (p_callB bb_len T.b_len PySem.boot_len (p_cons (p_var 0) p_nil)))) (p_cons (p_callB bb_len T.b_len PySem.boot_len (p_cons (p_var 1) p_nil)) p_nil))))) (p_scons (p_ret (p_frz (p_lc (own := [("places", 3)]) (by decide) sc_places_held.nd (p_it (p_var 2)) (blk_mk rfl (by kernel_rfl)) (fun _ _ _ _ _ => (p_tgn 3 sc_places_held.nd)) (fun _ _ _ _ _ => (p_ifs1 (p_cmpT (ob_eq hr) (p_call ln_named_by F_named_by G_named_by (hr.mono (by first | decide | omega)) m_named_by B_named_by (p_cons (p_call ln_socks_at F_socks_at G_socks_at (hr.mono (by first | decide | omega)) m_socks_at B_socks_at (p_cons (p_var 0) (p_cons (p_var 3) p_nil))) p_nil)) (p_var 1)))) (fun _ _ _ _ _ => (p_var 3))))) p_snil))
theorem sc_does_hold_by : FnScope ["row", "pattern"] ["row", "pattern"] (defScope s_does_hold_by) := ⟨rfl, rfl, rfl, by decide +kernel, rfl, by decide +kernel, by decide +kernel⟩
theorem ok_does_hold_by (T : Tx K mg) {f : Addr} {fd : FuncData} (F_does_hold_by : Fun K "does_hold_by" "does_hold_by" s_does_hold_by f fd) : FnOk P w K mg base CX0 4 f fd ["row", "pattern"] (spF false K 2 g_does_hold_by) := by
  obtain ⟨f_places_held, fd_places_held, m_places_held, F_places_held⟩ := T.d_places_held
  have G_places_held := ok_places_held (P := P) (w := w) (base := base) T F_places_held
  have B_places_held : L2.Binds K fd_places_held ["row", "pattern"] [] := F_places_held.binds fun _ _ _ _ _ _ us hl => match us, hl with | [_, _], _ => rfl
  refine F_does_hold_by.ok sc_does_hold_by (fun vs H Q E h => h.1) (fun cdv A outer s H vs Q E hr h => ?_)
  obtain ⟨bs, z⟩ := def_body (N := ["row", "pattern"]) (m := 0) rfl h
  refine ⟨_, ?_, z⟩
  exact (p_scons (p_ret (p_cmp (ob_ne hr) (p_call ln_places_held F_places_held G_places_held (hr.mono (by first | decide | omega)) m_places_held B_places_held (p_cons (p_var 0) (p_cons (p_var 1) p_nil))) (p_frz (p_lst p_dnil)))) p_snil)
theorem sc_does_hold : FnScope ["row", "pattern"] ["row", "pattern"] (defScope s_does_hold) := ⟨rfl, rfl, rfl, by decide +kernel, rfl, by decide +kernel, by decide +kernel⟩
theorem ok_does_hold (T : Tx K mg) {f : Addr} {fd : FuncData} (F_does_hold : Fun K "does_hold" "does_hold" s_does_hold f fd) : FnOk P w K mg base CX0 7 f fd ["row", "pattern"] (spF false K 2 g_does_hold) := by
  obtain ⟨f_check_row_pattern, fd_check_row_pattern, m_check_row_pattern, F_check_row_pattern⟩ := T.d_check_row_pattern
  have G_check_row_pattern := ok_check_row_pattern (P := P) (w := w) (base := base) T F_check_row_pattern
  have B_check_row_pattern : L2.Binds K fd_check_row_pattern ["row", "pattern"] [] := F_check_row_pattern.binds fun _ _ _ _ _ _ us hl => match us, hl with | [_, _], _ => rfl
  obtain ⟨f_does_hold_by, fd_does_hold_by, m_does_hold_by, F_does_hold_by⟩ := T.d_does_hold_by
  have G_does_hold_by := ok_does_hold_by (P := P) (w := w) (base := base) T F_does_hold_by
  have B_does_hold_by : L2.Binds K fd_does_hold_by ["row", "pattern"] [] := F_does_hold_by.binds fun _ _ _ _ _ _ us hl => match us, hl with | [_, _], _ => rfl
  refine F_does_hold.ok sc_does_hold (fun vs H Q E h => h.1) (fun cdv A outer s H vs Q E hr h => ?_)
  obtain ⟨bs, z⟩ := def_body (N := ["row", "pattern"]) (m := 0) rfl h
  refine ⟨_, ?_, z⟩
  exact (p_scons (p_ex (p_call ln_check_row_pattern F_check_row_pattern G_check_row_pattern (hr.mono (by first | decide | omega)) m_check_row_pattern B_check_row_pattern (p_cons (p_var 0) (p_cons (p_var 1) p_nil)))) (p_scons (p_ret (p_call ln_does_hold_by F_does_hold_by G_does_hold_by (hr.mono (by first | decide | omega)) m_does_hold_by B_does_hold_by (p_cons (p_var 0) (p_cons (p_var 1) p_nil)))) p_snil))
theorem sc_first_places_by : FnScope ["row", "pattern"] ["row", "pattern"] (defScope s_first_places_by) := ⟨rfl, rfl, rfl, by decide +kernel, rfl, by decide +kernel, by decide +kernel⟩
theorem ok_first_places_by (T : Tx K mg) {f : Addr} {fd : FuncData} (F_first_places_by : Fun K "first_places_by" "first_places_by" s_first_places_by f fd) : FnOk P w K mg base CX0 4 f fd ["row", "pattern"] (spF false K 2 g_first_places_by) := by
  obtain ⟨f_places_held, fd_places_held, m_places_held, F_places_held⟩ := T.d_places_held
  have G_places_held := ok_places_held (P := P) (w := w) (base := base) T F_places_held
  have B_places_held : L2.Binds K fd_places_held ["row", "pattern"] [] := F_places_held.binds fun _ _ _ _ _ _ us hl => match us, hl with | [_, _], _ => rfl
  refine F_first_places_by.ok sc_first_places_by (fun vs H Q E h => h.1) (fun cdv A outer s H vs Q E hr h => ?_)
  obtain ⟨bs, z⟩ := def_body (N := ["row", "pattern"]) (m := 0) rfl h
  refine ⟨_, ?_, z⟩
  exact (p_scons (p_ret (p_dflt_minT hr T.b_min (p_cons (p_call ln_places_held F_places_held G_places_held (hr.mono (by first | decide | omega)) m_places_held B_places_held (p_cons (p_var 0) (p_cons (p_var 1) p_nil))) p_nil) (p_kcons p_non p_knil))) p_snil)
theorem sc_first_places : FnScope ["row", "pattern"] ["row", "pattern"] (defScope s_first_places) := ⟨rfl, rfl, rfl, by decide +kernel, rfl, by decide +kernel, by decide +kernel⟩
theorem ok_first_places (T : Tx K mg) {f : Addr} {fd : FuncData} (F_first_places : Fun K "first_places" "first_places" s_first_places f fd) : FnOk P w K mg base CX0 7 f fd ["row", "pattern"] (spF false K 2 g_first_places) := by
  obtain ⟨f_check_row_pattern, fd_check_row_pattern, m_check_row_pattern, F_check_row_pattern⟩ := T.d_check_row_pattern
  have G_check_row_pattern := ok_check_row_pattern (P := P) (w := w) (base := base) T F_check_row_pattern
  have B_check_row_pattern : L2.Binds K fd_check_row_pattern ["row", "pattern"] [] := F_check_row_pattern.binds fun _ _ _ _ _ _ us hl => match us, hl with | [_, _], _ => rfl
  obtain ⟨f_first_places_by, fd_first_places_by, m_first_places_by, F_first_places_by⟩ := T.d_first_places_by
  have G_first_places_by := ok_first_places_by (P := P) (w := w) (base := base) T F_first_places_by
  have B_first_places_by : L2.Binds K fd_first_places_by ["row", "pattern"] [] := F_first_places_by.binds fun _ _ _ _ _ _ us hl => match us, hl with | [_, _], _ => rfl
  refine F_first_places.ok sc_first_places (fun vs H Q E h => h.1) (fun cdv A outer s H vs Q E hr h => ?_)
  obtain ⟨bs, z⟩ := def_body (N := ["row", "pattern"]) (m := 0) rfl h
  refine ⟨_, ?_, z⟩
  exact (p_scons (p_ex (p_call ln_check_row_pattern F_check_row_pattern G_check_row_pattern (hr.mono (by first | decide | omega)) m_check_row_pattern B_check_row_pattern (p_cons (p_var 0) (p_cons (p_var 1) p_nil)))) (p_scons (p_ret (p_call ln_first_places_by F_first_places_by G_first_places_by (hr.mono (by first | decide | omega)) m_first_places_by B_first_places_by (p_cons (p_var 0) (p_cons (p_var 1) p_nil)))) p_snil))
theorem sc_hold_count : FnScope ["row", "pattern"] ["row", "pattern"] (defScope s_hold_count) := ⟨rfl, rfl, rfl, by decide +kernel, rfl, by decide +kernel, by decide +kernel⟩
theorem ok_hold_count (T : Tx K mg) {f : Addr} {fd : FuncData} (F_hold_count : Fun K "hold_count" "hold_count" s_hold_count f fd) : FnOk P w K mg base CX0 7 f fd ["row", "pattern"] (spF false K 2 g_hold_count) := by
  obtain ⟨f_check_row_pattern, fd_check_row_pattern, m_check_row_pattern, F_check_row_pattern⟩ := T.d_check_row_pattern
  have G_check_row_pattern := ok_check_row_pattern (P := P) (w := w) (base := base) T F_check_row_pattern
  have B_check_row_pattern : L2.Binds K fd_check_row_pattern ["row", "pattern"] [] := F_check_row_pattern.binds fun _ _ _ _ _ _ us hl => match us, hl with | [_, _], _ => rfl
  obtain ⟨f_places_held, fd_places_held, m_places_held, F_places_held⟩ := T.d_places_held
  have G_places_held := ok_places_held (P := P) (w := w) (base := base) T F_places_held
  have B_places_held : L2.Binds K fd_places_held ["row", "pattern"] [] := F_places_held.binds fun _ _ _ _ _ _ us hl => match us, hl with | [_, _], _ => rfl
  refine F_hold_count.ok sc_hold_count (fun vs H Q E h => h.1) (fun cdv A outer s H vs Q E hr h => ?_)
  obtain ⟨bs, z⟩ := def_body (N := ["row", "pattern"]) (m := 0) rfl h
  refine ⟨_, ?_, z⟩
  exact (p_scons (p_ex (p_call ln_check_row_pattern F_check_row_pattern G_check_row_pattern (hr.mono (by first | decide | omega)) m_check_row_pattern B_check_row_pattern (p_cons (p_var 0) (p_cons (p_var 1) p_nil)))) (p_scons (p_ret (p_callB bb_len T.b_len PySem.boot_len (p_cons (p_call ln_places_held F_places_held G_places_held (hr.mono (by first | decide | omega)) m_places_held B_places_held (p_cons (p_var 0) (p_cons (p_var 1) p_nil))) p_nil))) p_snil))
theorem sc_named : FnScope ["row"] ["row"] (defScope s_named) := ⟨rfl, rfl, rfl, by decide +kernel, rfl, by decide +kernel, by decide +kernel⟩
theorem ok_named (T : Tx K mg) {f : Addr} {fd : FuncData} (F_named : Fun K "named" "named" s_named f fd) : FnOk P w K mg base CX0 4 f fd ["row"] (spF false K 1 g_named) := by
  obtain ⟨f_check_row, fd_check_row, m_check_row, F_check_row⟩ := T.d_check_row
  have G_check_row := ok_check_row (P := P) (w := w) (base := base) T F_check_row
  have B_check_row : L2.Binds K fd_check_row ["row"] [] := F_check_row.binds fun _ _ _ _ _ _ us hl => match us, hl with | [_], _ => rfl
  obtain ⟨f_named_by, fd_named_by, m_named_by, F_named_by⟩ := T.d_named_by
  have G_named_by := ok_named_by (P := P) (w := w) (base := base) T F_named_by
  have B_named_by : L2.Binds K fd_named_by ["row"] [] := F_named_by.binds fun _ _ _ _ _ _ us hl => match us, hl with | [_], _ => rfl
  refine F_named.ok sc_named (fun vs H Q E h => h.1) (fun cdv A outer s H vs Q E hr h => ?_)
  obtain ⟨bs, z⟩ := def_body (N := ["row"]) (m := 0) rfl h
  refine ⟨_, ?_, z⟩
  exact (p_scons (p_ex (p_call ln_check_row F_check_row G_check_row (hr.mono (by first | decide | omega)) m_check_row B_check_row (p_cons (p_var 0) p_nil))) (p_scons (p_ret (p_call ln_named_by F_named_by G_named_by (hr.mono (by first | decide | omega)) m_named_by B_named_by (p_cons (p_var 0) p_nil))) p_snil))
theorem sc_is_whole : FnScope ["value"] ["value"] (defScope s_is_whole) := ⟨rfl, rfl, rfl, by decide +kernel, rfl, by decide +kernel, by decide +kernel⟩
theorem ok_is_whole (T : Tx K mg) {f : Addr} {fd : FuncData} (F_is_whole : Fun K "is_whole" "is_whole" s_is_whole f fd) : FnOk P w K mg base CX0 1 f fd ["value"] (spF false K 1 g_is_whole) := by

  refine F_is_whole.ok sc_is_whole (fun vs H Q E h => h.1) (fun cdv A outer s H vs Q E hr h => ?_)
  obtain ⟨bs, z⟩ := def_body (N := ["value"]) (m := 0) rfl h
  refine ⟨_, ?_, z⟩
  exact (p_scons (p_ret (p_and (p_isi .int T.b_isinstance T.b_int PyProof.Rows.boot_int (p_var 0)) (p_one (p_not (p_isi .bool T.b_isinstance T.b_bool PyProof.Rows.boot_bool (p_var 0)))))) p_snil)
theorem sc_is_between : FnScope ["value", "low", "high"] ["value", "low", "high"] (defScope s_is_between) := ⟨rfl, rfl, rfl, by decide +kernel, rfl, by decide +kernel, by decide +kernel⟩
theorem ok_is_between (T : Tx K mg) {f : Addr} {fd : FuncData} (F_is_between : Fun K "is_between" "is_between" s_is_between f fd) : FnOk P w K mg base CX0 2 f fd ["value", "low", "high"] (spF false K 3 g_is_between) := by
  obtain ⟨f_is_whole, fd_is_whole, m_is_whole, F_is_whole⟩ := T.d_is_whole
  have G_is_whole := ok_is_whole (P := P) (w := w) (base := base) T F_is_whole
  have B_is_whole : L2.Binds K fd_is_whole ["value"] [] := F_is_whole.binds fun _ _ _ _ _ _ us hl => match us, hl with | [_], _ => rfl
  refine F_is_between.ok sc_is_between (fun vs H Q E h => h.1) (fun cdv A outer s H vs Q E hr h => ?_)
  obtain ⟨bs, z⟩ := def_body (N := ["value", "low", "high"]) (m := 0) rfl h
  refine ⟨_, ?_, z⟩
  exact (p_scons (p_ret (p_and (p_call ln_is_whole F_is_whole G_is_whole (hr.mono (by first | decide | omega)) m_is_whole B_is_whole (p_cons (p_var 0) p_nil)) (p_one (p_cmp3 ob_le ob_le (p_var 1) (p_var 0) (p_var 2))))) p_snil)
theorem sc_check_size : FnScope ["size", "low", "high"] ["size", "low", "high"] (defScope s_check_size) := ⟨rfl, rfl, rfl, by decide +kernel, rfl, by decide +kernel, by decide +kernel⟩
theorem ok_check_size (T : Tx K mg) {f : Addr} {fd : FuncData} (F_check_size : Fun K "check_size" "check_size" s_check_size f fd) : FnOk P w K mg base CX0 3 f fd ["size", "low", "high"] (spF false K 3 g_check_size) := by
  obtain ⟨f_is_between, fd_is_between, m_is_between, F_is_between⟩ := T.d_is_between
  have G_is_between := ok_is_between (P := P) (w := w) (base := base) T F_is_between
  have B_is_between : L2.Binds K fd_is_between ["value", "low", "high"] [] := F_is_between.binds fun _ _ _ _ _ _ us hl => match us, hl with | [_, _, _], _ => rfl
  refine F_check_size.ok sc_check_size (fun vs H Q E h => h.1) (fun cdv A outer s H vs Q E hr h => ?_)
  obtain ⟨bs, z⟩ := def_body (N := ["size", "low", "high"]) (m := 0) rfl h
  refine ⟨_, ?_, z⟩
  exact (p_scons (p_ite (p_notT (p_val (p_call ln_is_between F_is_between G_is_between (hr.mono (by first | decide | omega)) m_is_between B_is_between (p_cons (p_var 0) (p_cons (p_var 1) (p_cons (p_var 2) p_nil)))))) (p_scons p_never p_snil) p_snil) p_snil)
theorem sc_patterns_by : FnScope ["row", "size", "some", "places"] ["row", "size"] (defScope s_patterns_by) := ⟨rfl, rfl, rfl, by decide +kernel, rfl, by decide +kernel, by decide +kernel⟩
theorem ok_patterns_by (T : Tx K mg) {f : Addr} {fd : FuncData} (F_patterns_by : Fun K "patterns_by" "patterns_by" s_patterns_by f fd) : FnOk P w K mg base CX0 3 f fd ["row", "size"] (spF false K 2 g_patterns_by) := by
  obtain ⟨f_named_by, fd_named_by, m_named_by, F_named_by⟩ := T.d_named_by
  have G_named_by := ok_named_by (P := P) (w := w) (base := base) T F_named_by
  have B_named_by : L2.Binds K fd_named_by ["row"] [] := F_named_by.binds fun _ _ _ _ _ _ us hl => match us, hl with | [_], _ => rfl
  obtain ⟨f_socks_at, fd_socks_at, m_socks_at, F_socks_at⟩ := T.d_socks_at
  have G_socks_at := ok_socks_at (P := P) (w := w) (base := base) T F_socks_at
  have B_socks_at : L2.Binds K fd_socks_at ["row", "places"] [] := F_socks_at.binds fun _ _ _ _ _ _ us hl => match us, hl with | [_, _], _ => rfl
  refine F_patterns_by.ok sc_patterns_by (fun vs H Q E h => h.1) (fun cdv A outer s H vs Q E hr h => ?_)
  obtain ⟨bs, z⟩ := def_body (N := ["row", "size", "some", "places"]) (m := 2) rfl h
  refine ⟨_, ?_, z⟩
  exact (p_scons (p_asgn 2 sc_patterns_by.nd (p_frz (p_comb T.b_list T.y_combinations rfl (p_cons (p_frz (p_lrg T.b_list T.b_range (p_callB bb_len T.b_len PySem.boot_len (p_cons (p_var 0) p_nil)))) (p_cons (p_var 1) p_nil))))) (p_scons (p_ret (p_sd T.b_sorted (own := [("places", 3)]) (by decide) sc_patterns_by.nd (p_it (p_var 2)) (blk_mk rfl (by kernel_rfl)) (fun _ _ _ _ _ => (p_tgn 3 sc_patterns_by.nd)) (fun _ _ _ _ _ => p_ifs0) (fun _ _ _ _ _ => (p_call ln_named_by F_named_by G_named_by (hr.mono (by first | decide | omega)) m_named_by B_named_by (p_cons (p_call ln_socks_at F_socks_at G_socks_at (hr.mono (by first | decide | omega)) m_socks_at B_socks_at (p_cons (p_var 0) (p_cons (p_var 3) p_nil))) p_nil))))) p_snil))
theorem sc_patterns_of : FnScope ["row", "size"] ["row", "size"] (defScope s_patterns_of) := ⟨rfl, rfl, rfl, by decide +kernel, rfl, by decide +kernel, by decide +kernel⟩
theorem ok_patterns_of (T : Tx K mg) {f : Addr} {fd : FuncData} (F_patterns_of : Fun K "patterns_of" "patterns_of" s_patterns_of f fd) : FnOk P w K mg base CX0 4 f fd ["row", "size"] (spF false K 2 g_patterns_of) := by
  obtain ⟨f_check_row, fd_check_row, m_check_row, F_check_row⟩ := T.d_check_row
  have G_check_row := ok_check_row (P := P) (w := w) (base := base) T F_check_row
  have B_check_row : L2.Binds K fd_check_row ["row"] [] := F_check_row.binds fun _ _ _ _ _ _ us hl => match us, hl with | [_], _ => rfl
  obtain ⟨f_check_size, fd_check_size, m_check_size, F_check_size⟩ := T.d_check_size
  have G_check_size := ok_check_size (P := P) (w := w) (base := base) T F_check_size
  have B_check_size : L2.Binds K fd_check_size ["size", "low", "high"] [] := F_check_size.binds fun _ _ _ _ _ _ us hl => match us, hl with | [_, _, _], _ => rfl
  obtain ⟨f_patterns_by, fd_patterns_by, m_patterns_by, F_patterns_by⟩ := T.d_patterns_by
  have G_patterns_by := ok_patterns_by (P := P) (w := w) (base := base) T F_patterns_by
  have B_patterns_by : L2.Binds K fd_patterns_by ["row", "size"] [] := F_patterns_by.binds fun _ _ _ _ _ _ us hl => match us, hl with | [_, _], _ => rfl
  refine F_patterns_of.ok sc_patterns_of (fun vs H Q E h => h.1) (fun cdv A outer s H vs Q E hr h => ?_)
  obtain ⟨bs, z⟩ := def_body (N := ["row", "size"]) (m := 0) rfl h
  refine ⟨_, ?_, z⟩
  exact (p_scons (p_ex (p_call ln_check_row F_check_row G_check_row (hr.mono (by first | decide | omega)) m_check_row B_check_row (p_cons (p_var 0) p_nil))) (p_scons (p_ex (p_call ln_check_size F_check_size G_check_size (hr.mono (by first | decide | omega)) m_check_size B_check_size (p_cons (p_var 1) (p_cons p_int (p_cons (p_glob T.c_LONGEST_LISTED) p_nil))))) (p_scons (p_ret (p_callTy bb_tuple T.b_tuple PyProof.Rows.boot_tuple (p_cons (p_call ln_patterns_by F_patterns_by G_patterns_by (hr.mono (by first | decide | omega)) m_patterns_by B_patterns_by (p_cons (p_var 0) (p_cons (p_var 1) p_nil))) p_nil))) p_snil)))
theorem sc_is_pattern : FnScope ["value"] ["value"] (defScope s_is_pattern) := ⟨rfl, rfl, rfl, by decide +kernel, rfl, by decide +kernel, by decide +kernel⟩
theorem ok_is_pattern (T : Tx K mg) {f : Addr} {fd : FuncData} (F_is_pattern : Fun K "is_pattern" "is_pattern" s_is_pattern f fd) : FnOk P w K mg base CX0 5 f fd ["value"] (spF false K 1 g_is_pattern) := by
  obtain ⟨f_is_patterned, fd_is_patterned, m_is_patterned, F_is_patterned⟩ := T.d_is_patterned
  have G_is_patterned := ok_is_patterned (P := P) (w := w) (base := base) T F_is_patterned
  have B_is_patterned : L2.Binds K fd_is_patterned ["value"] [] := F_is_patterned.binds fun _ _ _ _ _ _ us hl => match us, hl with | [_], _ => rfl
  refine F_is_pattern.ok sc_is_pattern (fun vs H Q E h => h.1) (fun cdv A outer s H vs Q E hr h => ?_)
  obtain ⟨bs, z⟩ := def_body (N := ["value"]) (m := 0) rfl h
  refine ⟨_, ?_, z⟩
  exact (p_scons (p_ret (p_call ln_is_patterned F_is_patterned G_is_patterned (hr.mono (by first | decide | omega)) m_is_patterned B_is_patterned (p_cons (p_var 0) p_nil))) p_snil)
theorem sc_all_named : FnScope ["size", "found", "_", "row", "colour"] ["size"] (defScope s_all_named) := ⟨rfl, rfl, rfl, by decide +kernel, rfl, by decide +kernel, by decide +kernel⟩
theorem ok_all_named (T : Tx K mg) {f : Addr} {fd : FuncData} (F_all_named : Fun K "all_named" "all_named" s_all_named f fd) : FnOk P w K mg base CX0 2 f fd ["size"] (spF false K 1 g_all_named) := by
  obtain ⟨f_colours_by, fd_colours_by, m_colours_by, F_colours_by⟩ := T.d_colours_by
  have G_colours_by := ok_colours_by (P := P) (w := w) (base := base) T F_colours_by
  have B_colours_by : L2.Binds K fd_colours_by ["row"] [] := F_colours_by.binds fun _ _ _ _ _ _ us hl => match us, hl with | [_], _ => rfl
  refine F_all_named.ok sc_all_named (fun vs H Q E h => h.1) (fun cdv A outer s H vs Q E hr h => ?_)
  obtain ⟨bs, z⟩ := def_body (N := ["size", "found", "_", "row", "colour"]) (m := 4) rfl h
  refine ⟨_, ?_, z⟩
  exact (p_scons (p_asgn 1 sc_all_named.nd (p_frz (p_lst (p_dcons p_str p_dnil)))) (p_scons (p_for (p_rng1 T.b_range (p_var 0)) (p_tgn 2 sc_all_named.nd) (p_scons (p_setLc2 (own := [("row", 3), ("colour", 4)]) (own1 := [4]) (by decide) (by decide) (by decide) sc_all_named.nd (p_it (p_var 1)) (blk_mk rfl (by kernel_rfl)) (fun _ _ _ _ _ => (p_tgn 3 sc_all_named.nd)) (fun _ _ _ _ _ => p_ifs0) (fun _ _ _ _ _ => (p_it (p_slH (p_glob T.c_COLOURS) (p_bin ob_add (p_callB bb_len T.b_len PySem.boot_len (p_cons (p_call ln_colours_by F_colours_by G_colours_by (hr.mono (by first | decide | omega)) m_colours_by B_colours_by (p_cons (p_var 3) p_nil)) p_nil)) p_int)))) (fun _ _ _ _ _ => (p_tgn 4 sc_all_named.nd)) (fun _ _ _ _ _ => p_ifs0) (fun _ _ _ _ _ => (p_bin ob_add (p_var 3) (p_var 4)))) p_snil)) (p_scons (p_ret (p_var 1)) p_snil)))
theorem sc_free_of : FnScope ["size", "pattern", "row"] ["size", "pattern"] (defScope s_free_of) := ⟨rfl, rfl, rfl, by decide +kernel, rfl, by decide +kernel, by decide +kernel⟩
theorem ok_free_of (T : Tx K mg) {f : Addr} {fd : FuncData} (F_free_of : Fun K "free_of" "free_of" s_free_of f fd) : FnOk P w K mg base CX0 5 f fd ["size", "pattern"] (spF false K 2 g_free_of) := by
  obtain ⟨f_does_hold_by, fd_does_hold_by, m_does_hold_by, F_does_hold_by⟩ := T.d_does_hold_by
  have G_does_hold_by := ok_does_hold_by (P := P) (w := w) (base := base) T F_does_hold_by
  have B_does_hold_by : L2.Binds K fd_does_hold_by ["row", "pattern"] [] := F_does_hold_by.binds fun _ _ _ _ _ _ us hl => match us, hl with | [_, _], _ => rfl
  obtain ⟨f_all_named, fd_all_named, m_all_named, F_all_named⟩ := T.d_all_named
  have G_all_named := ok_all_named (P := P) (w := w) (base := base) T F_all_named
  have B_all_named : L2.Binds K fd_all_named ["size"] [] := F_all_named.binds fun _ _ _ _ _ _ us hl => match us, hl with | [_], _ => rfl
  refine F_free_of.ok sc_free_of (fun vs H Q E h => h.1) (fun cdv A outer s H vs Q E hr h => ?_)
  obtain ⟨bs, z⟩ := def_body (N := ["size", "pattern", "row"]) (m := 1) rfl h
  refine ⟨_, ?_, z⟩
  exact (p_scons (p_ret (p_frz (p_lc (own := [("row", 2)]) (by decide) sc_free_of.nd (p_it (p_call ln_all_named F_all_named G_all_named (hr.mono (by first | decide | omega)) m_all_named B_all_named (p_cons (p_var 0) p_nil))) (blk_mk rfl (by kernel_rfl)) (fun _ _ _ _ _ => (p_tgn 2 sc_free_of.nd)) (fun _ _ _ _ _ => (p_ifs1 (p_notT (p_val (p_call ln_does_hold_by F_does_hold_by G_does_hold_by (hr.mono (by first | decide | omega)) m_does_hold_by B_does_hold_by (p_cons (p_var 2) (p_cons (p_var 1) p_nil))))))) (fun _ _ _ _ _ => (p_var 2))))) p_snil)
theorem sc_free_rows : FnScope ["size", "pattern"] ["size", "pattern"] (defScope s_free_rows) := ⟨rfl, rfl, rfl, by decide +kernel, rfl, by decide +kernel, by decide +kernel⟩
theorem ok_free_rows (T : Tx K mg) {f : Addr} {fd : FuncData} (F_free_rows : Fun K "free_rows" "free_rows" s_free_rows f fd) : FnOk P w K mg base CX0 6 f fd ["size", "pattern"] (spF false K 2 g_free_rows) := by
  obtain ⟨f_check_pattern, fd_check_pattern, m_check_pattern, F_check_pattern⟩ := T.d_check_pattern
  have G_check_pattern := ok_check_pattern (P := P) (w := w) (base := base) T F_check_pattern
  have B_check_pattern : L2.Binds K fd_check_pattern ["pattern"] [] := F_check_pattern.binds fun _ _ _ _ _ _ us hl => match us, hl with | [_], _ => rfl
  obtain ⟨f_check_size, fd_check_size, m_check_size, F_check_size⟩ := T.d_check_size
  have G_check_size := ok_check_size (P := P) (w := w) (base := base) T F_check_size
  have B_check_size : L2.Binds K fd_check_size ["size", "low", "high"] [] := F_check_size.binds fun _ _ _ _ _ _ us hl => match us, hl with | [_, _, _], _ => rfl
  obtain ⟨f_free_of, fd_free_of, m_free_of, F_free_of⟩ := T.d_free_of
  have G_free_of := ok_free_of (P := P) (w := w) (base := base) T F_free_of
  have B_free_of : L2.Binds K fd_free_of ["size", "pattern"] [] := F_free_of.binds fun _ _ _ _ _ _ us hl => match us, hl with | [_, _], _ => rfl
  refine F_free_rows.ok sc_free_rows (fun vs H Q E h => h.1) (fun cdv A outer s H vs Q E hr h => ?_)
  obtain ⟨bs, z⟩ := def_body (N := ["size", "pattern"]) (m := 0) rfl h
  refine ⟨_, ?_, z⟩
  exact (p_scons (p_ex (p_call ln_check_size F_check_size G_check_size (hr.mono (by first | decide | omega)) m_check_size B_check_size (p_cons (p_var 0) (p_cons p_int (p_cons (p_glob T.c_LONGEST_TOLD) p_nil))))) (p_scons (p_ex (p_call ln_check_pattern F_check_pattern G_check_pattern (hr.mono (by first | decide | omega)) m_check_pattern B_check_pattern (p_cons (p_var 1) p_nil))) (p_scons (p_ret (p_callTy bb_tuple T.b_tuple PyProof.Rows.boot_tuple (p_cons (p_call ln_free_of F_free_of G_free_of (hr.mono (by first | decide | omega)) m_free_of B_free_of (p_cons (p_var 0) (p_cons (p_var 1) p_nil))) p_nil))) p_snil)))
end
end K07
end P_K07P1
section P_K07X
set_option Elab.async false
set_option linter.all false
set_option maxRecDepth 100000
set_option maxHeartbeats 4000000
namespace K07
open PySem PySem.Spec PyProof.Rows L2 DL
section
variable {P : Program} {w : World} {K : PySem.W.Frag} {mg : Str → Option Value} {base : Heap}
theorem okX_check_row (T : Tx K mg) {C fI S : Addr} (L : IvR K mg C fI S) {f : Addr} {fd : FuncData} (F_check_row : Fun K "check_row" "check_row" s_check_row f fd) : FnOk P w K mg base (L2.CX P w) 3 f fd ["row"] (spX K C 1 g_check_row x_check_row) := by
  obtain ⟨f_is_rowed, fd_is_rowed, m_is_rowed, F_is_rowed⟩ := T.d_is_rowed
  have G_is_rowed := ok_is_rowed (P := P) (w := w) (base := base) T F_is_rowed
  have B_is_rowed : L2.Binds K fd_is_rowed ["value"] [] := F_is_rowed.binds fun _ _ _ _ _ _ us hl => match us, hl with | [_], _ => rfl
  refine F_check_row.okX sc_check_row (fun vs H Q E h => by rcases h with h | h <;> exact h.1) (fun cdv A outer s H vs Q E hr h => ⟨_, ?_, raiseIfX (x0 := "row") (fT := xt_check_row) h⟩)
  exact pss_one (ps_if (p_notT (p_val (p_call ln_is_rowed F_is_rowed G_is_rowed (hr.mono (by first | decide | omega)) m_is_rowed B_is_rowed (p_cons (p_var 0) p_nil))))
    (pss_one (ps_raiseLow_ir rfl L.low hr (takes_of rfl rfl rfl rfl) (by exact (pa_cons (pv 0) pa_nil)))) pss_nil)
theorem okR_check_pattern (T : Tx K mg) {C fI S : Addr} (L : IvP K mg C fI S) {f : Addr} {fd : FuncData} (F_check_pattern : Fun K "check_pattern" "check_pattern" s_check_pattern f fd) : FnOk P w K mg base (L2.CX P w) 5 f fd ["pattern"] (spR K C 1 x_check_pattern) := by
  obtain ⟨f_is_patterned, fd_is_patterned, m_is_patterned, F_is_patterned⟩ := T.d_is_patterned
  have G_is_patterned := ok_is_patterned (P := P) (w := w) (base := base) T F_is_patterned
  have B_is_patterned : L2.Binds K fd_is_patterned ["value"] [] := F_is_patterned.binds fun _ _ _ _ _ _ us hl => match us, hl with | [_], _ => rfl
  refine F_check_pattern.okX sc_check_pattern (fun vs H Q E h => h.1) (fun cdv A outer s H vs Q E hr h => ⟨_, ?_, raiseIf (x0 := "pattern") h⟩)
  exact pss_one (ps_if (p_notT (p_val (p_call ln_is_patterned F_is_patterned G_is_patterned (hr.mono (by first | decide | omega)) m_is_patterned B_is_patterned (p_cons (p_var 0) p_nil))))
    (pss_one (ps_raiseLow_ip rfl L.low hr (takes_of rfl rfl rfl rfl) (by exact (pa_cons (pv 0) pa_nil)))) pss_nil)
theorem okRC_check_row_pattern (T : Tx K mg) {CR fR S CC fC S2 : Addr} (LR : IvR K mg CR fR S) (LC : IvP K mg CC fC S2) {f : Addr} {fd : FuncData} (F_check_row_pattern : Fun K "check_row_pattern" "check_row_pattern" s_check_row_pattern f fd) : FnOk P w K mg base (L2.CX P w) 6 f fd ["row", "pattern"] (spRC K CR CC g_check_row x_check_row x_check_pattern) := by
  obtain ⟨f_check_row, fd_check_row, m_check_row, F_check_row⟩ := T.d_check_row
  have G_check_row := okX_check_row (P := P) (w := w) (base := base) T LR F_check_row
  have B_check_row : L2.Binds K fd_check_row ["row"] [] := F_check_row.binds fun _ _ _ _ _ _ us hl => match us, hl with | [_], _ => rfl
  obtain ⟨f_check_pattern, fd_check_pattern, m_check_pattern, F_check_pattern⟩ := T.d_check_pattern
  have G_check_pattern := okR_check_pattern (P := P) (w := w) (base := base) T LC F_check_pattern
  have B_check_pattern : L2.Binds K fd_check_pattern ["pattern"] [] := F_check_pattern.binds fun _ _ _ _ _ _ us hl => match us, hl with | [_], _ => rfl
  refine F_check_row_pattern.okX sc_check_row_pattern (fun vs H Q E h => h.1) (fun cdv A outer s H vs Q E hr h => ⟨_, ?_, raiseRC (x0 := "row") (x1 := "pattern") (u := tNext) h⟩)
  exact pss_cons (ps_expr (pe_callS G_check_row (hr.mono (by decide)) rfl m_check_row F_check_row.kp B_check_row (fun σ => passAt (takes_of rfl rfl rfl rfl) σ) (by exact (pa_cons (pv 0) pa_nil))))
    (pss_cons (ps_expr (pe_callS G_check_pattern (hr.mono (by decide)) rfl m_check_pattern F_check_pattern.kp B_check_pattern (fun σ => passAt (takes_of rfl rfl rfl rfl) σ) (by exact (pa_cons (pv 1) pa_nil)))) pss_nil)
theorem okRC_does_hold (T : Tx K mg) {CR fR S CC fC S2 : Addr} (LR : IvR K mg CR fR S) (LC : IvP K mg CC fC S2) {f : Addr} {fd : FuncData} (F_does_hold : Fun K "does_hold" "does_hold" s_does_hold f fd) : FnOk P w K mg base (L2.CX P w) 7 f fd ["row", "pattern"] (spRC K CR CC g_check_row x_check_row x_check_pattern) := by
  obtain ⟨f_check_row_pattern, fd_check_row_pattern, m_check_row_pattern, F_check_row_pattern⟩ := T.d_check_row_pattern
  have G_check_row_pattern := okRC_check_row_pattern (P := P) (w := w) (base := base) T LR LC F_check_row_pattern
  have B_check_row_pattern : L2.Binds K fd_check_row_pattern ["row", "pattern"] [] := F_check_row_pattern.binds fun _ _ _ _ _ _ us hl => match us, hl with | [_, _], _ => rfl
  refine F_does_hold.okX sc_does_hold (fun vs H Q E h => h.1) (fun cdv A outer s H vs Q E hr h => ⟨_, ?_, raiseCall2 (x0 := "row") (x1 := "pattern") (u := fun _ _ _ => False) h⟩)
  exact pss_cons (ps_expr (pe_callS G_check_row_pattern (hr.mono (by decide)) rfl m_check_row_pattern F_check_row_pattern.kp B_check_row_pattern (fun σ => passAt (takes_of rfl rfl rfl rfl) σ) (by exact (pa_cons (pv 0) (pa_cons (pv 1) pa_nil))))) pss_dead
theorem okRC_first_places (T : Tx K mg) {CR fR S CC fC S2 : Addr} (LR : IvR K mg CR fR S) (LC : IvP K mg CC fC S2) {f : Addr} {fd : FuncData} (F_first_places : Fun K "first_places" "first_places" s_first_places f fd) : FnOk P w K mg base (L2.CX P w) 7 f fd ["row", "pattern"] (spRC K CR CC g_check_row x_check_row x_check_pattern) := by
  obtain ⟨f_check_row_pattern, fd_check_row_pattern, m_check_row_pattern, F_check_row_pattern⟩ := T.d_check_row_pattern
  have G_check_row_pattern := okRC_check_row_pattern (P := P) (w := w) (base := base) T LR LC F_check_row_pattern
  have B_check_row_pattern : L2.Binds K fd_check_row_pattern ["row", "pattern"] [] := F_check_row_pattern.binds fun _ _ _ _ _ _ us hl => match us, hl with | [_, _], _ => rfl
  refine F_first_places.okX sc_first_places (fun vs H Q E h => h.1) (fun cdv A outer s H vs Q E hr h => ⟨_, ?_, raiseCall2 (x0 := "row") (x1 := "pattern") (u := fun _ _ _ => False) h⟩)
  exact pss_cons (ps_expr (pe_callS G_check_row_pattern (hr.mono (by decide)) rfl m_check_row_pattern F_check_row_pattern.kp B_check_row_pattern (fun σ => passAt (takes_of rfl rfl rfl rfl) σ) (by exact (pa_cons (pv 0) (pa_cons (pv 1) pa_nil))))) pss_dead
theorem okRC_hold_count (T : Tx K mg) {CR fR S CC fC S2 : Addr} (LR : IvR K mg CR fR S) (LC : IvP K mg CC fC S2) {f : Addr} {fd : FuncData} (F_hold_count : Fun K "hold_count" "hold_count" s_hold_count f fd) : FnOk P w K mg base (L2.CX P w) 7 f fd ["row", "pattern"] (spRC K CR CC g_check_row x_check_row x_check_pattern) := by
  obtain ⟨f_check_row_pattern, fd_check_row_pattern, m_check_row_pattern, F_check_row_pattern⟩ := T.d_check_row_pattern
  have G_check_row_pattern := okRC_check_row_pattern (P := P) (w := w) (base := base) T LR LC F_check_row_pattern
  have B_check_row_pattern : L2.Binds K fd_check_row_pattern ["row", "pattern"] [] := F_check_row_pattern.binds fun _ _ _ _ _ _ us hl => match us, hl with | [_, _], _ => rfl
  refine F_hold_count.okX sc_hold_count (fun vs H Q E h => h.1) (fun cdv A outer s H vs Q E hr h => ⟨_, ?_, raiseCall2 (x0 := "row") (x1 := "pattern") (u := fun _ _ _ => False) h⟩)
  exact pss_cons (ps_expr (pe_callS G_check_row_pattern (hr.mono (by decide)) rfl m_check_row_pattern F_check_row_pattern.kp B_check_row_pattern (fun σ => passAt (takes_of rfl rfl rfl rfl) σ) (by exact (pa_cons (pv 0) (pa_cons (pv 1) pa_nil))))) pss_dead
/-- a def of two parameters that raises CC by xC of the second where the first is a size -/
def spSC (K : Fr) (CC : Addr) (gS : List Val → Mem → Res Val) (xC : List Val → Mem → Res D) : Sp := fun vs H _ E => vs.length = 2 ∧ ∃ a b M F μ M1 d0 M', Sim K F μ M H ∧ RepVs K F μ [a, b] vs ∧ gS [a, .d (.int 0), .d (.int 6)] M = .ok (.d .non) M1 ∧ xC [b] M1 = .ok d0 M' ∧
  ∀ F' μ' H' d v, StepE F μ H F' μ' H' → Sim K F' μ' M' H' → H' d = some (.xd [(("given" : Str), v)]) → Rep K F' d0 v → E (.ref CC) (some d) H'
theorem raiseSC {CC : Addr} {x0 x1 : Str} {vs : List V} {H : Hp} {Q : VK} {E : XK} {gS : List Val → Mem → Res Val} {xC : List Val → Mem → Res D} {u : TS} {D : Ends} (h : spSC K CC gS xC vs H Q E) :
    tSeq (tDrop (LE false K (evCall gS (evCons (vV 0) (evCons (vC (.int 0)) (evCons (vC (.int 6)) evNil)))))) (tSeq (tDrop (tCallS (spR K CC 1 xC) (WE fun cls d _ H => E cls d H) (tCons (tVar 1) tNil))) u) D (L2.start [x0, x1] vs) H := by
  obtain ⟨hl, a, b, M, F, μ, M1, d0, M', S, r, e1, e2, k⟩ := h
  match vs, hl, r with
  | [va, vb], _, .cons (v := _) ra (.cons (v := _) rb .nil) =>
    have R0 : RepS K F μ [some a, some b] (L2.start [x0, x1] [va, vb]) := RepS.start (m := 0) (.cons ra (.cons rb .nil)) rfl
    refine ⟨[some a, some b], M, F, μ, .d .non, M1, S, R0, e1, fun F1 μ1 H1 w st S1 p => ?_⟩
    refine ⟨vb, rfl, rfl, [b], M1, F1, μ1, d0, M', S1, .cons (RepV.mono st.fr st.whole rb) .nil, e2, fun F2 μ2 H2 d v st2 S2 hd rv => ?_⟩
    exact k F2 μ2 H2 d v (st.transE st2) S2 hd rv
theorem okSC_free_rows (T : Tx K mg) {CC fC S2 : Addr} (LC : IvP K mg CC fC S2) {f : Addr} {fd : FuncData} (F_free_rows : Fun K "free_rows" "free_rows" s_free_rows f fd) : FnOk P w K mg base (L2.CX P w) 6 f fd ["size", "pattern"] (spSC K CC g_check_size x_check_pattern) := by
  obtain ⟨f_check_size, fd_check_size, m_check_size, F_check_size⟩ := T.d_check_size
  have G_check_size := ok_check_size (P := P) (w := w) (base := base) T F_check_size
  have B_check_size : L2.Binds K fd_check_size ["size", "low", "high"] [] := F_check_size.binds fun _ _ _ _ _ _ us hl => match us, hl with | [_, _, _], _ => rfl
  obtain ⟨f_check_pattern, fd_check_pattern, m_check_pattern, F_check_pattern⟩ := T.d_check_pattern
  have G_check_pattern := okR_check_pattern (P := P) (w := w) (base := base) T LC F_check_pattern
  have B_check_pattern : L2.Binds K fd_check_pattern ["pattern"] [] := F_check_pattern.binds fun _ _ _ _ _ _ us hl => match us, hl with | [_], _ => rfl
  refine F_free_rows.okX sc_free_rows (fun vs H Q E h => h.1) (fun cdv A outer s H vs Q E hr h => ⟨_, ?_, raiseSC (x0 := "size") (x1 := "pattern") (u := fun _ _ _ => False) h⟩)
  exact pss_cons (ps_expr (p_call ln_check_size F_check_size G_check_size (hr.mono (by first | decide | omega)) m_check_size B_check_size (p_cons (p_var 0) (p_cons p_int (p_cons (p_glob T.c_LONGEST_TOLD) p_nil)))))
    (pss_cons (ps_expr (pe_callS G_check_pattern (hr.mono (by decide)) rfl m_check_pattern F_check_pattern.kp B_check_pattern (fun σ => passAt (takes_of rfl rfl rfl rfl) σ) (by exact (pa_cons (pv 1) pa_nil)))) pss_dead)
theorem if_ff {A B : Prop} (h : B) : (if false = true then A else B) := by rw [if_neg Bool.false_ne_true]; exact h
/-! ### the try of what is refused -/
abbrev rN : List Str := ["which", "value", "found", "e"]
theorem sct : FnScope rN ["which", "value"] (defScope s__law_refused) := ⟨rfl, rfl, rfl, by decide +kernel, rfl, by decide +kernel, by decide +kernel⟩
def tryR : Stmt := match defBody s__law_refused with
  | t :: _ => t
  | _ => .Pass ⟨0, 0, 0, 0⟩
def r_is (K : PySem.W.Frag) (CC a : Addr) (cls : Value) (d : Option Addr) : TE := tCB (fun xs H Q => rIsX K CC a cls d xs H Q) (tCons (tVar 3) (tCons (tC (.ref CC)) tNil))
def r_suite (K : PySem.W.Frag) (CC : Addr) : Addr → Value → Option Addr → TS := fun a cls d =>
  tRet (tIf (tB (r_is K CC a cls d)) (tLst (tCons (fun σ H Q => tByLow_ip CC a cls d (tVar 3) σ H Q) tNil)) (tLst (tCons (tC (.str "odd")) (tCons (tC .non) tNil))))
def spD (K : PySem.W.Frag) (CR CC : Addr) (g : List Val → Mem → Res Val) : Sp := fun vs H Q E => spF false K 2 g vs H Q E ∨ spRC K CR CC g_check_row x_check_row x_check_pattern vs H Q E
def spW (K : PySem.W.Frag) (CC : Addr) : Sp := fun vs H Q E => spF false K 2 g_free_rows vs H Q E ∨ spSC K CC g_check_size x_check_pattern vs H Q E
def r_tst (K : PySem.W.Frag) (i : Int) : TT := LT K (tst (ev2 (cmpV .eq) (vV 0) (vC (.int i))))
def r_c0 (K : PySem.W.Frag) (CR CC : Addr) (W : WX) : TE := tCallS (spD K CR CC g_does_hold) (WE W) (tCons (tC (.str "abcab")) (tCons (tVar 1) tNil))
def r_c1 (K : PySem.W.Frag) (CR CC : Addr) (W : WX) : TE := fun σ H Q => tCons (tVar 1) (tCons (tC (.str "")) tNil) σ H fun zs H1 => zs.length = 2 ∧ spD K CR CC g_first_places (pickO [(true, 1), (true, 0)] [] zs) H1 Q (WE W σ)
def r_c2 (K : PySem.W.Frag) (CR CC : Addr) (W : WX) : TE := tCallS (spD K CR CC g_hold_count) (WE W) (tCons (tC (.str "ab")) (tCons (tVar 1) tNil))
def r_c3 (K : PySem.W.Frag) (CC : Addr) (W : WX) : TE := tCallNS 1 1 (spW K CC) (fun us ws => pickO [(false, 0), (true, 0)] us ws) (WE W) (tCons (tC (.int 2)) tNil) (tCons (tVar 1) tNil)
def r_try (K : PySem.W.Frag) (CR CC : Addr) (W : WX) : TS :=
  tAsg (tIf (r_tst K 0) (r_c0 K CR CC W) (tIf (r_tst K 1) (r_c1 K CR CC W) (tIf (r_tst K 2) (r_c2 K CR CC W) (r_c3 K CC W)))) (gName 2)
theorem tryR_walk (T : Tx K mg) {CR fR S CC fC : Addr} (LR : IvR K mg CR fR S) (LC : IvP K mg CC fC S) {f : Addr} {cdv : Value} {A : Around} {outer : List Env} {s : Shared} {H : Hp} {E : XK} (hr : Room 7 (A.deeper (envOfC "_law_refused" (defScope s__law_refused) s.heap.objs.size f cdv))) :
    PS (cxOf CX0 P w K mg base rN "_law_refused" (defScope s__law_refused) f cdv A outer s H E).nox tryR (fun D σ H => r_try K CR CC (wAs K (.ref S) 3 (r_suite K CC) (fun _ _ _ _ => False) D) D σ H) := by
  obtain ⟨f_does_hold, fd_does_hold, m_does_hold, F_does_hold⟩ := T.d_does_hold
  have G_does_hold := fnok_or (fnok_cx (CX := L2.CX P w) (ok_does_hold (P := P) (w := w) (base := base) T F_does_hold)) (okRC_does_hold (P := P) (w := w) (base := base) T LR LC F_does_hold)
  have B_does_hold : L2.Binds K fd_does_hold ["row", "pattern"] [] := F_does_hold.binds fun _ _ _ _ _ _ us hl => match us, hl with | [_, _], _ => rfl
  obtain ⟨f_first_places, fd_first_places, m_first_places, F_first_places⟩ := T.d_first_places
  have G_first_places := fnok_or (fnok_cx (CX := L2.CX P w) (ok_first_places (P := P) (w := w) (base := base) T F_first_places)) (okRC_first_places (P := P) (w := w) (base := base) T LR LC F_first_places)
  have KB_1 : KBn K fd_first_places ["row", "pattern"] 0 ["pattern", "row"] (fun us ws => pickO [(true, 1), (true, 0)] us ws) (fun us ws => pickO [(true, 1), (true, 0)] us ws) := kbn_mk (ord := @pickO [(true, 1), (true, 0)]) F_first_places (pickO_ok _) fun _ _ _ _ _ _ us ws h1 h2 => match us, ws, h1, h2 with | [], [_, _], _, _ => rfl
  obtain ⟨f_hold_count, fd_hold_count, m_hold_count, F_hold_count⟩ := T.d_hold_count
  have G_hold_count := fnok_or (fnok_cx (CX := L2.CX P w) (ok_hold_count (P := P) (w := w) (base := base) T F_hold_count)) (okRC_hold_count (P := P) (w := w) (base := base) T LR LC F_hold_count)
  have B_hold_count : L2.Binds K fd_hold_count ["row", "pattern"] [] := F_hold_count.binds fun _ _ _ _ _ _ us hl => match us, hl with | [_, _], _ => rfl
  obtain ⟨f_free_rows, fd_free_rows, m_free_rows, F_free_rows⟩ := T.d_free_rows
  have G_free_rows := fnok_or (fnok_cx (CX := L2.CX P w) (ok_free_rows (P := P) (w := w) (base := base) T F_free_rows)) (okSC_free_rows (P := P) (w := w) (base := base) T LC F_free_rows)
  have KB_3 : KBn K fd_free_rows ["size", "pattern"] 1 ["pattern"] (fun us ws => pickO [(false, 0), (true, 0)] us ws) (fun us ws => pickO [(false, 0), (true, 0)] us ws) := kbn_mk (ord := @pickO [(false, 0), (true, 0)]) F_free_rows (pickO_ok _) fun _ _ _ _ _ _ us ws h1 h2 => match us, ws, h1, h2 with | [_], [_], _, _ => rfl
  refine (ps_try_as (i := 3) (tb := r_try K CR CC) (ts := r_suite K CC) (Wout := fun _ _ _ _ => False) rfl rfl sct.nd rfl rfl ⟨rfl, by decide, Or.inl LR.gS⟩ takes0 ?_ ?_)
  · intro W pn xe tk _
    exact pss_one (ps_set (i := 2) sct.nd rfl (Or.inl rfl)
      (pe_ifExp (p_cmpT (ob_eq hr) (p_var 0) p_int) (pe_callS G_does_hold hr rfl m_does_hold F_does_hold.kp B_does_hold (fun σ => passAt tk σ) (by exact (pa_cons pe_str (pa_cons (pv 1) pa_nil))))
      (pe_ifExp (p_cmpT (ob_eq hr) (p_var 0) p_int) (pe_callN0S G_first_places hr (by rfl) m_first_places F_first_places.kp KB_1 (fun σ => passAt tk σ) (by exact (pk_cons (pv 1) (pk_cons pe_str pk_nil))))
      (pe_ifExp (p_cmpT (ob_eq hr) (p_var 0) p_int) (pe_callS G_hold_count hr rfl m_hold_count F_hold_count.kp B_hold_count (fun σ => passAt tk σ) (by exact (pa_cons pe_str (pa_cons (pv 1) pa_nil))))
        (pe_callNS G_free_rows (hr.mono (by decide)) (by rfl) m_free_rows F_free_rows.kp KB_3 (fun σ => passAt tk σ) (by exact (pa_cons pe_int pa_nil)) (by exact (pk_cons (pv 1) pk_nil)))))))
  · intro a oe cls d pn hz hf
    have isc := call_isX (X := (cxOf CX0 P w K mg base rN "_law_refused" (defScope s__law_refused) f cdv A outer s H E).nox) (a := a) (pn := pn) LC.ex hz hf
    exact pss_one (ps_ret (pe_ifExp (pt_val (pe_callB isc (by rfl) T.b_isinstance' PyProof.Rows.boot_isinstance (pa_cons (pv 3) (pa_cons (pe_glob (v := .ref CC) (by rfl) LC.low.gC rfl) pa_nil))))
      (pe_lst (pa_cons (pe_byLow_ip LC.low hz hf (pv 3)) pa_nil)) (pe_lst (pa_cons pe_str (pa_cons pe_non pa_nil)))))
theorem tst_at {s1 s2 s3 : Option Val} {w i : Int} {M : Mem} : tst (ev2 (cmpV .eq) (vV 0) (vC (.int i))) [some (.d (.int w)), s1, s2, s3] M = .ok (w == i) M := rfl
/-- a new list of one datum -/
theorem one_list {F H : Hp} {μ : List Addr} {M : Mem} {y : D} {u : V} {q : Addr} (S : Sim K F μ M H) (hq : H q = none) (ry : Rep K F y u) :
    ∃ F3, StepE F μ H F3 μ (upd H q (.lst [u])) ∧ Sim K F3 μ M (upd H q (.lst [u])) ∧ Rep K F3 (.lst [y]) (.ref q) := by
  have n := NewF.alloc S.sub hq (.lst [u])
  exact ⟨_, n.step, n.sim S, Rep.lst (vs := [u]) (show 1 ≤ big by decide) upd_same (.cons (Rep.mono n.fr ry) .nil)⟩
theorem tryR_pure {CR fR S CC fC : Addr} (LR : IvR K mg CR fR S) (LC : IvP K mg CC fC S) {bs : Nat} {D : Ends} {σ : L2.St} {H : Hp} (h : LS bs K ev_try__law_refused D σ H) :
    r_try K CR CC (wAs K (.ref S) 3 (r_suite K CC) (fun _ _ _ _ => False) D) D σ H := by
  obtain ⟨δ, M, F, μ, x, M', hb, S0, R, e0, k⟩ := h
  match δ, R, e0 with
  | [some (.d (.int w)), some (.d v), none, none], R, e0 =>
    have er0 : (("abcab" : Str)) = enc ['a', 'b', 'c', 'a', 'b'] := by decide +kernel
    have er1 : (("" : Str)) = enc [] := by decide +kernel
    have er2 : (("ab" : Str)) = enc ['a', 'b'] := by decide +kernel
    have e0 : (match rf07 w v M with
      | .ok d0 M1 => (DL.Res.ok (DL.Flow.ret (.d (.lst [d0]))) M1 : DL.Res DL.Flow)
      | .bad => (gd07 w v M).bind fun x M1 => DL.Res.ok (DL.Flow.nx [some (.d (.int w)), some (.d v), some x, none]) M1) = .ok x M' := e0
    have hl : σ.length = 4 := R.len.symm
    have h3 : ∀ a : Addr, (σ.set 3 (some (.ref a)))[3]? = some (some (.ref a)) := fun a => by rw [List.getElem?_set_self (by omega)]
    have go : ∀ (i : Int) (ta tb : TE) (F1 : Hp) (μ1 : List Addr) (H1 : Hp) (Q : VK), StepE F μ H F1 μ1 H1 → Sim K F1 μ1 M H1 → ((w == i) = true → ∀ F2 μ2 H2, StepE F μ H F2 μ2 H2 → Sim K F2 μ2 M H2 → ta σ H2 Q) → ((w == i) = false → ∀ F2 μ2 H2, StepE F μ H F2 μ2 H2 → Sim K F2 μ2 M H2 → tb σ H2 Q) → tIf (r_tst K i) ta tb σ H1 Q := by
      intro i ta tb F1 μ1 H1 Q st1 S1 ha hb2
      refine ⟨_, M, F1, μ1, (w == i), M, S1, R.mono st1.fr st1.whole, tst_at, fun F2 μ2 H2 st2 S2 => ?_⟩
      cases hw : (w == i) with
      | true => exact if_tt (ha hw _ _ _ (st1.transE st2) S2)
      | false => exact if_ff (hb2 hw _ _ _ (st1.transE st2) S2)
    cases hx : rf07 w v M with
    | ok d0 M1 =>
      rw [hx] at e0
      cases e0
      have cont : ∀ F1 μ1 H1, StepE F μ H F1 μ1 H1 → ∀ F2 μ2 H2 d y, StepE F1 μ1 H1 F2 μ2 H2 → Sim K F2 μ2 M' H2 → H2 d = some (.xd [(("given" : Str), y)]) → Rep K F2 d0 y → wAs K (.ref S) 3 (r_suite K CC) (fun _ _ _ _ => False) D (.ref CC) (some d) σ H2 := by
        intro F1 μ1 H1 st1 F2 μ2 H2 d y st2 S2 hd ry
        refine ⟨true, LC.te, fun _ a ha => ?_, fun q => Bool.noConfusion q⟩
        refine ⟨.ref a, h3 a, ⟨rfl, _, _, true, d, y, rfl, fun u hu => hu, kit_self K CC, rfl, hd, true, rfl, if_tt ?_⟩⟩
        refine ⟨.ref a, h3 a, rfl, rfl, d, y, rfl, hd, ?_, fun q hq => ?_⟩
        · rw [sizeLine_eq]; show 1 ≤ 16777216; decide
        · show D.rt (.ref q) (upd H2 q (.lst [y]))
          obtain ⟨F3, st3, S3, r3⟩ := one_list S2 hq ry
          have st := (st1.transE st2).transE st3
          exact k F3 μ2 _ (.ref q) (Nat.le_trans hb st.leE) (st.mono hb) S3 r3
      have callR : ∀ (r : List Char) (g : List Val → Mem → Res Val) F1 μ1 H1 (Q : VK) (z : V), r.length ≤ 1000 → xr07 r v M = .ok d0 M' → StepE F μ H F1 μ1 H1 → Sim K F1 μ1 M H1 → RepV K F1 μ1 (.d v) z → spD K CR CC g [V.str (enc r), z] H1 Q (WE (wAs K (.ref S) 3 (r_suite K CC) (fun _ _ _ _ => False) D) σ) := by
        intro r g F1 μ1 H1 Q z hr e st1 S1 rz
        obtain ⟨y, M2, e1, e2⟩ := bind_ok e
        match y, e1, e2 with
        | .d .non, e1, e2 =>
          exact .inr ⟨rfl, .d (.str r), .d v, M, F1, μ1, S1, .cons (Rep.str r (Nat.le_trans hr (by decide))) (.cons rz .nil), .inr ⟨M2, d0, _, e1, e2, fun F2 μ2 H2 d y st2 S2 hd ry => cont _ _ _ st1 F2 μ2 H2 d y st2 S2 hd ry⟩⟩
      unfold rf07 at hx
      refine go 0 _ _ F μ H _ (Step.refl _ _ _ _) S0 (fun hw F1 μ1 H1 st S1 => ?_) fun hw F1 μ1 H1 st S1 => ?_
      · rw [if_pos hw] at hx
        obtain ⟨z, hz, rz⟩ := (R.mono st.fr st.whole).at_ 1 (.d v) rfl
        refine ⟨z, hz, ?_⟩
        show spD K CR CC g_does_hold [V.str "abcab", z] H1 _ _
        rw [er0]
        exact callR _ _ _ _ _ _ z (by decide) hx st S1 rz
      · rw [if_neg (by rw [hw]; exact Bool.false_ne_true)] at hx
        refine go 1 _ _ F1 μ1 H1 _ st S1 (fun hw F1 μ1 H1 st S1 => ?_) fun hw F1 μ1 H1 st S1 => ?_
        · rw [if_pos hw] at hx
          obtain ⟨z, hz, rz⟩ := (R.mono st.fr st.whole).at_ 1 (.d v) rfl
          refine ⟨z, hz, rfl, ?_⟩
          show spD K CR CC g_first_places [V.str "", z] H1 _ _
          rw [er1]
          exact callR _ _ _ _ _ _ z (by decide) hx st S1 rz
        · rw [if_neg (by rw [hw]; exact Bool.false_ne_true)] at hx
          refine go 2 _ _ F1 μ1 H1 _ st S1 (fun hw F1 μ1 H1 st S1 => ?_) fun hw F1 μ1 H1 st S1 => ?_
          · rw [if_pos hw] at hx
            obtain ⟨z, hz, rz⟩ := (R.mono st.fr st.whole).at_ 1 (.d v) rfl
            refine ⟨z, hz, ?_⟩
            show spD K CR CC g_hold_count [V.str "ab", z] H1 _ _
            rw [er2]
            exact callR _ _ _ _ _ _ z (by decide) hx st S1 rz
          · rw [if_neg (by rw [hw]; exact Bool.false_ne_true)] at hx
            obtain ⟨z, hz, rz⟩ := (R.mono st.fr st.whole).at_ 1 (.d v) rfl
            refine ⟨z, hz, rfl, rfl, ?_⟩
            show spW K CC [V.int 2, z] H1 _ _
            obtain ⟨y, M2, e1, e2⟩ := bind_ok hx
            match y, e1, e2 with
            | .d .non, e1, e2 =>
              exact .inr ⟨rfl, .d (.int 2), .d v, M, F1, μ1, M2, d0, _, S1, .cons (Rep.int 2) (.cons rz .nil), e1, e2, fun F2 μ2 H2 d y st2 S2 hd ry => cont _ _ _ st F2 μ2 H2 d y st2 S2 hd ry⟩
    | bad =>
      rw [hx] at e0
      obtain ⟨y, M1, e1, e2⟩ := bind_ok e0
      cases e2
      have fin : ∀ F1 μ1 H1, StepE F μ H F1 μ1 H1 → ∀ F2 μ2 H2 u, StepE F1 μ1 H1 F2 μ2 H2 → Sim K F2 μ2 M' H2 → RepV K F2 μ2 y u → D.nx (σ.set 2 (some u)) H2 := by
        intro F1 μ1 H1 st1 F2 μ2 H2 u st2 S2 r
        have st := st1.transE st2
        exact k F2 μ2 _ _ (Nat.le_trans hb st.leE) (st.mono hb) S2 ((R.mono st.fr st.whole).put (i := 2) r)
      have callD : ∀ (r : List Char) (g : List Val → Mem → Res Val) F1 μ1 H1 (z : V), r.length ≤ 1000 → g [.d (.str r), .d v] M = .ok y M' → StepE F μ H F1 μ1 H1 → Sim K F1 μ1 M H1 → RepV K F1 μ1 (.d v) z → ∀ E, spD K CR CC g [V.str (enc r), z] H1 (fun u H2 => D.nx (σ.set 2 (some u)) H2) E := by
        intro r g F1 μ1 H1 z hr e st1 S1 rz E
        exact .inl ⟨rfl, [.d (.str r), .d v], M, F1, μ1, y, M', S1, .cons (Rep.str r (Nat.le_trans hr (by decide))) (.cons rz .nil), e, fun F2 μ2 H2 u st2 S2 p => fin _ _ _ st1 F2 μ2 H2 u st2 S2 p⟩
      unfold gd07 at e1
      refine go 0 _ _ F μ H _ (Step.refl _ _ _ _) S0 (fun hw F1 μ1 H1 st S1 => ?_) fun hw F1 μ1 H1 st S1 => ?_
      · rw [if_pos hw] at e1
        obtain ⟨z, hz, rz⟩ := (R.mono st.fr st.whole).at_ 1 (.d v) rfl
        refine ⟨z, hz, ?_⟩
        show spD K CR CC g_does_hold [V.str "abcab", z] H1 _ _
        rw [er0]
        exact callD _ _ _ _ _ z (by decide) e1 st S1 rz _
      · rw [if_neg (by rw [hw]; exact Bool.false_ne_true)] at e1
        refine go 1 _ _ F1 μ1 H1 _ st S1 (fun hw F1 μ1 H1 st S1 => ?_) fun hw F1 μ1 H1 st S1 => ?_
        · rw [if_pos hw] at e1
          obtain ⟨z, hz, rz⟩ := (R.mono st.fr st.whole).at_ 1 (.d v) rfl
          refine ⟨z, hz, rfl, ?_⟩
          show spD K CR CC g_first_places [V.str "", z] H1 _ _
          rw [er1]
          exact callD _ _ _ _ _ z (by decide) e1 st S1 rz _
        · rw [if_neg (by rw [hw]; exact Bool.false_ne_true)] at e1
          refine go 2 _ _ F1 μ1 H1 _ st S1 (fun hw F1 μ1 H1 st S1 => ?_) fun hw F1 μ1 H1 st S1 => ?_
          · rw [if_pos hw] at e1
            obtain ⟨z, hz, rz⟩ := (R.mono st.fr st.whole).at_ 1 (.d v) rfl
            refine ⟨z, hz, ?_⟩
            show spD K CR CC g_hold_count [V.str "ab", z] H1 _ _
            rw [er2]
            exact callD _ _ _ _ _ z (by decide) e1 st S1 rz _
          · rw [if_neg (by rw [hw]; exact Bool.false_ne_true)] at e1
            obtain ⟨z, hz, rz⟩ := (R.mono st.fr st.whole).at_ 1 (.d v) rfl
            refine ⟨z, hz, rfl, rfl, ?_⟩
            show spW K CC [V.int 2, z] H1 _ _
            exact .inl ⟨rfl, [.d (.int 2), .d v], M, F1, μ1, y, M', S1, .cons (Rep.int 2) (.cons rz .nil), e1, fun F2 μ2 H2 u st2 S2 p => fin _ _ _ st F2 μ2 H2 u st2 S2 p⟩
theorem try__law_refused (T : Tx K mg) {bs : Nat} {f : Addr} {cdv : Value} {A : Around} {outer : List Env} {s : Shared} {H : Hp} {E : XK} {j : Nat} (hr : Room j (A.deeper (envOfC "_law_refused" (defScope s__law_refused) s.heap.objs.size f cdv))) (hj : 7 ≤ j := by decide) :
    PS (cxOf CX0 P w K mg base rN "_law_refused" (defScope s__law_refused) f cdv A outer s H E).nox tryR (LS bs K ev_try__law_refused) := by
  obtain ⟨CR, fR, S, LR⟩ := T.x_ivr
  obtain ⟨CC, fC, S2, LC⟩ := T.x_ivp
  have e1 := LR.gS.symm.trans LC.gS
  cases e1
  have q := tryR_walk (P := P) (w := w) (base := base) (outer := outer) (E := E) (H := H) T LR LC (hr.mono hj)
  exact ⟨fun pins s' σ H' D I h => q.run pins s' σ H' D I (tryR_pure LR LC h)⟩
end
end K07
end P_K07X
section P_K07P2
set_option Elab.async false
set_option linter.all false
set_option maxRecDepth 100000
set_option maxHeartbeats 4000000
namespace K07
open PySem PySem.Spec PyProof.Rows L2 DL
section
variable {P : Program} {w : World} {K : PySem.W.Frag} {mg : Str → Option Value} {base : Heap}
theorem sc__law_refused : FnScope ["which", "value", "found", "e"] ["which", "value"] (defScope s__law_refused) := ⟨rfl, rfl, rfl, by decide +kernel, rfl, by decide +kernel, by decide +kernel⟩
theorem ok__law_refused (T : Tx K mg) {f : Addr} {fd : FuncData} (F__law_refused : Fun K "_law_refused" "_law_refused" s__law_refused f fd) : FnOk P w K mg base CX0 8 f fd ["which", "value"] (spF false K 2 g__law_refused) := by

  refine F__law_refused.ok sc__law_refused (fun vs H Q E h => h.1) (fun cdv A outer s H vs Q E hr h => ?_)
  obtain ⟨bs, z⟩ := def_body (N := ["which", "value", "found", "e"]) (m := 2) rfl h
  refine ⟨_, ?_, z⟩
  exact (p_scons (try__law_refused T hr) (p_scons (p_ret (p_frz (p_ifx (p_cmpT (ob_ne hr) (p_frz (p_lst (p_dcons (p_var 2) p_dnil))) (p_frz (p_lst p_dnil))) (p_lst p_dnil) (p_lst (p_dcons (p_var 2) (p_dcons (p_var 2) p_dnil)))))) p_snil))
theorem sc__law_value_right : FnScope ["value", "due", "which", "told", "size"] ["value"] (defScope s__law_value_right) := ⟨rfl, rfl, rfl, by decide +kernel, rfl, by decide +kernel, by decide +kernel⟩
theorem ok__law_value_right (T : Tx K mg) {f : Addr} {fd : FuncData} (F__law_value_right : Fun K "_law_value_right" "_law_value_right" s__law_value_right f fd) : FnOk P w K mg base CX0 9 f fd ["value"] (spF false K 1 g__law_value_right) := by
  obtain ⟨f__law_is_pattern, fd__law_is_pattern, m__law_is_pattern, F__law_is_pattern⟩ := T.d__law_is_pattern
  have G__law_is_pattern := ok__law_is_pattern (P := P) (w := w) (base := base) T F__law_is_pattern
  have B__law_is_pattern : L2.Binds K fd__law_is_pattern ["value"] [] := F__law_is_pattern.binds fun _ _ _ _ _ _ us hl => match us, hl with | [_], _ => rfl
  obtain ⟨f__law_is, fd__law_is, m__law_is, F__law_is⟩ := T.d__law_is
  have G__law_is := ok__law_is (P := P) (w := w) (base := base) T 6 F__law_is m__law_is
  have B__law_is : L2.Binds K fd__law_is ["one", "due"] [] := F__law_is.binds fun _ _ _ _ _ _ us hl => match us, hl with | [_, _], _ => rfl
  obtain ⟨f_does_hold, fd_does_hold, m_does_hold, F_does_hold⟩ := T.d_does_hold
  have G_does_hold := ok_does_hold (P := P) (w := w) (base := base) T F_does_hold
  have B_does_hold : L2.Binds K fd_does_hold ["row", "pattern"] [] := F_does_hold.binds fun _ _ _ _ _ _ us hl => match us, hl with | [_, _], _ => rfl
  obtain ⟨f_first_places, fd_first_places, m_first_places, F_first_places⟩ := T.d_first_places
  have G_first_places := ok_first_places (P := P) (w := w) (base := base) T F_first_places
  have B_first_places : L2.Binds K fd_first_places ["row", "pattern"] [] := F_first_places.binds fun _ _ _ _ _ _ us hl => match us, hl with | [_, _], _ => rfl
  obtain ⟨f_hold_count, fd_hold_count, m_hold_count, F_hold_count⟩ := T.d_hold_count
  have G_hold_count := ok_hold_count (P := P) (w := w) (base := base) T F_hold_count
  have B_hold_count : L2.Binds K fd_hold_count ["row", "pattern"] [] := F_hold_count.binds fun _ _ _ _ _ _ us hl => match us, hl with | [_, _], _ => rfl
  obtain ⟨f_named, fd_named, m_named, F_named⟩ := T.d_named
  have G_named := ok_named (P := P) (w := w) (base := base) T F_named
  have B_named : L2.Binds K fd_named ["row"] [] := F_named.binds fun _ _ _ _ _ _ us hl => match us, hl with | [_], _ => rfl
  obtain ⟨f_patterns_of, fd_patterns_of, m_patterns_of, F_patterns_of⟩ := T.d_patterns_of
  have G_patterns_of := ok_patterns_of (P := P) (w := w) (base := base) T F_patterns_of
  have B_patterns_of : L2.Binds K fd_patterns_of ["row", "size"] [] := F_patterns_of.binds fun _ _ _ _ _ _ us hl => match us, hl with | [_, _], _ => rfl
  obtain ⟨f_is_pattern, fd_is_pattern, m_is_pattern, F_is_pattern⟩ := T.d_is_pattern
  have G_is_pattern := ok_is_pattern (P := P) (w := w) (base := base) T F_is_pattern
  have B_is_pattern : L2.Binds K fd_is_pattern ["value"] [] := F_is_pattern.binds fun _ _ _ _ _ _ us hl => match us, hl with | [_], _ => rfl
  obtain ⟨f__law_refused, fd__law_refused, m__law_refused, F__law_refused⟩ := T.d__law_refused
  have G__law_refused := ok__law_refused (P := P) (w := w) (base := base) T F__law_refused
  have B__law_refused : L2.Binds K fd__law_refused ["which", "value"] [] := F__law_refused.binds fun _ _ _ _ _ _ us hl => match us, hl with | [_, _], _ => rfl
  have KB_0 : KBn K fd_is_pattern ["value"] 0 ["value"] (fun us ws => pickO [(true, 0)] us ws) (fun us ws => pickO [(true, 0)] us ws) := kbn_mk (ord := @pickO [(true, 0)]) F_is_pattern (pickO_ok _) fun _ _ _ _ _ _ us ws h1 h2 => match us, ws, h1, h2 with | [], [_], _, _ => rfl
  refine F__law_value_right.ok sc__law_value_right (fun vs H Q E h => h.1) (fun cdv A outer s H vs Q E hr h => ?_)
  obtain ⟨bs, z⟩ := def_body (N := ["value", "due", "which", "told", "size"]) (m := 4) rfl h
  refine ⟨_, ?_, z⟩
  exact (p_scons (p_asgn 1 sc__law_value_right.nd (p_call ln__law_is_pattern F__law_is_pattern G__law_is_pattern (hr.mono (by first | decide | omega)) m__law_is_pattern B__law_is_pattern (p_cons (p_var 0) p_nil))) (p_scons (p_ite (p_notT (p_val (p_call (ln__law_is _) F__law_is G__law_is (hr.mono (by first | decide | omega)) m__law_is B__law_is (p_cons (p_frz (p_lst (p_dcons (p_call ln_is_pattern F_is_pattern G_is_pattern (hr.mono (by first | decide | omega)) m_is_pattern B_is_pattern (p_cons (p_var 0) p_nil)) (p_dcons (p_callN0 ln_is_pattern F_is_pattern G_is_pattern (hr.mono (by first | decide | omega)) m_is_pattern (pickO_ok _) KB_0 (p_kcons (p_var 0) p_knil)) p_dnil)))) (p_cons (p_frz (p_lst (p_dcons (p_var 1) (p_dcons (p_var 1) p_dnil)))) p_nil))))) (p_scons (p_ret p_bl) p_snil) p_snil) (p_scons (p_ite (p_cmpT (ob_ne hr) (p_frz (p_lc (own := [("which", 2)]) (by decide) sc__law_value_right.nd (p_rng1 T.b_range p_int) (blk_mk rfl (by kernel_rfl)) (fun _ _ _ _ _ => (p_tgn 2 sc__law_value_right.nd)) (fun _ _ _ _ _ => (p_ifs1 (p_notT (p_val (p_call (ln__law_is _) F__law_is G__law_is (hr.mono (by first | decide | omega)) m__law_is B__law_is (p_cons (p_call ln__law_refused F__law_refused G__law_refused (hr.mono (by first | decide | omega)) m__law_refused B__law_refused (p_cons (p_var 2) (p_cons (p_var 0) p_nil))) (p_cons (p_frz (p_ifx (p_val (p_var 1)) (p_lst p_dnil) (p_lst (p_dcons (p_var 0) p_dnil)))) p_nil))))))) (fun _ _ _ _ _ => (p_var 2)))) (p_frz (p_lst p_dnil))) (p_scons (p_ret p_bl) p_snil) p_snil) (p_scons (p_ite (p_notT (p_val (p_var 1))) (p_scons (p_ret p_bl) p_snil) p_snil) (p_scons (p_asgn 3 sc__law_value_right.nd (p_frz (p_lst (p_dcons (p_call ln_does_hold F_does_hold G_does_hold (hr.mono (by first | decide | omega)) m_does_hold B_does_hold (p_cons (p_var 0) (p_cons (p_var 0) p_nil))) (p_dcons (p_call ln_first_places F_first_places G_first_places (hr.mono (by first | decide | omega)) m_first_places B_first_places (p_cons (p_var 0) (p_cons (p_var 0) p_nil))) (p_dcons (p_call ln_hold_count F_hold_count G_hold_count (hr.mono (by first | decide | omega)) m_hold_count B_hold_count (p_cons (p_var 0) (p_cons (p_var 0) p_nil))) (p_dcons (p_call ln_named F_named G_named (hr.mono (by first | decide | omega)) m_named B_named (p_cons (p_var 0) p_nil)) p_dnil))))))) (p_scons (p_ite (p_notT (p_val (p_call (ln__law_is _) F__law_is G__law_is (hr.mono (by first | decide | omega)) m__law_is B__law_is (p_cons (p_var 3) (p_cons (p_frz (p_lst (p_dcons p_bl (p_dcons (p_trg T.b_tuple T.b_range (p_callB bb_len T.b_len PySem.boot_len (p_cons (p_var 0) p_nil))) (p_dcons p_int (p_dcons (p_var 0) p_dnil)))))) p_nil))))) (p_scons (p_ret p_bl) p_snil) p_snil) (p_scons (p_ite (p_cmpT (ob_ne hr) (p_frz (p_lc (own := [("size", 4)]) (by decide) sc__law_value_right.nd (p_rng2 T.b_range p_int (p_callB bb_len T.b_len PySem.boot_len (p_cons (p_var 0) p_nil))) (blk_mk rfl (by kernel_rfl)) (fun _ _ _ _ _ => (p_tgn 4 sc__law_value_right.nd)) (fun _ _ _ _ _ => (p_ifs1 (p_bool (p_orW (p_notT (p_val (p_call ln_does_hold F_does_hold G_does_hold (hr.mono (by first | decide | omega)) m_does_hold B_does_hold (p_cons (p_var 0) (p_cons (p_slH (p_var 0) (p_var 4)) p_nil))))) (p_last (p_notT (p_val (p_call ln_is_pattern F_is_pattern G_is_pattern (hr.mono (by first | decide | omega)) m_is_pattern B_is_pattern (p_cons (p_slH (p_var 0) (p_var 4)) p_nil))))))))) (fun _ _ _ _ _ => (p_var 4)))) (p_frz (p_lst p_dnil))) (p_scons (p_ret p_bl) p_snil) p_snil) (p_scons (p_ret (p_or (p_cmp ob_gt (p_callB bb_len T.b_len PySem.boot_len (p_cons (p_var 0) p_nil)) p_int) (p_one (p_call (ln__law_is _) F__law_is G__law_is (hr.mono (by first | decide | omega)) m__law_is B__law_is (p_cons (p_call ln_patterns_of F_patterns_of G_patterns_of (hr.mono (by first | decide | omega)) m_patterns_of B_patterns_of (p_cons (p_var 0) (p_cons (p_callB bb_len T.b_len PySem.boot_len (p_cons (p_var 0) p_nil)) p_nil))) (p_cons (p_tup (p_dcons (p_var 0) p_dnil)) p_nil)))))) p_snil))))))))
theorem sc__law_pick : FnScope ["well", "some"] ["well", "some"] (defScope s__law_pick) := ⟨rfl, rfl, rfl, by decide +kernel, rfl, by decide +kernel, by decide +kernel⟩
theorem ok__law_pick (T : Tx K mg) {f : Addr} {fd : FuncData} (F__law_pick : Fun K "_law_pick" "_law_pick" s__law_pick f fd) : FnOk P w K mg base CX0 2 f fd ["well", "some"] (spF false K 2 g__law_pick) := by
  obtain ⟨f__law_take, fd__law_take, m__law_take, F__law_take⟩ := T.d__law_take
  have G__law_take := ok__law_take (P := P) (w := w) (base := base) T F__law_take
  have B__law_take : L2.Binds K fd__law_take ["well", "many"] [] := F__law_take.binds fun _ _ _ _ _ _ us hl => match us, hl with | [_, _], _ => rfl
  refine F__law_pick.ok sc__law_pick (fun vs H Q E h => h.1) (fun cdv A outer s H vs Q E hr h => ?_)
  obtain ⟨bs, z⟩ := def_body (N := ["well", "some"]) (m := 0) rfl h
  refine ⟨_, ?_, z⟩
  exact (p_scons (p_ret (p_sub (p_var 1) (p_call ln__law_take F__law_take G__law_take (hr.mono (by first | decide | omega)) m__law_take B__law_take (p_cons (p_var 0) (p_cons (p_callB bb_len T.b_len PySem.boot_len (p_cons (p_var 1) p_nil)) p_nil))))) p_snil)
theorem sc__law_odd : FnScope ["well", "whole", "some"] ["well"] (defScope s__law_odd) := ⟨rfl, rfl, rfl, by decide +kernel, rfl, by decide +kernel, by decide +kernel⟩
theorem ok__law_odd (T : Tx K mg) {f : Addr} {fd : FuncData} (F__law_odd : Fun K "_law_odd" "_law_odd" s__law_odd f fd) : FnOk P w K mg base CX0 3 f fd ["well"] (spF false K 1 g__law_odd) := by
  obtain ⟨f__law_take, fd__law_take, m__law_take, F__law_take⟩ := T.d__law_take
  have G__law_take := ok__law_take (P := P) (w := w) (base := base) T F__law_take
  have B__law_take : L2.Binds K fd__law_take ["well", "many"] [] := F__law_take.binds fun _ _ _ _ _ _ us hl => match us, hl with | [_, _], _ => rfl
  obtain ⟨f__law_pick, fd__law_pick, m__law_pick, F__law_pick⟩ := T.d__law_pick
  have G__law_pick := ok__law_pick (P := P) (w := w) (base := base) T F__law_pick
  have B__law_pick : L2.Binds K fd__law_pick ["well", "some"] [] := F__law_pick.binds fun _ _ _ _ _ _ us hl => match us, hl with | [_, _], _ => rfl
  refine F__law_odd.ok sc__law_odd (fun vs H Q E h => h.1) (fun cdv A outer s H vs Q E hr h => ?_)
  obtain ⟨bs, z⟩ := def_body (N := ["well", "whole", "some"]) (m := 2) rfl h
  refine ⟨_, ?_, z⟩
  exact (p_scons (p_asgn 1 sc__law_odd.nd (p_bin ob_sub (p_call ln__law_take F__law_take G__law_take (hr.mono (by first | decide | omega)) m__law_take B__law_take (p_cons (p_var 0) (p_cons (p_bin ob_pow p_int p_int) p_nil))) (p_bin ob_mul p_int (p_bin ob_pow p_int p_int)))) (p_scons (p_asgn 2 sc__law_odd.nd (p_frz (p_lst (p_dcons p_non (p_dcons p_bl (p_dcons p_bl (p_dcons p_str (p_dcons p_str (p_dcons (p_tup p_dnil) (p_dcons (p_tup (p_dcons p_int (p_dcons p_non p_dnil))) (p_dcons (p_frz (p_lst p_dnil)) (p_dcons (p_frz (p_lst (p_dcons (p_var 1) p_dnil))) (p_dcons p_dic0 (p_dcons (p_dic1 p_str (p_var 1)) (p_dcons (p_var 1) (p_dcons p_int (p_dcons p_int (p_dcons (p_neg p_int) (p_dcons (p_tup (p_dcons (p_tup p_dnil) (p_dcons (p_frz (p_lst (p_dcons (p_var 1) p_dnil))) p_dnil))) p_dnil))))))))))))))))))) (p_scons (p_ret (p_call ln__law_pick F__law_pick G__law_pick (hr.mono (by first | decide | omega)) m__law_pick B__law_pick (p_cons (p_var 0) (p_cons (p_var 2) p_nil)))) p_snil)))
theorem sc__law_bent_pattern : FnScope ["well", "pattern", "some"] ["well", "pattern"] (defScope s__law_bent_pattern) := ⟨rfl, rfl, rfl, by decide +kernel, rfl, by decide +kernel, by decide +kernel⟩
theorem ok__law_bent_pattern (T : Tx K mg) {f : Addr} {fd : FuncData} (F__law_bent_pattern : Fun K "_law_bent_pattern" "_law_bent_pattern" s__law_bent_pattern f fd) : FnOk P w K mg base CX0 3 f fd ["well", "pattern"] (spF false K 2 g__law_bent_pattern) := by
  obtain ⟨f__law_pick, fd__law_pick, m__law_pick, F__law_pick⟩ := T.d__law_pick
  have G__law_pick := ok__law_pick (P := P) (w := w) (base := base) T F__law_pick
  have B__law_pick : L2.Binds K fd__law_pick ["well", "some"] [] := F__law_pick.binds fun _ _ _ _ _ _ us hl => match us, hl with | [_, _], _ => rfl
  refine F__law_bent_pattern.ok sc__law_bent_pattern (fun vs H Q E h => h.1) (fun cdv A outer s H vs Q E hr h => ?_)
  obtain ⟨bs, z⟩ := def_body (N := ["well", "pattern", "some"]) (m := 1) rfl h
  refine ⟨_, ?_, z⟩
  exact (p_scons (p_asgn 2 sc__law_bent_pattern.nd (p_frz (p_lst (p_dcons p_str (p_dcons p_str (p_dcons p_str (p_dcons p_str (p_dcons (p_bin ob_add (p_var 1) p_str) (p_dcons (p_me tab_upper (p_var 1) p_nil) (p_dcons (p_bin ob_add (p_var 1) p_str) (p_dcons (p_callTy (bb_tupS rfl) T.b_tuple PyProof.Rows.boot_tuple (p_cons (p_var 1) p_nil)) (p_dcons (p_tup (p_dcons (p_var 1) p_dnil)) (p_dcons (p_frz (p_lst (p_dcons (p_var 1) p_dnil))) (p_dcons p_str (p_dcons p_str p_dnil))))))))))))))) (p_scons (p_ret (p_call ln__law_pick F__law_pick G__law_pick (hr.mono (by first | decide | omega)) m__law_pick B__law_pick (p_cons (p_var 0) (p_cons (p_bin ob_add (p_var 2) (p_frz (p_lst (p_dcons p_non (p_dcons p_int (p_dcons p_bl (p_dcons p_str (p_dcons p_str (p_dcons (p_dic1 (p_var 1) p_int) p_dnil))))))))) p_nil)))) p_snil))
theorem sc__law_right : FnScope ["well", "most", "pattern", "row", "some", "value", "lap", "turn"] ["well"] (defScope s__law_right) := ⟨rfl, rfl, rfl, by decide +kernel, rfl, by decide +kernel, by decide +kernel⟩
theorem ok__law_right (T : Tx K mg) {f : Addr} {fd : FuncData} (F__law_right : Fun K "_law_right" "_law_right" s__law_right f fd) : FnOk P w K mg base CX0 10 f fd ["well"] (spF false K 1 g__law_right) := by
  obtain ⟨f__law_named, fd__law_named, m__law_named, F__law_named⟩ := T.d__law_named
  have G__law_named := ok__law_named (P := P) (w := w) (base := base) T F__law_named
  have B__law_named : L2.Binds K fd__law_named ["row"] [] := F__law_named.binds fun _ _ _ _ _ _ us hl => match us, hl with | [_], _ => rfl
  obtain ⟨f__law_drawn_pattern, fd__law_drawn_pattern, m__law_drawn_pattern, F__law_drawn_pattern⟩ := T.d__law_drawn_pattern
  have G__law_drawn_pattern := ok__law_drawn_pattern (P := P) (w := w) (base := base) T F__law_drawn_pattern
  have B__law_drawn_pattern : L2.Binds K fd__law_drawn_pattern ["well", "most"] [] := F__law_drawn_pattern.binds fun _ _ _ _ _ _ us hl => match us, hl with | [_, _], _ => rfl
  obtain ⟨f__law_drawn_row, fd__law_drawn_row, m__law_drawn_row, F__law_drawn_row⟩ := T.d__law_drawn_row
  have G__law_drawn_row := ok__law_drawn_row (P := P) (w := w) (base := base) T F__law_drawn_row
  have B__law_drawn_row : L2.Binds K fd__law_drawn_row ["well", "most"] [] := F__law_drawn_row.binds fun _ _ _ _ _ _ us hl => match us, hl with | [_, _], _ => rfl
  obtain ⟨f__law_value_right, fd__law_value_right, m__law_value_right, F__law_value_right⟩ := T.d__law_value_right
  have G__law_value_right := ok__law_value_right (P := P) (w := w) (base := base) T F__law_value_right
  have B__law_value_right : L2.Binds K fd__law_value_right ["value"] [] := F__law_value_right.binds fun _ _ _ _ _ _ us hl => match us, hl with | [_], _ => rfl
  obtain ⟨f__law_odd, fd__law_odd, m__law_odd, F__law_odd⟩ := T.d__law_odd
  have G__law_odd := ok__law_odd (P := P) (w := w) (base := base) T F__law_odd
  have B__law_odd : L2.Binds K fd__law_odd ["well"] [] := F__law_odd.binds fun _ _ _ _ _ _ us hl => match us, hl with | [_], _ => rfl
  obtain ⟨f__law_bent_pattern, fd__law_bent_pattern, m__law_bent_pattern, F__law_bent_pattern⟩ := T.d__law_bent_pattern
  have G__law_bent_pattern := ok__law_bent_pattern (P := P) (w := w) (base := base) T F__law_bent_pattern
  have B__law_bent_pattern : L2.Binds K fd__law_bent_pattern ["well", "pattern"] [] := F__law_bent_pattern.binds fun _ _ _ _ _ _ us hl => match us, hl with | [_, _], _ => rfl
  refine F__law_right.ok sc__law_right (fun vs H Q E h => h.1) (fun cdv A outer s H vs Q E hr h => ?_)
  obtain ⟨bs, z⟩ := def_body (N := ["well", "most", "pattern", "row", "some", "value", "lap", "turn"]) (m := 7) rfl h
  refine ⟨_, ?_, z⟩
  exact (p_scons (p_for (p_it (p_frz (p_lst (p_dcons p_int (p_dcons p_int (p_dcons p_int (p_dcons p_int (p_dcons p_int (p_dcons p_int p_dnil))))))))) (p_tgn 1 sc__law_right.nd) (p_scons (p_parT (p_cons (p_call ln__law_drawn_pattern F__law_drawn_pattern G__law_drawn_pattern (hr.mono (by first | decide | omega)) m__law_drawn_pattern B__law_drawn_pattern (p_cons (p_var 0) (p_cons (p_var 1) p_nil))) (p_cons (p_call ln__law_drawn_row F__law_drawn_row G__law_drawn_row (hr.mono (by first | decide | omega)) m__law_drawn_row B__law_drawn_row (p_cons (p_var 0) (p_cons p_int p_nil))) p_nil)) (p_names 2 sc__law_right.nd (p_names 3 sc__law_right.nd p_names0))) (p_scons (p_asgn 4 sc__law_right.nd (p_frz (p_lst (p_dcons (p_var 2) (p_dcons (p_rev (p_var 2)) (p_dcons (p_call ln__law_named F__law_named G__law_named (hr.mono (by first | decide | omega)) m__law_named B__law_named (p_cons (p_var 3) p_nil)) (p_dcons (p_var 3) (p_dcons (p_bin ob_add (p_var 2) p_str) (p_dcons p_str (p_dcons p_str (p_dcons p_str (p_dcons p_str p_dnil)))))))))))) (p_scons (p_ite (p_cmpT (ob_ne hr) (p_frz (p_lc (own := [("value", 5)]) (by decide) sc__law_right.nd (p_it (p_bin ob_add (p_var 4) (p_frz (p_lc (own := [("lap", 6)]) (by decide) sc__law_right.nd (p_rng1 T.b_range p_int) (blk_mk rfl (by kernel_rfl)) (fun _ _ _ _ _ => (p_tgn 6 sc__law_right.nd)) (fun _ _ _ _ _ => p_ifs0) (fun _ _ _ _ _ => (p_call ln__law_bent_pattern F__law_bent_pattern G__law_bent_pattern (hr.mono (by first | decide | omega)) m__law_bent_pattern B__law_bent_pattern (p_cons (p_var 0) (p_cons (p_var 2) p_nil)))))))) (blk_mk rfl (by kernel_rfl)) (fun _ _ _ _ _ => (p_tgn 5 sc__law_right.nd)) (fun _ _ _ _ _ => (p_ifs1 (p_notT (p_val (p_call ln__law_value_right F__law_value_right G__law_value_right (hr.mono (by first | decide | omega)) m__law_value_right B__law_value_right (p_cons (p_var 5) p_nil)))))) (fun _ _ _ _ _ => (p_var 5)))) (p_frz (p_lst p_dnil))) (p_scons (p_ret p_bl) p_snil) p_snil) p_snil)))) (p_scons (p_ret (p_cmp (ob_eq hr) (p_frz (p_lc (own := [("turn", 7)]) (by decide) sc__law_right.nd (p_rng1 T.b_range p_int) (blk_mk rfl (by kernel_rfl)) (fun _ _ _ _ _ => (p_tgn 7 sc__law_right.nd)) (fun _ _ _ _ _ => (p_ifs1 (p_notT (p_val (p_call ln__law_value_right F__law_value_right G__law_value_right (hr.mono (by first | decide | omega)) m__law_value_right B__law_value_right (p_cons (p_call ln__law_odd F__law_odd G__law_odd (hr.mono (by first | decide | omega)) m__law_odd B__law_odd (p_cons (p_var 0) p_nil)) p_nil)))))) (fun _ _ _ _ _ => (p_var 7)))) (p_frz (p_lst p_dnil)))) p_snil))
theorem sc__law_well : FnScope ["script", "turn", "own", "stir", "cell"] ["script", "turn"] (defScope s__law_well) := ⟨rfl, rfl, rfl, by decide +kernel, rfl, by decide +kernel, by decide +kernel⟩
theorem ok__law_well (T : Tx K mg) {f : Addr} {fd : FuncData} (F__law_well : Fun K "_law_well" "_law_well" s__law_well f fd) : FnOk P w K mg base CX0 1 f fd ["script", "turn"] (spF true K 2 g__law_well) := by

  refine F__law_well.ok sc__law_well (fun vs H Q E h => h.1) (fun cdv A outer s H vs Q E hr h => ?_)
  obtain ⟨bs, z⟩ := def_body (N := ["script", "turn", "own", "stir", "cell"]) (m := 3) rfl h
  refine ⟨_, ?_, z⟩
  exact (p_scons (p_asgn 2 sc__law_well.nd (p_ifx (p_cmpT ob_lt (p_var 1) (p_callB bb_len T.b_len PySem.boot_len (p_cons (p_var 0) p_nil))) (p_callTy bb_int T.b_int PyProof.Rows.boot_int (p_cons (p_sub (p_var 0) (p_var 1)) p_nil)) (p_bin ob_add (p_bin ob_add (p_bin ob_mul p_int (p_var 1)) (p_bin ob_mod (p_callTy bb_int T.b_int PyProof.Rows.boot_int (p_cons (p_callB (bb_sum rfl) T.b_sum PyProof.Rows.boot_sum (p_cons (p_slH (p_var 0) p_int) p_nil)) p_nil)) p_int)) p_int))) (p_scons (p_asgn 3 sc__law_well.nd (p_bin ob_add p_int (p_bin ob_mul p_int (p_var 1)))) (p_scons (p_for (p_it (p_bin ob_add (p_slH (p_var 0) p_int) (p_frz (p_lst (p_dcons (p_var 2) p_dnil))))) (p_tgn 4 sc__law_well.nd) (p_scons (p_asgn 3 sc__law_well.nd (p_bin ob_mod (p_callTy bb_int T.b_int PyProof.Rows.boot_int (p_cons (p_bin ob_add (p_bin ob_add (p_bin ob_mul (p_var 3) p_int) (p_bin ob_mod (p_callTy bb_int T.b_int PyProof.Rows.boot_int (p_cons (p_var 4) p_nil)) p_int)) p_int) p_nil)) p_int)) p_snil)) (p_scons (p_ret (p_new (p_lst (p_dcons (p_ifx (p_bool (p_orW (p_cmpT ob_lt (p_var 2) p_int) (p_last (p_cmpT ob_ge (p_var 2) (p_bin ob_pow p_int p_int))))) (p_bin ob_mod (p_callTy bb_int T.b_int PyProof.Rows.boot_int (p_cons (p_callB bb_abs T.b_abs boot_abs (p_cons (p_var 2) p_nil)) p_nil)) (p_bin ob_pow p_int p_int)) p_int) (p_dcons (p_var 3) (p_dcons p_int p_dnil)))))) p_snil))))
theorem sc_law : FnScope ["script", "size", "every", "one", "other", "turn"] ["script"] (defScope s_law) := ⟨rfl, rfl, rfl, by decide +kernel, rfl, by decide +kernel, by decide +kernel⟩
theorem ok_law (T : Tx K mg) {f : Addr} {fd : FuncData} (F_law : Fun K "law" "law" s_law f fd) : FnOk P w K mg base CX0 11 f fd ["script"] (spF false K 1 g_law) := by
  obtain ⟨f__law_named_rows, fd__law_named_rows, m__law_named_rows, F__law_named_rows⟩ := T.d__law_named_rows
  have G__law_named_rows := ok__law_named_rows (P := P) (w := w) (base := base) T F__law_named_rows
  have B__law_named_rows : L2.Binds K fd__law_named_rows ["size"] [] := F__law_named_rows.binds fun _ _ _ _ _ _ us hl => match us, hl with | [_], _ => rfl
  obtain ⟨f_does_hold, fd_does_hold, m_does_hold, F_does_hold⟩ := T.d_does_hold
  have G_does_hold := ok_does_hold (P := P) (w := w) (base := base) T F_does_hold
  have B_does_hold : L2.Binds K fd_does_hold ["row", "pattern"] [] := F_does_hold.binds fun _ _ _ _ _ _ us hl => match us, hl with | [_, _], _ => rfl
  obtain ⟨f_is_pattern, fd_is_pattern, m_is_pattern, F_is_pattern⟩ := T.d_is_pattern
  have G_is_pattern := ok_is_pattern (P := P) (w := w) (base := base) T F_is_pattern
  have B_is_pattern : L2.Binds K fd_is_pattern ["value"] [] := F_is_pattern.binds fun _ _ _ _ _ _ us hl => match us, hl with | [_], _ => rfl
  obtain ⟨f__law_right, fd__law_right, m__law_right, F__law_right⟩ := T.d__law_right
  have G__law_right := ok__law_right (P := P) (w := w) (base := base) T F__law_right
  have B__law_right : L2.Binds K fd__law_right ["well"] [] := F__law_right.binds fun _ _ _ _ _ _ us hl => match us, hl with | [_], _ => rfl
  obtain ⟨f__law_well, fd__law_well, m__law_well, F__law_well⟩ := T.d__law_well
  have G__law_well := ok__law_well (P := P) (w := w) (base := base) T F__law_well
  have B__law_well : L2.Binds K fd__law_well ["script", "turn"] [] := F__law_well.binds fun _ _ _ _ _ _ us hl => match us, hl with | [_, _], _ => rfl
  refine F_law.ok sc_law (fun vs H Q E h => h.1) (fun cdv A outer s H vs Q E hr h => ?_)
  obtain ⟨bs, z⟩ := def_body (N := ["script", "size", "every", "one", "other", "turn"]) (m := 5) rfl h
  refine ⟨_, ?_, z⟩
  exact (p_scons (p_for (p_rng2 T.b_range p_int p_int) (p_tgn 1 sc_law.nd) (p_scons (p_asgn 2 sc_law.nd (p_call ln__law_named_rows F__law_named_rows G__law_named_rows (hr.mono (by first | decide | omega)) m__law_named_rows B__law_named_rows (p_cons (p_var 1) p_nil))) (p_scons (p_ite (p_cmpT (ob_ne hr) (p_frz (p_lc (own := [("one", 3)]) (by decide) sc_law.nd (p_it (p_var 2)) (blk_mk rfl (by kernel_rfl)) (fun _ _ _ _ _ => (p_tgn 3 sc_law.nd)) (fun _ _ _ _ _ => (p_ifs1 (p_bool (p_orW (p_notT (p_val (p_call ln_is_pattern F_is_pattern G_is_pattern (hr.mono (by first | decide | omega)) m_is_pattern B_is_pattern (p_cons (p_var 3) p_nil)))) (p_last (p_cmpT (ob_ne hr) (p_frz (p_lc (own := [("other", 4)]) (by decide) sc_law.nd (p_it (p_var 2)) (blk_mk rfl (by kernel_rfl)) (fun _ _ _ _ _ => (p_tgn 4 sc_law.nd)) (fun _ _ _ _ _ => (p_ifs1 (p_cmpT (ob_ne hr) (p_call ln_does_hold F_does_hold G_does_hold (hr.mono (by first | decide | omega)) m_does_hold B_does_hold (p_cons (p_var 3) (p_cons (p_var 4) p_nil))) (p_cmp (ob_eq hr) (p_var 3) (p_var 4))))) (fun _ _ _ _ _ => (p_var 4)))) (p_frz (p_lst p_dnil)))))))) (fun _ _ _ _ _ => (p_var 3)))) (p_frz (p_lst p_dnil))) (p_scons (p_ret p_bl) p_snil) p_snil) p_snil))) (p_scons (p_ret (p_callB (bb_all rfl) T.b_all PyProof.Rows.boot_all (p_cons (p_frz (p_lc (own := [("turn", 5)]) (by decide) sc_law.nd (p_rng1 T.b_range (p_callB (bb_max2 rfl) T.b_max PyProof.Rows.boot_max (p_cons p_int (p_cons (p_callB (bb_min2 rfl) T.b_min PyProof.Rows.boot_min (p_cons (p_callB bb_len T.b_len PySem.boot_len (p_cons (p_var 0) p_nil)) (p_cons p_int p_nil))) p_nil)))) (blk_mk rfl (by kernel_rfl)) (fun _ _ _ _ _ => (p_tgn 5 sc_law.nd)) (fun _ _ _ _ _ => p_ifs0) (fun _ _ _ _ _ => (p_call ln__law_right F__law_right G__law_right (hr.mono (by first | decide | omega)) m__law_right B__law_right (p_cons (p_new (p_call ln__law_well F__law_well G__law_well (hr.mono (by first | decide | omega)) m__law_well B__law_well (p_cons (p_var 0) (p_cons (p_var 5) p_nil)))) p_nil))))) p_nil))) p_snil))
end
end K07
end P_K07P2
section P_DL12
set_option Elab.async false
set_option linter.all false
set_option maxRecDepth 100000
set_option maxHeartbeats 1000000
/-! How the printed functions compute: no program in sight. -/
namespace DL
/-- an equation that is not to be seen as one by computing -/
theorem eqr {α : Sort u} {a b : α} (h : a = b) : a = b := h
variable {fa fb fc : Sl → Mem → Res Val} {fl fk : Sl → Mem → Res (List Val)} {fd : Sl → Mem → Res (List D)} {fT : Sl → Mem → Res Bool} {f g : Sl → Mem → Res Flow} {s : Sl} {M : Mem}
theorem vC_ap (x : D) : vC x s M = .ok (.d x) M := rfl
theorem vV_ap (i : Nat) : vV i s M = (match s[i]? with | some (some v) => .ok v M | _ => .bad) := rfl
theorem tst_ap : tst fa s M = toB (fa s M) := rfl
@[simp] theorem toB_bl (b : Bool) : toB (.ok (.d (.bl b)) M) = .ok b M := eqr rfl
theorem evNot_ap : evNot fa s M = (toB (fa s M)).bind fun b M1 => .ok (.d (.bl (!b))) M1 := rfl
theorem evAnd_ap : evAnd fa fb s M = (toB (fa s M)).bind fun b M1 => if b then fb s M1 else .ok (.d (.bl false)) M1 := rfl
theorem evOr_ap : evOr fa fb s M = (toB (fa s M)).bind fun b M1 => if b then .ok (.d (.bl true)) M1 else fb s M1 := rfl
theorem evIf_ap : evIf fT fa fb s M = (fT s M).bind fun t M1 => if t then fa s M1 else fb s M1 := rfl
theorem evNil_ap : evNil s M = .ok [] M := rfl
theorem evDNil_ap : evDNil s M = .ok [] M := rfl
theorem evCons_ap : evCons fa fl s M = (fa s M).bind fun v M1 => (fl s M1).bind fun vs M2 => .ok (v :: vs) M2 := rfl
theorem evConsD_ap : evConsD fa fd s M = (fa s M).bind fun v M1 => (match v with | .d x => (fd s M1).bind fun xs M2 => .ok (x :: xs) M2 | _ => .bad) := rfl
theorem evTup_ap : evTup fd s M = (fd s M).bind fun xs M1 => if xs.length ≤ big then .ok (.d (.tup xs)) M1 else .bad := rfl
theorem evLst_ap : evLst fd s M = (fd s M).bind fun xs M1 => if xs.length ≤ big then .ok (.d (.lst xs)) M1 else .bad := rfl
theorem newOf_ap : newOf fa s M = (fa s M).bind fun v M1 => (match v with
    | .d (.lst l) => .ok (.ref M1.length) (M1 ++ [.lst l])
    | .d (.dic l) => .ok (.ref M1.length) (M1 ++ [.dic l])
    | _ => .bad) := rfl
theorem ev2_ap (p : D → D → Option D) : ev2 p fa fb s M = (fa s M).bind fun v M1 => (fb s M1).bind fun w M2 => (match view M2 v, view M2 w with
  | some x, some y => Res.of ((p x y).map .d) M2
  | _, _ => .bad) := rfl
theorem ev1_ap (p : D → Option D) : ev1 p fa s M = (fa s M).bind fun v M1 => (match view M1 v with
  | some x => Res.of ((p x).map .d) M1
  | none => .bad) := rfl
theorem ev3_ap (p q : D → D → Option D) : ev3 p q fa fb fc s M = (fa s M).bind fun v M1 => (fb s M1).bind fun w M2 => (match view M2 v, view M2 w with
    | some x, some y => (match p x y with
      | some (.bl true) => (fc s M2).bind fun u M3 => (match view M3 w, view M3 u with
        | some y', some z => Res.of ((q y' z).map .d) M3
        | _, _ => .bad)
      | some (.bl false) => .ok (.d (.bl false)) M2
      | _ => .bad)
    | _, _ => .bad) := rfl
theorem evB_ap (p : List D → Option D) : evB p fl s M = (fl s M).bind fun vs M1 => (match views M1 vs with
  | some xs => Res.of ((p xs).map .d) M1
  | none => .bad) := rfl
theorem evM_ap (p : D → List D → Option D) : evM p fa fl s M = (fa s M).bind fun v M1 => (match view M1 v with
  | some x1 => (fl s M1).bind fun vs M2 => (match view M2 v, views M2 vs with
    | some x, some xs => if kd x1 = kd x then Res.of ((p x xs).map .d) M2 else .bad
    | _, _ => .bad)
  | none => .bad) := rfl
theorem evMu_ap (m : Mu) (i : Nat) : evMu m i fl s M = (match s[i]? with
  | some (some (.ref n)) => (fl s M).bind fun vs M1 => (match M1[n]?, argsOf m M1 vs with
    | some o, some xs => (match muD m o xs with
      | some (y, o') => .ok (.d y) (M1.set n o')
      | none => .bad)
    | _, _ => .bad)
  | _ => .bad) := rfl
theorem evSl_ap : evSl fa fb fc s M = (fa s M).bind fun v M1 => (fb s M1).bind fun w M2 => (fc s M2).bind fun u M3 => (match view M3 v, view M3 w, view M3 u with
  | some x, some y, some z => Res.of ((sliceD x (some y) (some z)).map .d) M3
  | _, _, _ => .bad) := rfl
theorem evIt_ap : evIt fa s M = (fa s M).bind fun v M1 => (match v with
  | .d x => Res.of (items x) M1
  | _ => .bad) := rfl
theorem evEnm_ap : evEnm fa s M = (fa s M).bind fun v M1 => (match v with
  | .d x => Res.of ((itemsE x).map (enumFrom 0)) M1
  | _ => .bad) := rfl
theorem evRng_ap : evRng fl s M = (fl s M).bind fun vs M1 => (match views M1 vs with
  | some xs => Res.of (rngD xs) M1
  | none => .bad) := rfl
theorem ifs0_ap : ifs0 s M = .ok true M := rfl
theorem ifs1_ap : ifs1 fT s M = (fT s M).bind fun b M1 => if b then .ok true M1 else .ok false M1 := rfl
theorem evLc_ap (own : List Nat) (t : Tg) (fI : Sl → Mem → Res (List D)) (fifs : Sl → Mem → Res Bool) : evLc own t fI fifs fa s M = (fI s M).bind fun xs M1 => (compLoop (evBlk own t fifs fa s) xs M1).bind fun ys M2 => .ok (.d (.lst ys)) M2 := rfl
theorem evCall_ap (g : List Val → Mem → Res Val) : evCall g fl s M = (fl s M).bind fun vs M1 => g vs M1 := rfl
theorem evCallN_ap (n m : Nat) (ord : {α : Type} → List α → List α → List α) (g : List Val → Mem → Res Val) : evCallN n m ord g fl fk s M = (fl s M).bind fun vs M1 => (fk s M1).bind fun ws M2 => if vs.length = n ∧ ws.length = m then g (ord vs ws) M2 else .bad := rfl
theorem evAsg_ap (st : Val → Sl → Mem → Res Sl) : evAsg fa st s M = (fa s M).bind fun v M1 => (st v s M1).bind fun s1 M2 => .ok (.nx s1) M2 := rfl
theorem stN_ap (i : Nat) (v : Val) : stN i v s M = if i < s.length then .ok (s.set i (some v)) M else .bad := rfl
theorem stSub_ap (i : Nat) (y : D) : stSub i fa (.d y) s M = (match s[i]? with
    | some (some (.ref n)) => (fa s M).bind fun w M1 => (match M1[n]?, view M1 w with
      | some o, some k => (match setD o k y with
        | some o' => .ok s (M1.set n o')
        | none => .bad)
      | _, _ => .bad)
    | _ => .bad) := rfl
theorem stNil_ap : stNil [] s M = .ok s M := rfl
theorem stCons_ap (st : Val → Sl → Mem → Res Sl) (sts : List D → Sl → Mem → Res Sl) (x : D) (xs : List D) : stCons st sts (x :: xs) s M = (st (.d x) s M).bind fun s1 M1 => sts xs s1 M1 := rfl
theorem stTup_ap (n : Nat) (sts : List D → Sl → Mem → Res Sl) (xs : List D) : stTup n sts (.d (.tup xs)) s M = if xs.length = n then sts xs s M else .bad := rfl
theorem evPar_ap (is : List Nat) : evPar is fl s M = (fl s M).bind fun vs M1 => (match setMany is vs s with
  | some s1 => .ok (.nx s1) M1
  | none => .bad) := rfl
theorem sEx_ap : sEx fa s M = (fa s M).bind fun _ M1 => .ok (.nx s) M1 := rfl
theorem sRet_ap : sRet fa s M = (fa s M).bind fun v M1 => .ok (.ret v) M1 := rfl
theorem sRetN_ap : sRetN s M = .ok (.ret (.d .non)) M := rfl
theorem sPass_ap : sPass s M = .ok (.nx s) M := rfl
theorem sBrk_ap : sBrk s M = .ok (.brk s) M := rfl
theorem sCont_ap : sCont s M = .ok (.cont s) M := rfl
theorem sNever_ap : sNever s M = .bad := rfl
theorem sWhile_ap : sWhile fT f s M = whileLoop fT f turns s M := rfl
theorem evIte_ap : evIte fT f g s M = (fT s M).bind fun t M1 => if t then f s M1 else g s M1 := rfl
theorem evSeq_ap : evSeq f g s M = (f s M).bind fun x M1 => (match x with
  | .nx s1 => g s1 M1
  | .ret v => .ok (.ret v) M1
  | .brk s1 => .ok (.brk s1) M1
  | .cont s1 => .ok (.cont s1) M1) := rfl
theorem evFor_ap (t : Tg) (fI : Sl → Mem → Res (List D)) : evFor t fI f s M = (fI s M).bind fun xs M1 => forLoop f t xs s M1 := rfl
theorem defG_ap (fr : Bool) (n m : Nat) (F : Nat → Sl → Mem → Res Flow) (vs : List Val) (h : vs.length = n) : defG fr n m F vs M = (F M.length (vs.map some ++ List.replicate m none) M).bind fun fl M1 => handBack fr M.length fl M1 := by
  unfold defG; rw [if_pos h]
theorem defG1 (fr : Bool) (m : Nat) (F : Nat → Sl → Mem → Res Flow) (a : Val) : defG fr 1 m F [a] M = (F M.length (some a :: List.replicate m none) M).bind fun fl M1 => handBack fr M.length fl M1 := defG_ap _ _ _ _ _ rfl
theorem defG2 (fr : Bool) (m : Nat) (F : Nat → Sl → Mem → Res Flow) (a b : Val) : defG fr 2 m F [a, b] M = (F M.length (some a :: some b :: List.replicate m none) M).bind fun fl M1 => handBack fr M.length fl M1 := defG_ap _ _ _ _ _ rfl
theorem defG3 (fr : Bool) (m : Nat) (F : Nat → Sl → Mem → Res Flow) (a b c : Val) : defG fr 3 m F [a, b, c] M = (F M.length (some a :: some b :: some c :: List.replicate m none) M).bind fun fl M1 => handBack fr M.length fl M1 := defG_ap _ _ _ _ _ rfl
@[simp] theorem hb_ret (b : Nat) (x : D) : handBack false b (.ret (.d x)) M = .ok (.d x) (M.take b) := eqr rfl
@[simp] theorem hb_nx (b : Nat) (s : Sl) : handBack false b (.nx s) M = .ok (.d .non) (M.take b) := eqr rfl
theorem hb_ref (b k : Nat) (h : b ≤ k) : handBack true b (.ret (.ref k)) M = (match M[k]? with | some o => .ok (.d o.toD) (M.take b) | none => .bad) := by
  show (if true = true ∧ b ≤ k then _ else _) = _
  rw [if_pos ⟨rfl, h⟩]
  all_goals rfl
@[simp] theorem bindTg_n (i : Nat) (x : D) : bindTg (.n i) x s = if i < s.length then some (s.set i (some (.d x))) else none := by unfold bindTg; rfl
@[simp] theorem bindTg_t (l : List Tg) (xs : List D) : bindTg (.t l) (.tup xs) s = bindTgs l xs s := by unfold bindTg; rfl
@[simp] theorem bindTgs_nil : bindTgs [] [] s = some s := by unfold bindTgs; rfl
@[simp] theorem bindTgs_cons (t : Tg) (ts : List Tg) (x : D) (xs : List D) : bindTgs (t :: ts) (x :: xs) s = (match bindTg t x s with | some s' => bindTgs ts xs s' | none => none) := by rw [bindTgs]; all_goals rfl
@[simp] theorem wipeS_nil : wipeS s [] = s := eqr rfl
@[simp] theorem wipeS_cons (i : Nat) (r : List Nat) : wipeS s (i :: r) = (wipeS s r).set i none := eqr rfl
@[simp] theorem setMany_nil : setMany [] [] s = some s := eqr rfl
@[simp] theorem setMany_cons (i : Nat) (is : List Nat) (v : Val) (vs : List Val) : setMany (i :: is) (v :: vs) s = if i < s.length then setMany is vs (s.set i (some v)) else none := eqr rfl
@[simp] theorem toD_lst (l : List D) : MO.toD (.lst l) = .lst l := eqr rfl
@[simp] theorem plainVs_nil : plainVs [] = some [] := eqr rfl
@[simp] theorem plainVs_cons (x : D) (r : List Val) : plainVs (.d x :: r) = (plainVs r).map (x :: ·) := eqr rfl
@[simp] theorem argsOf_append (vs : List Val) : argsOf .append M vs = plainVs vs := eqr rfl
@[simp] theorem argsOf_popAt (vs : List Val) : argsOf .popAt M vs = plainVs vs := eqr rfl
@[simp] theorem argsOf_pop (vs : List Val) : argsOf .pop M vs = plainVs vs := eqr rfl
@[simp] theorem argsOf_remove (vs : List Val) : argsOf .remove M vs = plainVs vs := eqr rfl
@[simp] theorem argsOf_extend (vs : List Val) : argsOf .extend M vs = views M vs := eqr rfl
/-! operators on data of known kinds -/
@[simp] theorem cmpV_lt_int (i j : Int) : cmpV .lt (.int i) (.int j) = some (.bl (decide (i < j))) := eqr rfl
@[simp] theorem cmpV_gt_int (i j : Int) : cmpV .gt (.int i) (.int j) = some (.bl (decide (j < i))) := eqr rfl
@[simp] theorem cmpV_le_int (i j : Int) : cmpV .le (.int i) (.int j) = some (.bl (!decide (j < i))) := eqr rfl
@[simp] theorem cmpV_ge_int (i j : Int) : cmpV .ge (.int i) (.int j) = some (.bl (!decide (i < j))) := eqr rfl
@[simp] theorem cmpV_eq_int (i j : Int) : cmpV .eq (.int i) (.int j) = some (.bl (i == j)) := eqr rfl
@[simp] theorem cmpV_ne_int (i j : Int) : cmpV .ne (.int i) (.int j) = some (.bl (!(i == j))) := eqr rfl
@[simp] theorem cmpV_eq_str (i j : List Char) : cmpV .eq (.str i) (.str j) = some (.bl (i == j)) := eqr rfl
@[simp] theorem cmpV_ne_str (i j : List Char) : cmpV .ne (.str i) (.str j) = some (.bl (!(i == j))) := eqr rfl
@[simp] theorem cmpV_eq_bl (i j : Bool) : cmpV .eq (.bl i) (.bl j) = some (.bl (i == j)) := eqr rfl
@[simp] theorem cmpV_ne_bl (i j : Bool) : cmpV .ne (.bl i) (.bl j) = some (.bl (!(i == j))) := eqr rfl
@[simp] theorem cmpV_isin_str (c : Char) (s : List Char) : cmpV .isin (.str [c]) (.str s) = some (.bl (s.contains c)) := eqr rfl
@[simp] theorem cmpV_notin_str (c : Char) (s : List Char) : cmpV .notin (.str [c]) (.str s) = some (.bl (!(s.contains c))) := eqr rfl
@[simp] theorem cmpV_lt_str (x y : List Char) : cmpV .lt (.str x) (.str y) = some (.bl (ltS x y)) := eqr rfl
@[simp] theorem cmpV_is_bl (i j : Bool) : cmpV .is (.bl i) (.bl j) = some (.bl (decide (i = j))) := eqr rfl
@[simp] theorem cmpV_isnot_bl (i j : Bool) : cmpV .isnot (.bl i) (.bl j) = some (.bl (!decide (i = j))) := eqr rfl
@[simp] theorem cmpV_isB_non (b : Bool) : cmpV .is .non (.bl b) = some (.bl false) := eqr rfl
@[simp] theorem cmpV_isB_int (i : Int) (b : Bool) : cmpV .is (.int i) (.bl b) = some (.bl false) := eqr rfl
@[simp] theorem cmpV_isB_str (s : List Char) (b : Bool) : cmpV .is (.str s) (.bl b) = some (.bl false) := eqr rfl
@[simp] theorem cmpV_isB_tup (l : List D) (b : Bool) : cmpV .is (.tup l) (.bl b) = some (.bl false) := eqr rfl
@[simp] theorem cmpV_isB_lst (l : List D) (b : Bool) : cmpV .is (.lst l) (.bl b) = some (.bl false) := eqr rfl
@[simp] theorem cmpV_isB_dic (l : List (D × D)) (b : Bool) : cmpV .is (.dic l) (.bl b) = some (.bl false) := eqr rfl
@[simp] theorem cmpV_isN_non : cmpV .is .non .non = some (.bl true) := eqr rfl
@[simp] theorem cmpV_isnotN_non : cmpV .isnot .non .non = some (.bl false) := eqr rfl
@[simp] theorem isiD_non (t : Ty) : isiD t .non = some (.bl false) := eqr rfl
@[simp] theorem cmpV_isN_bl (b : Bool) : cmpV .is (.bl b) .non = some (.bl false) := eqr rfl
@[simp] theorem cmpV_isnotN_bl (b : Bool) : cmpV .isnot (.bl b) .non = some (.bl true) := eqr rfl
@[simp] theorem isiD_bl (t : Ty) (b : Bool) : isiD t (.bl b) = some (.bl (t == .bool || t == .int)) := eqr rfl
@[simp] theorem cmpV_isN_int (i : Int) : cmpV .is (.int i) .non = some (.bl false) := eqr rfl
@[simp] theorem cmpV_isnotN_int (i : Int) : cmpV .isnot (.int i) .non = some (.bl true) := eqr rfl
@[simp] theorem isiD_int (t : Ty) (i : Int) : isiD t (.int i) = some (.bl (t == .int)) := eqr rfl
@[simp] theorem cmpV_isN_str (s : List Char) : cmpV .is (.str s) .non = some (.bl false) := eqr rfl
@[simp] theorem cmpV_isnotN_str (s : List Char) : cmpV .isnot (.str s) .non = some (.bl true) := eqr rfl
@[simp] theorem isiD_str (t : Ty) (s : List Char) : isiD t (.str s) = some (.bl (t == .str)) := eqr rfl
@[simp] theorem cmpV_isN_tup (l : List D) : cmpV .is (.tup l) .non = some (.bl false) := eqr rfl
@[simp] theorem cmpV_isnotN_tup (l : List D) : cmpV .isnot (.tup l) .non = some (.bl true) := eqr rfl
@[simp] theorem isiD_tup (t : Ty) (l : List D) : isiD t (.tup l) = some (.bl (t == .tuple)) := eqr rfl
@[simp] theorem cmpV_isN_lst (l : List D) : cmpV .is (.lst l) .non = some (.bl false) := eqr rfl
@[simp] theorem cmpV_isnotN_lst (l : List D) : cmpV .isnot (.lst l) .non = some (.bl true) := eqr rfl
@[simp] theorem cmpV_isN_dic (l : List (D × D)) : cmpV .is (.dic l) .non = some (.bl false) := eqr rfl
@[simp] theorem isiD_dic (t : Ty) (l : List (D × D)) : isiD t (.dic l) = some (.bl (t == .dict)) := eqr rfl
@[simp] theorem isiD_lst (t : Ty) (l : List D) : isiD t (.lst l) = some (.bl (t == .list)) := eqr rfl
@[simp] theorem binD_add_int (i j : Int) : binD .add (.int i) (.int j) = some (.int (i + j)) := eqr rfl
@[simp] theorem binD_sub_int (i j : Int) : binD .sub (.int i) (.int j) = some (.int (i - j)) := eqr rfl
@[simp] theorem binD_add_str (x y : List Char) : binD .add (.str x) (.str y) = if x.length + y.length ≤ big then some (.str (x ++ y)) else none := eqr rfl
@[simp] theorem binD_add_lst (x y : List D) : binD .add (.lst x) (.lst y) = if x.length + y.length ≤ big then some (.lst (x ++ y)) else none := eqr rfl
@[simp] theorem binD_add_tup (x y : List D) : binD .add (.tup x) (.tup y) = if x.length + y.length ≤ big then some (.tup (x ++ y)) else none := eqr rfl
@[simp] theorem binD_mul_int (i j : Int) : binD .mul (.int i) (.int j) = if mulOk i j then some (.int (i * j)) else none := eqr rfl
@[simp] theorem binD_mul_str (x : List Char) (j : Int) : binD .mul (.str x) (.int j) = if 0 ≤ j ∧ j < 1000 ∧ x.length ≤ 1000 then some (.str (rep j.toNat x)) else none := eqr rfl
@[simp] theorem binD_mul_lst (x : List D) (j : Int) : binD .mul (.lst x) (.int j) = if 0 ≤ j ∧ j < 1000 ∧ x.length ≤ 1000 then some (.lst (rep j.toNat x)) else none := eqr rfl
@[simp] theorem binD_fdiv_int (i j : Int) : binD .fdiv (.int i) (.int j) = if 0 < j ∧ j < 1073741824 then some (.int (i / j)) else none := eqr rfl
@[simp] theorem binD_mod_int (i j : Int) : binD .mod (.int i) (.int j) = if 0 < j then some (.int (i % j)) else none := eqr rfl
@[simp] theorem subD_lst (l : List D) (i : Int) : subD (.lst l) (.int i) = at_ l i := eqr rfl
@[simp] theorem subD_tup (l : List D) (i : Int) : subD (.tup l) (.int i) = at_ l i := eqr rfl
@[simp] theorem subD_scr (l : List D) (i : Int) : subD (.scr l) (.int i) = at_ l i := eqr rfl
@[simp] theorem subD_str (l : List Char) (i : Int) : subD (.str l) (.int i) = (at_ l i).map fun c => .str [c] := eqr rfl
@[simp] theorem negD_int (i : Int) : negD (.int i) = some (.int (-i)) := eqr rfl
@[simp] theorem revD_str (s : List Char) : revD (.str s) = some (.str s.reverse) := eqr rfl
@[simp] theorem revD_lst (s : List D) : revD (.lst s) = some (.lst s.reverse) := eqr rfl
@[simp] theorem slL_str (l : List Char) (i : Int) : sliceD (.str l) (some (.int i)) none = some (.str (cut l (some i) none)) := eqr rfl
@[simp] theorem slH_str (l : List Char) (i : Int) : sliceD (.str l) none (some (.int i)) = some (.str (cut l none (some i))) := eqr rfl
@[simp] theorem slLH_str (l : List Char) (i j : Int) : sliceD (.str l) (some (.int i)) (some (.int j)) = some (.str (cut l (some i) (some j))) := eqr rfl
@[simp] theorem len_str (l : List Char) : biD .len [.str l] = some (.int l.length) := eqr rfl
@[simp] theorem items_str (l : List Char) : items (.str l) = some (l.map fun c => .str [c]) := eqr rfl
@[simp] theorem kd_str (l : List Char) : kd (.str l) = .str := eqr rfl
@[simp] theorem itemsE_str (l : List Char) : itemsE (.str l) = some (l.map fun c => .str [c]) := eqr rfl
@[simp] theorem slL_lst (l : List D) (i : Int) : sliceD (.lst l) (some (.int i)) none = some (.lst (cut l (some i) none)) := eqr rfl
@[simp] theorem slH_lst (l : List D) (i : Int) : sliceD (.lst l) none (some (.int i)) = some (.lst (cut l none (some i))) := eqr rfl
@[simp] theorem slLH_lst (l : List D) (i j : Int) : sliceD (.lst l) (some (.int i)) (some (.int j)) = some (.lst (cut l (some i) (some j))) := eqr rfl
@[simp] theorem len_lst (l : List D) : biD .len [.lst l] = some (.int l.length) := eqr rfl
@[simp] theorem items_lst (l : List D) : items (.lst l) = some l := eqr rfl
@[simp] theorem kd_lst (l : List D) : kd (.lst l) = .lst := eqr rfl
@[simp] theorem itemsE_lst (l : List D) : itemsE (.lst l) = some l := eqr rfl
@[simp] theorem slL_tup (l : List D) (i : Int) : sliceD (.tup l) (some (.int i)) none = some (.tup (cut l (some i) none)) := eqr rfl
@[simp] theorem slH_tup (l : List D) (i : Int) : sliceD (.tup l) none (some (.int i)) = some (.tup (cut l none (some i))) := eqr rfl
@[simp] theorem slLH_tup (l : List D) (i j : Int) : sliceD (.tup l) (some (.int i)) (some (.int j)) = some (.tup (cut l (some i) (some j))) := eqr rfl
@[simp] theorem len_tup (l : List D) : biD .len [.tup l] = some (.int l.length) := eqr rfl
@[simp] theorem items_tup (l : List D) : items (.tup l) = some l := eqr rfl
@[simp] theorem kd_tup (l : List D) : kd (.tup l) = .tup := eqr rfl
@[simp] theorem slL_scr (l : List D) (i : Int) : sliceD (.scr l) (some (.int i)) none = some (.lst (cut l (some i) none)) := eqr rfl
@[simp] theorem slH_scr (l : List D) (i : Int) : sliceD (.scr l) none (some (.int i)) = some (.lst (cut l none (some i))) := eqr rfl
@[simp] theorem slLH_scr (l : List D) (i j : Int) : sliceD (.scr l) (some (.int i)) (some (.int j)) = some (.lst (cut l (some i) (some j))) := eqr rfl
@[simp] theorem len_scr (l : List D) : biD .len [.scr l] = some (.int l.length) := eqr rfl
@[simp] theorem items_scr (l : List D) : items (.scr l) = some l := eqr rfl
@[simp] theorem kd_scr (l : List D) : kd (.scr l) = .oth := eqr rfl
@[simp] theorem itemsE_scr (l : List D) : itemsE (.scr l) = some l := eqr rfl
@[simp] theorem biD_int (i : Int) : biD .int [.int i] = some (.int i) := eqr rfl
@[simp] theorem biD_intb (b : Bool) : biD .int [.bl b] = some (.int (if b then 1 else 0)) := eqr rfl
@[simp] theorem biD_abs (i : Int) : biD .abs [.int i] = some (.int (if i < 0 then -i else i)) := eqr rfl
@[simp] theorem biD_sum (l : List D) : biD .sum [.lst l] = (sumInts l).map .int := eqr rfl
@[simp] theorem biD_max2 (i j : Int) : biD .max2 [.int i, .int j] = some (.int (if j > i then j else i)) := eqr rfl
@[simp] theorem biD_min2 (i j : Int) : biD .min2 [.int i, .int j] = some (.int (if j < i then j else i)) := eqr rfl
@[simp] theorem biD_all (l : List D) : biD .all [.lst l] = (allBl l).map .bl := eqr rfl
@[simp] theorem biD_any (l : List D) : biD .any [.lst l] = (anyBl l).map .bl := eqr rfl
@[simp] theorem biD_tuple (l : List D) : biD .tuple [.lst l] = some (.tup l) := eqr rfl
@[simp] theorem biD_tupleT (l : List D) : biD .tuple [.tup l] = some (.tup l) := eqr rfl
@[simp] theorem biD_list (l : List D) : biD .list [.lst l] = some (.lst l) := eqr rfl
@[simp] theorem biD_listT (l : List D) : biD .list [.tup l] = some (.lst l) := eqr rfl
@[simp] theorem biD_listS (l : List Char) : biD .list [.str l] = some (.lst (l.map fun c => .str [c])) := eqr rfl
@[simp] theorem biD_divmod (i j : Int) : biD .divmod [.int i, .int j] = if 0 < j ∧ j < 1073741824 then some (.tup [.int (i / j), .int (i % j)]) else none := eqr rfl
@[simp] theorem meD_count (s : List Char) (c : Char) : meD .count (.str s) [.str [c]] = some (.int (s.count c)) := eqr rfl
@[simp] theorem meD_join (s : List Char) (l : List D) : meD .join (.str s) [.lst l] = joinD s l := eqr rfl
@[simp] theorem meD_index (s : List Char) (c : Char) : meD .index (.str s) [.str [c]] = (place (· == c) s).map fun (n : Nat) => .int n := eqr rfl
@[simp] theorem meD_upper (s : List Char) : meD .upper (.str s) [] = if s.length ≤ 1000 ∧ s.all (fun c => decide (c.toNat < 128)) = true then some (.str (s.map upC)) else none := eqr rfl
@[simp] theorem muD_append (l : List D) (x : D) : muD .append (.lst l) [x] = if l.length < big then some (.non, .lst (l ++ [x])) else none := eqr rfl
@[simp] theorem muD_extend (l k : List D) : muD .extend (.lst l) [.lst k] = if l.length + k.length ≤ big then some (.non, .lst (l ++ k)) else none := eqr rfl
@[simp] theorem muD_popAt (l : List D) (i : Int) : muD .popAt (.lst l) [.int i] = if 0 ≤ i ∧ i < 2 ^ 62 then (match l[i.toNat]? with | some x => some (x, .lst (l.eraseIdx i.toNat)) | none => none) else none := eqr rfl
@[simp] theorem muD_remove (l : List D) (x : D) : muD .remove (.lst l) [x] = if x.flat && l.all D.flat then (place (fun y => y.eqv x) l).map fun (n : Nat) => (.non, .lst (l.eraseIdx n)) else none := eqr rfl
@[simp] theorem setD_lst' (l : List D) (i : Int) (x : D) : setD (.lst l) (.int i) x = if 0 ≤ i ∧ i < 2 ^ 62 ∧ i.toNat < l.length then some (.lst (l.set i.toNat x)) else if i < 0 ∧ -(2 ^ 62) < i ∧ 0 ≤ i + l.length then some (.lst (l.set (i + l.length).toNat x)) else none := eqr rfl
@[simp] theorem rngD_1 (n : Int) : rngD [.int n] = if -16777216 ≤ n ∧ n ≤ 16777216 then some (upto n.toNat 0) else none := eqr rfl
@[simp] theorem rngD_2 (a b : Int) : rngD [.int a, .int b] = if -16777216 ≤ a ∧ a ≤ 16777216 ∧ -16777216 ≤ b ∧ b ≤ 16777216 ∧ b - a ≤ 16777216 then some (upto (b - a).toNat a) else none := eqr rfl
theorem mulOk_l {i : Int} (h1 : -18446744073709551616 < i) (h2 : i < 18446744073709551616) (j : Int) : mulOk i j = true := decide_eq_true (.inl ⟨h1, h2⟩)
theorem mulOk_r {j : Int} (h1 : -18446744073709551616 < j) (h2 : j < 18446744073709551616) (i : Int) : mulOk i j = true := decide_eq_true (.inr ⟨h1, h2⟩)
/-! loops -/
theorem for_nil (b : Sl → Mem → Res Flow) (t : Tg) : forLoop b t [] s M = .ok (.nx s) M := rfl
theorem for_cons (b : Sl → Mem → Res Flow) (t : Tg) (x : D) (xs : List D) : forLoop b t (x :: xs) s M = (match bindTg t x s with
    | some s1 => (b s1 M).bind fun f M2 => (match f with
      | .nx s2 => forLoop b t xs s2 M2
      | .cont s2 => forLoop b t xs s2 M2
      | .brk s2 => .ok (.nx s2) M2
      | .ret v => .ok (.ret v) M2)
    | none => .bad) := rfl
/-- a comprehension whose block leaves the store as it is -/
theorem comp_map {b : D → Mem → Res (Option D)} {h : D → D} : ∀ (xs : List D) (M : Mem), (∀ x ∈ xs, b x M = .ok (some (h x)) M) → compLoop b xs M = .ok (xs.map h) M
  | [], _, _ => rfl
  | x :: xs, M, hb => by
    unfold compLoop
    rw [hb x List.mem_cons_self, Res.bind_ok, comp_map xs M fun y hy => hb y (List.mem_cons_of_mem _ hy)]
    rfl
theorem comp_filterMap {b : D → Mem → Res (Option D)} {h : D → Option D} : ∀ (xs : List D) (M : Mem), (∀ x ∈ xs, b x M = .ok (h x) M) → compLoop b xs M = .ok (xs.filterMap h) M
  | [], _, _ => rfl
  | x :: xs, M, hb => by
    unfold compLoop
    rw [hb x List.mem_cons_self, Res.bind_ok, comp_filterMap xs M fun y hy => hb y (List.mem_cons_of_mem _ hy)]
    cases hh : h x <;> simp [List.filterMap_cons, hh]
/-- a comprehension whose block changes the store within what W says, and gives what R says of the item -/
theorem comp_inv {b : D → Mem → Res (Option D)} (W : Mem → Prop) (R : D → D → Prop) : ∀ (xs : List D) (M : Mem), W M → (∀ x ∈ xs, ∀ M, W M → ∃ y M', b x M = .ok (some y) M' ∧ W M' ∧ R x y) → ∃ ys M', compLoop b xs M = .ok ys M' ∧ W M' ∧ ys.length = xs.length ∧ ∀ p ∈ xs.zip ys, R p.1 p.2
  | [], M, hM, _ => ⟨[], M, rfl, hM, rfl, fun p hp => by cases hp⟩
  | x :: xs, M, hM, hb => by
    obtain ⟨y, M1, e1, w1, r1⟩ := hb x List.mem_cons_self M hM
    obtain ⟨ys, M2, e2, w2, l2, r2⟩ := comp_inv W R xs M1 w1 fun z hz => hb z (List.mem_cons_of_mem _ hz)
    refine ⟨y :: ys, M2, ?_, w2, by rw [List.length_cons, List.length_cons, l2], fun p hp => ?_⟩
    · unfold compLoop; rw [e1, Res.bind_ok, e2]; rfl
    · rcases List.mem_cons.mp hp with rfl | hp
      · exact r1
      · exact r2 p hp
theorem allBl_true : ∀ {l : List D}, (∀ x ∈ l, x = .bl true) → allBl l = some true
  | [], _ => rfl
  | x :: l, h => by
    rw [h x List.mem_cons_self]
    show (allBl l).map (true && ·) = some true
    rw [allBl_true fun y hy => h y (List.mem_cons_of_mem _ hy)]; rfl
/-- all([.. for ..]), each true -/
theorem comp_true {b : D → Mem → Res (Option D)} (W : Mem → Prop) (xs : List D) (M : Mem) (hM : W M) (hb : ∀ x ∈ xs, ∀ M, W M → ∃ M', b x M = .ok (some (.bl true)) M' ∧ W M') : ∃ ys M', compLoop b xs M = .ok ys M' ∧ W M' ∧ allBl ys = some true := by
  obtain ⟨ys, M', e, w, l, r⟩ := comp_inv W (fun _ y => y = .bl true) xs M hM fun x hx M hM => by
    obtain ⟨M', e, w⟩ := hb x hx M hM
    exact ⟨_, M', e, w, rfl⟩
  refine ⟨ys, M', e, w, allBl_true fun y hy => ?_⟩
  obtain ⟨i, hi, rfl⟩ := List.getElem_of_mem hy
  have hx : i < xs.length := by omega
  have := r (xs[i], ys[i]) (by rw [List.mem_iff_getElem]; exact ⟨i, by simp; omega, by simp⟩)
  exact this
theorem allBl_map {α : Type} (p : α → Bool) : ∀ l : List α, allBl (l.map fun x => D.bl (p x)) = some (l.all p)
  | [] => rfl
  | x :: l => by
    show (allBl (l.map fun x => D.bl (p x))).map (p x && ·) = some (p x && l.all p)
    rw [allBl_map p l]; rfl
/-- a loop with what holds behind each turn -/
theorem for_inv {b : Sl → Mem → Res Flow} {t : Tg} (J : List D → Sl → Mem → Prop) : ∀ (xs : List D) (s : Sl) (M : Mem), J xs s M →
    (∀ x xs s M, J (x :: xs) s M → ∃ s1 s2 M2, bindTg t x s = some s1 ∧ (b s1 M = .ok (.nx s2) M2 ∨ b s1 M = .ok (.cont s2) M2) ∧ J xs s2 M2) → ∃ s' M', forLoop b t xs s M = .ok (.nx s') M' ∧ J [] s' M'
  | [], s, M, h, _ => ⟨s, M, rfl, h⟩
  | x :: xs, s, M, h, hb => by
    obtain ⟨s1, s2, M2, e1, e2, j2⟩ := hb x xs s M h
    obtain ⟨s', M', e3, j3⟩ := for_inv J xs s2 M2 j2 hb
    refine ⟨s', M', ?_, j3⟩
    rw [for_cons, e1]
    rcases e2 with e2 | e2 <;> (simp only [e2, Res.bind_ok]; exact e3)
/-- a while that ends: k falls -/
theorem while_inv {c : Sl → Mem → Res Bool} {b : Sl → Mem → Res Flow} (J : Nat → Sl → Mem → Prop) (Post : Sl → Mem → Prop)
    (step : ∀ k s M, J k s M → (c s M = .ok false M ∧ Post s M) ∨ (c s M = .ok true M ∧ ∃ s2 M2 k', b s M = .ok (.nx s2) M2 ∧ k' < k ∧ J k' s2 M2)) :
    ∀ (fuel k : Nat) (s : Sl) (M : Mem), k < fuel → J k s M → ∃ s' M', whileLoop c b fuel s M = .ok (.nx s') M' ∧ Post s' M'
  | 0, k, _, _, hk, _ => absurd hk (Nat.not_lt_zero _)
  | fuel + 1, k, s, M, hk, hj => by
    rcases step k s M hj with ⟨e, p⟩ | ⟨e, s2, M2, k', e2, hk', j'⟩
    · exact ⟨s, M, by unfold whileLoop; rw [e]; rfl, p⟩
    · obtain ⟨s', M', e3, p⟩ := while_inv J Post step fuel k' s2 M2 (by omega) j'
      exact ⟨s', M', by unfold whileLoop; rw [e, Res.bind_ok, if_pos rfl, e2]; exact e3, p⟩
/-! slices -/
theorem cut_take {α : Type} (l : List α) {k : Int} (h : 0 ≤ k) : cut l none (some k) = l.take k.toNat := by
  show (l.drop 0).take (bound l.length k - 0) = _
  unfold bound
  rw [if_pos h, List.drop_zero, Nat.sub_zero]
  by_cases hk : k.toNat ≤ l.length
  · rw [Nat.min_eq_left hk]
  · rw [Nat.min_eq_right (by omega), List.take_length, List.take_of_length_le (by omega)]
theorem cut_drop {α : Type} (l : List α) {k : Int} (h : 0 ≤ k) : cut l (some k) none = l.drop k.toNat := by
  show (l.drop (bound l.length k)).take (l.length - bound l.length k) = _
  unfold bound
  rw [if_pos h]
  by_cases hk : k.toNat ≤ l.length
  · rw [Nat.min_eq_left hk, List.take_of_length_le (by rw [List.length_drop]; exact Nat.le_refl _)]
  · rw [Nat.min_eq_right (by omega), List.drop_length, List.drop_of_length_le (by omega)]; simp
theorem cut_mid {α : Type} (l : List α) {a b : Int} (h : 0 ≤ a) (h2 : 0 ≤ b) : cut l (some a) (some b) = (l.drop a.toNat).take (b.toNat - a.toNat) := by
  show (l.drop (bound l.length a)).take (bound l.length b - bound l.length a) = _
  unfold bound
  rw [if_pos h, if_pos h2]
  by_cases ha : a.toNat ≤ l.length
  · rw [Nat.min_eq_left ha]
    by_cases hb : b.toNat ≤ l.length
    · rw [Nat.min_eq_left hb]
    · rw [Nat.min_eq_right (by omega), List.take_of_length_le (by rw [List.length_drop]; exact Nat.le_refl _), List.take_of_length_le (by rw [List.length_drop]; omega)]
  · have e : min a.toNat l.length = l.length := Nat.min_eq_right (by omega)
    rw [e, List.drop_length, List.drop_of_length_le (show l.length ≤ a.toNat by omega)]; simp
theorem cut_map {α β : Type} (f : α → β) (l : List α) (a b : Option Int) : cut (l.map f) a b = (cut l a b).map f := by
  rw [cut_eq, cut_eq, List.length_map, List.map_take, List.map_drop]
theorem sumInts_map : ∀ l : List Int, sumInts (l.map D.int) = some l.sum
  | [] => rfl
  | x :: l => by
    show (sumInts (l.map D.int)).map (x + ·) = _
    rw [sumInts_map l]; simp
@[simp] theorem binD_pow_int (i j : Int) : binD .pow (.int i) (.int j) = if 0 ≤ j ∧ j ≤ 1000000 ∧ i.natAbs < 2 ^ 64 then some (.int (i ^ j.toNat)) else none := eqr rfl
theorem at_nat {α : Type} (l : List α) {i : Int} (h : 0 ≤ i) : at_ l i = l[i.toNat]? := by unfold at_; rw [if_pos h]
theorem at_of {α : Type} (l : List α) (n : Nat) : at_ l (n : Int) = l[n]? := by rw [at_nat _ (by omega)]; rfl
theorem upto_map (n : Nat) (i : Int) : upto n i = (List.range n).map fun k => D.int (i + (k : Nat)) := by
  refine List.ext_getElem? fun k => ?_
  by_cases h : k < n
  · rw [upto_get n i k h, List.getElem?_map, List.getElem?_range h]; rfl
  · rw [List.getElem?_eq_none (by rw [upto_length]; omega), List.getElem?_eq_none (by simp; omega)]
/-! the store: one object changed -/
theorem set_get {M : Mem} {n : Nat} {o : MO} (h : M[n]? = some o) (x : MO) : (M.set n x)[n]? = some x := List.getElem?_set_self (List.getElem?_eq_some_iff.mp h).1
theorem set_take {M : Mem} {n : Nat} (x : MO) : (M.set n x).take M.length = M.set n x := List.take_of_length_le (by rw [List.length_set]; exact Nat.le_refl _)
theorem view_big {M : Mem} {l : List D} : view M (.d (.lst l)) = some (.lst l) := rfl

/-! ### what a result is to be -/
def Ev0 {α : Type} (r : Res α) (P : α → Mem → Prop) : Prop := match r with
  | .ok a M => P a M
  | .bad => False
/-- sealed, so that the kernel does not run the program on -/
structure Ev {α : Type} (r : Res α) (P : α → Mem → Prop) : Prop where
  out : Ev0 r P
section
variable {α β : Type} {P Q : α → Mem → Prop} {r : Res α}
@[simp] theorem Ev_ok (a : α) (M : Mem) (P : α → Mem → Prop) : Ev (.ok a M) P = P a M := propext ⟨fun h => h.out, fun h => ⟨h⟩⟩
@[simp] theorem Ev_bad (P : α → Mem → Prop) : Ev (.bad : Res α) P = False := propext ⟨fun h => h.out, fun h => h.elim⟩
theorem Ev_bind (r : Res α) (f : α → Mem → Res β) (P : β → Mem → Prop) : Ev (r.bind f) P = Ev r fun a M => Ev (f a M) P := by
  cases r with
  | bad => rw [Ev_bad]; exact Ev_bad P
  | ok a M => rw [Ev_ok]; rfl
theorem Ev_of (o : Option α) (M : Mem) (P : α → Mem → Prop) : Ev (Res.of o M) P = (match o with | some a => P a M | none => False) := by
  cases o with
  | none => exact Ev_bad P
  | some a => exact Ev_ok a M P
theorem Ev_toB (r : Res Val) (P : Bool → Mem → Prop) : Ev (toB r) P = Ev r fun v M => (match v with | .d (.bl b) => P b M | _ => False) := by
  unfold toB
  rw [Ev_bind]
  cases r with
  | bad => rw [Ev_bad, Ev_bad]
  | ok v M => 
    rw [Ev_ok, Ev_ok]
    cases v with
    | ref n => exact Ev_bad P
    | d x => cases x <;> first | exact Ev_bad P | exact Ev_ok _ _ P
theorem Ev.imp (h : Ev r P) (i : ∀ a M, P a M → Q a M) : Ev r Q := by
  cases r with
  | ok a M => exact ⟨i a M h.out⟩
  | bad => exact h.out.elim
theorem Ev.mid (Q : α → Mem → Prop) (h : Ev r Q) (i : ∀ a M, Q a M → P a M) : Ev r P := h.imp i
theorem Ev.ex (h : Ev r P) : ∃ a M, r = .ok a M ∧ P a M := by
  cases r with
  | ok a M => exact ⟨a, M, rfl, h.out⟩
  | bad => exact h.out.elim
theorem Ev.eq {a : α} {M : Mem} (h : Ev r fun b M' => b = a ∧ M' = M) : r = .ok a M := by
  obtain ⟨b, M', rfl, rfl, rfl⟩ := h.ex; rfl
theorem Ev.of_eq {a : α} {M : Mem} (h : r = .ok a M) (p : P a M) : Ev r P := by rw [h]; exact ⟨p⟩
theorem Ev.ite {c : Prop} [Decidable c] {r1 r2 : Res α} (h1 : c → Ev r1 P) (h2 : ¬ c → Ev r2 P) : Ev (if c then r1 else r2) P := by
  split
  · exact h1 ‹_›
  · exact h2 ‹_›
theorem Ev.for {b : Sl → Mem → Res Flow} {t : Tg} {P : Flow → Mem → Prop} (J : List D → Sl → Mem → Prop) (xs : List D) (s : Sl) (M : Mem) (h0 : J xs s M)
    (hb : ∀ x xs s M, J (x :: xs) s M → ∃ s1, bindTg t x s = some s1 ∧ Ev (b s1 M) fun f M2 => (match f with | .nx s2 => J xs s2 M2 | .cont s2 => J xs s2 M2 | .brk s2 => P (.nx s2) M2 | .ret v => P (.ret v) M2))
    (hP : ∀ s' M', J [] s' M' → P (.nx s') M') : Ev (forLoop b t xs s M) P := by
  induction xs generalizing s M with
  | nil => exact ⟨hP s M h0⟩
  | cons x xs ih =>
    obtain ⟨s1, e1, h1⟩ := hb x xs s M h0
    rw [for_cons, e1]
    simp only [Ev_bind]
    refine h1.imp fun f M2 hf => ?_
    cases f with
    | nx s2 => exact ih s2 M2 hf
    | cont s2 => exact ih s2 M2 hf
    | brk s2 => exact ⟨hf⟩
    | ret v => exact ⟨hf⟩
theorem Ev.while {c : Sl → Mem → Res Bool} {b : Sl → Mem → Res Flow} {P : Flow → Mem → Prop} (J : Nat → Sl → Mem → Prop)
    (step : ∀ k s M, J k s M → Ev (c s M) fun t M1 => if t then Ev (b s M1) fun f M2 => (match f with | .nx s2 => ∃ k', k' < k ∧ J k' s2 M2 | .cont s2 => ∃ k', k' < k ∧ J k' s2 M2 | .brk s2 => P (.nx s2) M2 | .ret v => P (.ret v) M2) else P (.nx s) M1) :
    ∀ (fuel k : Nat) (s : Sl) (M : Mem), k < fuel → J k s M → Ev (whileLoop c b fuel s M) P
  | 0, k, _, _, hk, _ => absurd hk (Nat.not_lt_zero _)
  | fuel + 1, k, s, M, hk, hj => by
    unfold whileLoop
    rw [Ev_bind]
    refine (step k s M hj).imp fun t M1 h => ?_
    cases t with
    | false => exact ⟨h⟩
    | true =>
      rw [if_pos rfl] at h ⊢
      rw [Ev_bind]
      refine h.imp fun f M2 hf => ?_
      cases f with
      | nx s2 => obtain ⟨k', h1, h2⟩ := hf; exact Ev.while J step fuel k' s2 M2 (by omega) h2
      | cont s2 => obtain ⟨k', h1, h2⟩ := hf; exact Ev.while J step fuel k' s2 M2 (by omega) h2
      | brk s2 => exact ⟨hf⟩
      | ret v => exact ⟨hf⟩
theorem Ev.comp {b : D → Mem → Res (Option D)} {P : List D → Mem → Prop} (J : List D → List D → Mem → Prop) : ∀ (xs ys : List D) (M : Mem), J xs ys M →
    (∀ x xs ys M, J (x :: xs) ys M → Ev (b x M) fun o M2 => (match o with | some y => J xs (ys ++ [y]) M2 | none => J xs ys M2)) →
    (∀ ys M', J [] ys M' → P ys M') → Ev (compLoop b xs M) fun zs M' => P (ys ++ zs) M'
  | [], ys, M, h, _, hP => by refine ⟨?_⟩; show P (ys ++ []) M; rw [List.append_nil]; exact hP ys M h
  | x :: xs, ys, M, h, hb, hP => by
    unfold compLoop
    rw [Ev_bind]
    refine (hb x xs ys M h).imp fun o M2 ho => ?_
    rw [Ev_bind]
    cases o with
    | none => exact (Ev.comp J xs ys M2 ho hb hP).imp fun zs M3 h3 => ⟨h3⟩
    | some y => exact (Ev.comp J xs (ys ++ [y]) M2 ho hb hP).imp fun zs M3 h3 => (by
        rw [List.append_assoc] at h3
        exact ⟨h3⟩ : Ev (Res.ok (y :: zs) M3) fun zs M' => P (ys ++ zs) M')
/-- each block gives true, within what W says of the store -/
theorem Ev.compTrue {b : D → Mem → Res (Option D)} {P : List D → Mem → Prop} (W : Mem → Prop) (xs : List D) (M : Mem) (hM : W M) (hb : ∀ x ∈ xs, ∀ M, W M → Ev (b x M) fun o M2 => o = some (.bl true) ∧ W M2)
    (hP : ∀ ys M', allBl ys = some true → W M' → P ys M') : Ev (compLoop b xs M) P := by
  obtain ⟨ys, M', e, w, h⟩ := comp_true (b := b) W xs M hM fun x hx M hM => by
    obtain ⟨o, M2, e, rfl, w⟩ := (hb x hx M hM).ex
    exact ⟨M2, e, w⟩
  rw [e]; exact ⟨hP ys M' h w⟩
/-- the block leaves the store -/
theorem Ev.compMap {b : D → Mem → Res (Option D)} {P : List D → Mem → Prop} (h : D → D) (xs : List D) (M : Mem) (hb : ∀ x ∈ xs, Ev (b x M) fun o M2 => o = some (h x) ∧ M2 = M) (hP : P (xs.map h) M) : Ev (compLoop b xs M) P := by
  rw [comp_map xs M fun x hx => (hb x hx).eq]; exact ⟨hP⟩
theorem Ev.compFilter {b : D → Mem → Res (Option D)} {P : List D → Mem → Prop} (h : D → Option D) (xs : List D) (M : Mem) (hb : ∀ x ∈ xs, Ev (b x M) fun o M2 => o = h x ∧ M2 = M) (hP : P (xs.filterMap h) M) : Ev (compLoop b xs M) P := by
  rw [comp_filterMap xs M fun x hx => (hb x hx).eq]; exact ⟨hP⟩
end
theorem evBlk_ap (own : List Nat) (t : Tg) (fifs : Sl → Mem → Res Bool) (s : Sl) (x : D) (M : Mem) : evBlk own t fifs fa s x M = (match bindTg t x (wipeS s own) with
  | some s' => (fifs s' M).bind fun b M2 => if b then (fa s' M2).bind fun v M3 => (match v with | .d y => .ok (some y) M3 | _ => .bad) else .ok none M2
  | none => .bad) := rfl
@[simp] theorem hb_top (o : MO) (M : Mem) : handBack true M.length (.ret (.ref M.length)) (M ++ [o]) = .ok (.d o.toD) M := by
  rw [hb_ref _ _ (Nat.le_refl _)]; simp

/-! ### step by step: what follows stands as a constant, so that nothing is computed ahead of its time -/
section
variable {fa fb fc : Sl → Mem → Res Val} {fl fk : Sl → Mem → Res (List Val)} {fd : Sl → Mem → Res (List D)} {fT : Sl → Mem → Res Bool} {fI : Sl → Mem → Res (List D)} {f g : Sl → Mem → Res Flow} {s : Sl} {M : Mem}
abbrev KV := Val → Mem → Prop
abbrev KF := Flow → Mem → Prop
@[simp] theorem Ev_vC (x : D) (P : KV) : Ev (vC x s M) P = P (.d x) M := Ev_ok _ _ _
@[simp] theorem Ev_vV (i : Nat) (P : KV) : Ev (vV i s M) P = (match s[i]? with | some (some v) => P v M | _ => False) := by
  show Ev (match s[i]? with | some (some v) => Res.ok v M | _ => .bad) P = _
  split
  · exact Ev_ok _ _ _
  · exact Ev_bad _
def kB (P : Bool → Mem → Prop) : KV := fun v M => match v with | .d (.bl b) => P b M | _ => False
@[simp] theorem kB_ap (P : Bool → Mem → Prop) (b : Bool) : kB P (.d (.bl b)) M = P b M := eqr rfl
@[simp] theorem Ev_tst (P : Bool → Mem → Prop) : Ev (tst fa s M) P = Ev (fa s M) (kB P) := Ev_toB _ _
def kNot (P : KV) : Bool → Mem → Prop := fun b M => P (.d (.bl (!b))) M
@[simp] theorem kNot_ap (P : KV) (b : Bool) : kNot P b M = P (.d (.bl (!b))) M := eqr rfl
@[simp] theorem Ev_not (P : KV) : Ev (evNot fa s M) P = Ev (fa s M) (kB (kNot P)) := by
  show Ev ((toB _).bind _) P = _
  rw [Ev_bind, Ev_toB]
  refine congrArg (Ev _) (funext fun v => funext fun M1 => ?_)
  cases v with
  | ref n => rfl
  | d x => cases x <;> first | exact Ev_ok _ _ P | rfl
def kAnd (fb : Sl → Mem → Res Val) (s : Sl) (P : KV) : Bool → Mem → Prop := fun b M => if b then Ev (fb s M) P else P (.d (.bl false)) M
@[simp] theorem kAnd_ap (P : KV) (b : Bool) : kAnd fb s P b M = if b then Ev (fb s M) P else P (.d (.bl false)) M := eqr rfl
theorem Ev_if {α : Type} {b : Bool} {r1 r2 : Res α} {P : α → Mem → Prop} : Ev (if b then r1 else r2) P = if b then Ev r1 P else Ev r2 P := by cases b <;> rfl
@[simp] theorem Ev_and (P : KV) : Ev (evAnd fa fb s M) P = Ev (fa s M) (kB (kAnd fb s P)) := by
  show Ev ((toB _).bind _) P = _
  rw [Ev_bind, ← Ev_tst]
  refine congrArg (Ev _) (funext fun b => funext fun M1 => ?_)
  rw [Ev_if]
  cases b
  · first | exact Ev_ok _ _ _ | rfl
  · first | exact Ev_ok _ _ _ | rfl
def kOr (fb : Sl → Mem → Res Val) (s : Sl) (P : KV) : Bool → Mem → Prop := fun b M => if b then P (.d (.bl true)) M else Ev (fb s M) P
@[simp] theorem kOr_ap (P : KV) (b : Bool) : kOr fb s P b M = if b then P (.d (.bl true)) M else Ev (fb s M) P := eqr rfl
@[simp] theorem Ev_or (P : KV) : Ev (evOr fa fb s M) P = Ev (fa s M) (kB (kOr fb s P)) := by
  show Ev ((toB _).bind _) P = _
  rw [Ev_bind, ← Ev_tst]
  refine congrArg (Ev _) (funext fun b => funext fun M1 => ?_)
  rw [Ev_if]
  cases b
  · first | exact Ev_ok _ _ _ | rfl
  · first | exact Ev_ok _ _ _ | rfl
def kIf (fa fb : Sl → Mem → Res Val) (s : Sl) (P : KV) : Bool → Mem → Prop := fun b M => if b then Ev (fa s M) P else Ev (fb s M) P
@[simp] theorem kIf_ap (P : KV) (b : Bool) : kIf fa fb s P b M = if b then Ev (fa s M) P else Ev (fb s M) P := eqr rfl
@[simp] theorem Ev_ifx (P : KV) : Ev (evIf fT fa fb s M) P = Ev (fT s M) (kIf fa fb s P) := by
  show Ev ((fT s M).bind _) P = _
  rw [Ev_bind]
  refine congrArg (Ev _) (funext fun b => funext fun M1 => ?_)
  rw [Ev_if]
  cases b
  · first | exact Ev_ok _ _ _ | rfl
  · first | exact Ev_ok _ _ _ | rfl
@[simp] theorem Ev_nil (P : List Val → Mem → Prop) : Ev (evNil s M) P = P [] M := Ev_ok _ _ _
@[simp] theorem Ev_dnil (P : List D → Mem → Prop) : Ev (evDNil s M) P = P [] M := Ev_ok _ _ _
def kCons2 (v : Val) (P : List Val → Mem → Prop) : List Val → Mem → Prop := fun vs M => P (v :: vs) M
@[simp] theorem kCons2_ap (v : Val) (P : List Val → Mem → Prop) (vs : List Val) : kCons2 v P vs M = P (v :: vs) M := eqr rfl
def kCons (fl : Sl → Mem → Res (List Val)) (s : Sl) (P : List Val → Mem → Prop) : KV := fun v M => Ev (fl s M) (kCons2 v P)
@[simp] theorem kCons_ap (v : Val) (P : List Val → Mem → Prop) : kCons fl s P v M = Ev (fl s M) (kCons2 v P) := eqr rfl
@[simp] theorem Ev_cons (P : List Val → Mem → Prop) : Ev (evCons fa fl s M) P = Ev (fa s M) (kCons fl s P) := by
  rw [evCons_ap, Ev_bind]
  refine congrArg (Ev _) (funext fun v => funext fun M1 => ?_)
  rw [Ev_bind]; (first | exact Ev_bad _ | exact Ev_ok _ _ _ | exact congrArg (Ev _) (funext fun _ => funext fun _ => Ev_ok _ _ _) | rfl)
def kConsD2 (x : D) (P : List D → Mem → Prop) : List D → Mem → Prop := fun vs M => P (x :: vs) M
@[simp] theorem kConsD2_ap (v : D) (P : List D → Mem → Prop) (vs : List D) : kConsD2 v P vs M = P (v :: vs) M := eqr rfl
def kConsD (fd : Sl → Mem → Res (List D)) (s : Sl) (P : List D → Mem → Prop) : KV := fun v M => match v with | .d x => Ev (fd s M) (kConsD2 x P) | _ => False
@[simp] theorem kConsD_ap (x : D) (P : List D → Mem → Prop) : kConsD fd s P (.d x) M = Ev (fd s M) (kConsD2 x P) := eqr rfl
@[simp] theorem Ev_dcons (P : List D → Mem → Prop) : Ev (evConsD fa fd s M) P = Ev (fa s M) (kConsD fd s P) := by
  rw [evConsD_ap, Ev_bind]
  refine congrArg (Ev _) (funext fun v => funext fun M1 => ?_)
  cases v with
  | ref n => first | exact Ev_bad _ | exact Ev_ok _ _ _ | exact congrArg (Ev _) (funext fun _ => funext fun _ => Ev_ok _ _ _) | rfl
  | d x => show Ev (Res.bind _ _) P = _; rw [Ev_bind]; (first | exact Ev_bad _ | exact Ev_ok _ _ _ | exact congrArg (Ev _) (funext fun _ => funext fun _ => Ev_ok _ _ _) | rfl)
def kTup (P : KV) : List D → Mem → Prop := fun xs M => xs.length ≤ big ∧ P (.d (.tup xs)) M
@[simp] theorem kTup_ap (P : KV) (xs : List D) : kTup P xs M = (xs.length ≤ big ∧ P (.d (.tup xs)) M) := eqr rfl
theorem Ev_guard {α : Type} {c : Prop} [Decidable c] {a : α} {P : α → Mem → Prop} : Ev (if c then Res.ok a M else .bad) P = (c ∧ P a M) := by
  by_cases h : c <;> simp [h]
@[simp] theorem Ev_tup (P : KV) : Ev (evTup fd s M) P = Ev (fd s M) (kTup P) := by
  rw [evTup_ap, Ev_bind]
  exact congrArg (Ev _) (funext fun v => funext fun M1 => Ev_guard)
def kLst (P : KV) : List D → Mem → Prop := fun xs M => xs.length ≤ big ∧ P (.d (.lst xs)) M
@[simp] theorem kLst_ap (P : KV) (xs : List D) : kLst P xs M = (xs.length ≤ big ∧ P (.d (.lst xs)) M) := eqr rfl
@[simp] theorem Ev_lst (P : KV) : Ev (evLst fd s M) P = Ev (fd s M) (kLst P) := by
  rw [evLst_ap, Ev_bind]
  exact congrArg (Ev _) (funext fun v => funext fun M1 => Ev_guard)
def kNew (P : KV) : KV := fun v M => match v with | .d (.lst l) => P (.ref M.length) (M ++ [.lst l]) | .d (.dic l) => P (.ref M.length) (M ++ [.dic l]) | _ => False
@[simp] theorem kNew_lst (P : KV) (l : List D) : kNew P (.d (.lst l)) M = P (.ref M.length) (M ++ [.lst l]) := eqr rfl
@[simp] theorem kNew_dic (P : KV) (l : List (D × D)) : kNew P (.d (.dic l)) M = P (.ref M.length) (M ++ [.dic l]) := eqr rfl
@[simp] theorem Ev_new (P : KV) : Ev (newOf fa s M) P = Ev (fa s M) (kNew P) := by
  rw [newOf_ap, Ev_bind]
  refine congrArg (Ev _) (funext fun v => funext fun M1 => ?_)
  cases v with
  | ref n => first | exact Ev_bad _ | exact Ev_ok _ _ _ | exact congrArg (Ev _) (funext fun _ => funext fun _ => Ev_ok _ _ _) | rfl
  | d x => cases x <;> (first | exact Ev_bad _ | exact Ev_ok _ _ _ | exact congrArg (Ev _) (funext fun _ => funext fun _ => Ev_ok _ _ _) | rfl)
/-- an answer that must be there -/
def kO (P : KV) (M : Mem) : Option D → Prop := fun o => match o with | some d => P (.d d) M | none => False
@[simp] theorem kO_some (P : KV) (d : D) : kO P M (some d) = P (.d d) M := eqr rfl
@[simp] theorem kO_none (P : KV) : kO P M none = False := eqr rfl
@[simp] theorem kO_ite (P : KV) {c : Prop} [Decidable c] (o : Option D) : kO P M (if c then o else none) = (c ∧ kO P M o) := by by_cases h : c <;> simp [h]
theorem Ev_ofmap (o : Option D) (P : KV) : Ev (Res.of (o.map Val.d) M) P = kO P M o := by cases o <;> (first | exact Ev_bad _ | exact Ev_ok _ _ _ | exact congrArg (Ev _) (funext fun _ => funext fun _ => Ev_ok _ _ _) | rfl)
def k22 (p : D → D → Option D) (v : Val) (P : KV) : KV := fun w M => match view M v, view M w with | some x, some y => kO P M (p x y) | _, _ => False
@[simp] theorem k22_ap (p : D → D → Option D) (v w : Val) (P : KV) : k22 p v P w M = (match view M v, view M w with | some x, some y => kO P M (p x y) | _, _ => False) := eqr rfl
def k21 (p : D → D → Option D) (fb : Sl → Mem → Res Val) (s : Sl) (P : KV) : KV := fun v M => Ev (fb s M) (k22 p v P)
@[simp] theorem k21_ap (p : D → D → Option D) (v : Val) (P : KV) : k21 p fb s P v M = Ev (fb s M) (k22 p v P) := eqr rfl
@[simp] theorem Ev_2 (p : D → D → Option D) (P : KV) : Ev (ev2 p fa fb s M) P = Ev (fa s M) (k21 p fb s P) := by
  rw [ev2_ap, Ev_bind]
  refine congrArg (Ev _) (funext fun v => funext fun M1 => ?_)
  rw [Ev_bind]
  refine congrArg (Ev _) (funext fun w => funext fun M2 => ?_)
  unfold k22
  cases view M2 v <;> cases view M2 w <;> first | exact Ev_bad _ | exact Ev_ofmap _ _
def k1 (p : D → Option D) (P : KV) : KV := fun v M => match view M v with | some x => kO P M (p x) | none => False
@[simp] theorem k1_ap (p : D → Option D) (v : Val) (P : KV) : k1 p P v M = (match view M v with | some x => kO P M (p x) | none => False) := eqr rfl
@[simp] theorem Ev_1 (p : D → Option D) (P : KV) : Ev (ev1 p fa s M) P = Ev (fa s M) (k1 p P) := by
  rw [ev1_ap, Ev_bind]
  refine congrArg (Ev _) (funext fun v => funext fun M1 => ?_)
  unfold k1
  cases view M1 v <;> first | exact Ev_bad _ | exact Ev_ofmap _ _
def k32 (p q : D → D → Option D) (fc : Sl → Mem → Res Val) (s : Sl) (v : Val) (P : KV) : KV := fun w M => match view M v, view M w with
  | some x, some y => (match p x y with
    | some (.bl true) => Ev (fc s M) (k22 q w P)
    | some (.bl false) => P (.d (.bl false)) M
    | _ => False)
  | _, _ => False
@[simp] theorem k32_ap (p q : D → D → Option D) (v w : Val) (P : KV) : k32 p q fc s v P w M = (match view M v, view M w with
  | some x, some y => (match p x y with
    | some (.bl true) => Ev (fc s M) (k22 q w P)
    | some (.bl false) => P (.d (.bl false)) M
    | _ => False)
  | _, _ => False) := eqr rfl
def k31 (p q : D → D → Option D) (fb fc : Sl → Mem → Res Val) (s : Sl) (P : KV) : KV := fun v M => Ev (fb s M) (k32 p q fc s v P)
@[simp] theorem k31_ap (p q : D → D → Option D) (v : Val) (P : KV) : k31 p q fb fc s P v M = Ev (fb s M) (k32 p q fc s v P) := eqr rfl
@[simp] theorem Ev_3 (p q : D → D → Option D) (P : KV) : Ev (ev3 p q fa fb fc s M) P = Ev (fa s M) (k31 p q fb fc s P) := by
  rw [ev3_ap, Ev_bind]
  refine congrArg (Ev _) (funext fun v => funext fun M1 => ?_)
  rw [Ev_bind]
  refine congrArg (Ev _) (funext fun w => funext fun M2 => ?_)
  unfold k32
  cases view M2 v with
  | none => first | exact Ev_bad _ | exact Ev_ok _ _ _ | exact congrArg (Ev _) (funext fun _ => funext fun _ => Ev_ok _ _ _) | rfl
  | some x =>
    cases view M2 w with
    | none => first | exact Ev_bad _ | exact Ev_ok _ _ _ | exact congrArg (Ev _) (funext fun _ => funext fun _ => Ev_ok _ _ _) | rfl
    | some y =>
      cases h : p x y with
      | none => simp only [h]; (first | exact Ev_bad _ | exact Ev_ok _ _ _ | exact congrArg (Ev _) (funext fun _ => funext fun _ => Ev_ok _ _ _) | rfl)
      | some d =>
        cases d with
        | bl b =>
          cases b with
          | false => simp only [h]; (first | exact Ev_bad _ | exact Ev_ok _ _ _ | exact congrArg (Ev _) (funext fun _ => funext fun _ => Ev_ok _ _ _) | rfl)
          | true =>
            simp only [h]
            rw [Ev_bind]
            refine congrArg (Ev _) (funext fun u => funext fun M3 => ?_)
            unfold k22
            cases view M3 w <;> cases view M3 u <;> first | exact Ev_bad _ | exact Ev_ofmap _ _
        | _ => simp only [h]; (first | exact Ev_bad _ | exact Ev_ok _ _ _ | exact congrArg (Ev _) (funext fun _ => funext fun _ => Ev_ok _ _ _) | rfl)
def kBi (p : List D → Option D) (P : KV) : List Val → Mem → Prop := fun vs M => match views M vs with | some xs => kO P M (p xs) | none => False
@[simp] theorem kBi_ap (p : List D → Option D) (P : KV) (vs : List Val) : kBi p P vs M = (match views M vs with | some xs => kO P M (p xs) | none => False) := eqr rfl
@[simp] theorem Ev_B (p : List D → Option D) (P : KV) : Ev (evB p fl s M) P = Ev (fl s M) (kBi p P) := by
  rw [evB_ap, Ev_bind]
  refine congrArg (Ev _) (funext fun v => funext fun M1 => ?_)
  unfold kBi
  cases views M1 v <;> first | exact Ev_bad _ | exact Ev_ofmap _ _
def kM2 (p : D → List D → Option D) (x1 : D) (v : Val) (P : KV) : List Val → Mem → Prop := fun vs M => match view M v, views M vs with | some x, some xs => kd x1 = kd x ∧ kO P M (p x xs) | _, _ => False
@[simp] theorem kM2_ap (p : D → List D → Option D) (x1 : D) (v : Val) (P : KV) (vs : List Val) : kM2 p x1 v P vs M = (match view M v, views M vs with | some x, some xs => kd x1 = kd x ∧ kO P M (p x xs) | _, _ => False) := eqr rfl
def kM1 (p : D → List D → Option D) (fl : Sl → Mem → Res (List Val)) (s : Sl) (P : KV) : KV := fun v M => match view M v with | some x1 => Ev (fl s M) (kM2 p x1 v P) | none => False
@[simp] theorem kM1_ap (p : D → List D → Option D) (v : Val) (P : KV) : kM1 p fl s P v M = (match view M v with | some x1 => Ev (fl s M) (kM2 p x1 v P) | none => False) := eqr rfl
@[simp] theorem Ev_M (p : D → List D → Option D) (P : KV) : Ev (evM p fa fl s M) P = Ev (fa s M) (kM1 p fl s P) := by
  rw [evM_ap, Ev_bind]
  refine congrArg (Ev _) (funext fun v => funext fun M1 => ?_)
  unfold kM1
  cases view M1 v with
  | none => first | exact Ev_bad _ | exact Ev_ok _ _ _ | exact congrArg (Ev _) (funext fun _ => funext fun _ => Ev_ok _ _ _) | rfl
  | some x1 =>
    show Ev (Res.bind _ _) P = Ev _ _
    rw [Ev_bind]
    refine congrArg (Ev _) (funext fun w => funext fun M2 => ?_)
    unfold kM2
    cases view M2 v with
    | none => first | exact Ev_bad _ | exact Ev_ok _ _ _ | exact congrArg (Ev _) (funext fun _ => funext fun _ => Ev_ok _ _ _) | rfl
    | some x =>
      cases views M2 w with
      | none => first | exact Ev_bad _ | exact Ev_ok _ _ _ | exact congrArg (Ev _) (funext fun _ => funext fun _ => Ev_ok _ _ _) | rfl
      | some xs =>
        show Ev (if kd x1 = kd x then _ else _) P = _
        by_cases h : kd x1 = kd x
        · simp only [h, if_true, true_and]; exact Ev_ofmap _ _
        · simp only [h, if_false, false_and]; (first | exact Ev_bad _ | exact Ev_ok _ _ _ | exact congrArg (Ev _) (funext fun _ => funext fun _ => Ev_ok _ _ _) | rfl)
def kMu2 (m : Mu) (n : Nat) (P : KV) : List Val → Mem → Prop := fun vs M => match M[n]?, argsOf m M vs with
  | some o, some xs => (match muD m o xs with | some (y, o') => P (.d y) (M.set n o') | none => False)
  | _, _ => False
@[simp] theorem kMu2_ap (m : Mu) (n : Nat) (P : KV) (vs : List Val) : kMu2 m n P vs M = (match M[n]?, argsOf m M vs with
  | some o, some xs => (match muD m o xs with | some (y, o') => P (.d y) (M.set n o') | none => False)
  | _, _ => False) := eqr rfl
@[simp] theorem Ev_mu (m : Mu) (i : Nat) (P : KV) : Ev (evMu m i fl s M) P = (match s[i]? with | some (some (.ref n)) => Ev (fl s M) (kMu2 m n P) | _ => False) := by
  rw [evMu_ap]
  split
  · rw [Ev_bind]
    refine congrArg (Ev _) (funext fun w => funext fun M2 => ?_)
    unfold kMu2
    split
    · cases muD m _ _ <;> (first | exact Ev_bad _ | exact Ev_ok _ _ _ | exact congrArg (Ev _) (funext fun _ => funext fun _ => Ev_ok _ _ _) | rfl)
    · first | exact Ev_bad _ | exact Ev_ok _ _ _ | exact congrArg (Ev _) (funext fun _ => funext fun _ => Ev_ok _ _ _) | rfl
  · first | exact Ev_bad _ | exact Ev_ok _ _ _ | exact congrArg (Ev _) (funext fun _ => funext fun _ => Ev_ok _ _ _) | rfl
def kSl3 (v w : Val) (P : KV) : KV := fun u M => match view M v, view M w, view M u with | some x, some y, some z => kO P M (sliceD x (some y) (some z)) | _, _, _ => False
@[simp] theorem kSl3_ap (v w u : Val) (P : KV) : kSl3 v w P u M = (match view M v, view M w, view M u with | some x, some y, some z => kO P M (sliceD x (some y) (some z)) | _, _, _ => False) := eqr rfl
def kSl2 (fc : Sl → Mem → Res Val) (s : Sl) (v : Val) (P : KV) : KV := fun w M => Ev (fc s M) (kSl3 v w P)
@[simp] theorem kSl2_ap (v w : Val) (P : KV) : kSl2 fc s v P w M = Ev (fc s M) (kSl3 v w P) := eqr rfl
def kSl1 (fb fc : Sl → Mem → Res Val) (s : Sl) (P : KV) : KV := fun v M => Ev (fb s M) (kSl2 fc s v P)
@[simp] theorem kSl1_ap (v : Val) (P : KV) : kSl1 fb fc s P v M = Ev (fb s M) (kSl2 fc s v P) := eqr rfl
@[simp] theorem Ev_sl (P : KV) : Ev (evSl fa fb fc s M) P = Ev (fa s M) (kSl1 fb fc s P) := by
  rw [evSl_ap, Ev_bind]
  refine congrArg (Ev _) (funext fun v => funext fun M1 => ?_)
  rw [Ev_bind]
  refine congrArg (Ev _) (funext fun w => funext fun M2 => ?_)
  rw [Ev_bind]
  refine congrArg (Ev _) (funext fun u => funext fun M3 => ?_)
  unfold kSl3
  cases view M3 v <;> cases view M3 w <;> cases view M3 u <;> first | exact Ev_bad _ | exact Ev_ofmap _ _
/-! walks -/
def kIt (P : List D → Mem → Prop) : KV := fun v M => match v with | .d x => (match items x with | some l => P l M | none => False) | _ => False
@[simp] theorem kIt_ap (x : D) (P : List D → Mem → Prop) : kIt P (.d x) M = (match items x with | some l => P l M | none => False) := eqr rfl
@[simp] theorem Ev_it (P : List D → Mem → Prop) : Ev (evIt fa s M) P = Ev (fa s M) (kIt P) := by
  rw [evIt_ap, Ev_bind]
  refine congrArg (Ev _) (funext fun v => funext fun M1 => ?_)
  cases v with
  | ref n => first | exact Ev_bad _ | exact Ev_ok _ _ _ | exact congrArg (Ev _) (funext fun _ => funext fun _ => Ev_ok _ _ _) | rfl
  | d x => show Ev (Res.of _ _) P = _; rw [Ev_of]; unfold kIt; cases h : items x <;> simp [h]
def kEnm (P : List D → Mem → Prop) : KV := fun v M => match v with | .d x => (match itemsE x with | some l => P (enumFrom 0 l) M | none => False) | _ => False
@[simp] theorem kEnm_ap (x : D) (P : List D → Mem → Prop) : kEnm P (.d x) M = (match itemsE x with | some l => P (enumFrom 0 l) M | none => False) := eqr rfl
@[simp] theorem Ev_enm (P : List D → Mem → Prop) : Ev (evEnm fa s M) P = Ev (fa s M) (kEnm P) := by
  rw [evEnm_ap, Ev_bind]
  refine congrArg (Ev _) (funext fun v => funext fun M1 => ?_)
  cases v with
  | ref n => first | exact Ev_bad _ | exact Ev_ok _ _ _ | exact congrArg (Ev _) (funext fun _ => funext fun _ => Ev_ok _ _ _) | rfl
  | d x => show Ev (Res.of _ _) P = _; rw [Ev_of]; unfold kEnm; cases h : itemsE x <;> simp [h]
def kRO (P : List D → Mem → Prop) (M : Mem) : Option (List D) → Prop := fun o => match o with | some l => P l M | none => False
@[simp] theorem kRO_some (P : List D → Mem → Prop) (l : List D) : kRO P M (some l) = P l M := eqr rfl
@[simp] theorem kRO_none (P : List D → Mem → Prop) : kRO P M none = False := eqr rfl
@[simp] theorem kRO_ite (P : List D → Mem → Prop) {c : Prop} [Decidable c] (o : Option (List D)) : kRO P M (if c then o else none) = (c ∧ kRO P M o) := by by_cases h : c <;> simp [h]
def kRng (P : List D → Mem → Prop) : List Val → Mem → Prop := fun vs M => match views M vs with | some xs => kRO P M (rngD xs) | none => False
@[simp] theorem kRng_ap (vs : List Val) (P : List D → Mem → Prop) : kRng P vs M = (match views M vs with | some xs => kRO P M (rngD xs) | none => False) := eqr rfl
@[simp] theorem Ev_rng (P : List D → Mem → Prop) : Ev (evRng fl s M) P = Ev (fl s M) (kRng P) := by
  rw [evRng_ap, Ev_bind]
  refine congrArg (Ev _) (funext fun v => funext fun M1 => ?_)
  unfold kRng
  cases views M1 v with
  | none => exact Ev_bad _
  | some xs => show Ev (Res.of _ _) P = kRO P M1 (rngD xs); rw [Ev_of]; cases h : rngD xs <;> simp [h]
@[simp] theorem Ev_ifs0 (P : Bool → Mem → Prop) : Ev (ifs0 s M) P = P true M := Ev_ok _ _ _
def kIfs (P : Bool → Mem → Prop) : Bool → Mem → Prop := fun b M => P b M
@[simp] theorem kIfs_ap (P : Bool → Mem → Prop) (b : Bool) : kIfs P b M = P b M := eqr rfl
@[simp] theorem Ev_ifs1 (P : Bool → Mem → Prop) : Ev (ifs1 fT s M) P = Ev (fT s M) (kIfs P) := by
  rw [ifs1_ap, Ev_bind]
  refine congrArg (Ev _) (funext fun b => funext fun M1 => ?_)
  cases b <;> (first | exact Ev_bad _ | exact Ev_ok _ _ _ | exact congrArg (Ev _) (funext fun _ => funext fun _ => Ev_ok _ _ _) | rfl)
def kLc2 (P : KV) : List D → Mem → Prop := fun ys M => P (.d (.lst ys)) M
@[simp] theorem kLc2_ap (P : KV) (ys : List D) : kLc2 P ys M = P (.d (.lst ys)) M := eqr rfl
def kLc (b : D → Mem → Res (Option D)) (P : KV) : List D → Mem → Prop := fun xs M => Ev (compLoop b xs M) (kLc2 P)
@[simp] theorem kLc_ap (b : D → Mem → Res (Option D)) (P : KV) (xs : List D) : kLc b P xs M = Ev (compLoop b xs M) (kLc2 P) := eqr rfl
@[simp] theorem Ev_lc (own : List Nat) (t : Tg) (fifs : Sl → Mem → Res Bool) (P : KV) : Ev (evLc own t fI fifs fa s M) P = Ev (fI s M) (kLc (evBlk own t fifs fa s) P) := by
  rw [evLc_ap, Ev_bind]
  refine congrArg (Ev _) (funext fun xs => funext fun M1 => ?_)
  rw [Ev_bind]; (first | exact Ev_bad _ | exact Ev_ok _ _ _ | exact congrArg (Ev _) (funext fun _ => funext fun _ => Ev_ok _ _ _) | rfl)
abbrev KO := Option D → Mem → Prop
def kBlk2 (P : KO) : KV := fun v M => match v with | .d y => P (some y) M | _ => False
@[simp] theorem kBlk2_ap (P : KO) (y : D) : kBlk2 P (.d y) M = P (some y) M := eqr rfl
def kBlk (fa : Sl → Mem → Res Val) (s : Sl) (P : KO) : Bool → Mem → Prop := fun b M => if b then Ev (fa s M) (kBlk2 P) else P none M
@[simp] theorem kBlk_ap (P : KO) (b : Bool) : kBlk fa s P b M = if b then Ev (fa s M) (kBlk2 P) else P none M := eqr rfl
@[simp] theorem Ev_blk (own : List Nat) (t : Tg) (fifs : Sl → Mem → Res Bool) (x : D) (P : KO) : Ev (evBlk own t fifs fa s x M) P = (match bindTg t x (wipeS s own) with | some s' => Ev (fifs s' M) (kBlk fa s' P) | none => False) := by
  rw [evBlk_ap]
  split
  · rw [Ev_bind]
    refine congrArg (Ev _) (funext fun b => funext fun M1 => ?_)
    cases b with
    | false => first | exact Ev_bad _ | exact Ev_ok _ _ _ | exact congrArg (Ev _) (funext fun _ => funext fun _ => Ev_ok _ _ _) | rfl
    | true =>
      show Ev (Res.bind _ _) P = Ev _ _
      rw [Ev_bind]
      refine congrArg (Ev _) (funext fun v => funext fun M2 => ?_)
      cases v <;> (first | exact Ev_bad _ | exact Ev_ok _ _ _ | exact congrArg (Ev _) (funext fun _ => funext fun _ => Ev_ok _ _ _) | rfl)
  · first | exact Ev_bad _ | exact Ev_ok _ _ _ | exact congrArg (Ev _) (funext fun _ => funext fun _ => Ev_ok _ _ _) | rfl
/-! calls -/
def kCall (g : List Val → Mem → Res Val) (P : KV) : List Val → Mem → Prop := fun vs M => Ev (g vs M) P
@[simp] theorem kCall_ap (g : List Val → Mem → Res Val) (P : KV) (vs : List Val) : kCall g P vs M = Ev (g vs M) P := eqr rfl
@[simp] theorem Ev_call (g : List Val → Mem → Res Val) (P : KV) : Ev (evCall g fl s M) P = Ev (fl s M) (kCall g P) := by rw [evCall_ap, Ev_bind]; (first | exact Ev_bad _ | exact Ev_ok _ _ _ | exact congrArg (Ev _) (funext fun _ => funext fun _ => Ev_ok _ _ _) | rfl)
def kCallN2 (n m : Nat) (ord : List Val → List Val → List Val) (g : List Val → Mem → Res Val) (vs : List Val) (P : KV) : List Val → Mem → Prop := fun ws M => (vs.length = n ∧ ws.length = m) ∧ Ev (g (ord vs ws) M) P
@[simp] theorem kCallN2_ap (n m : Nat) (ord : List Val → List Val → List Val) (g : List Val → Mem → Res Val) (vs ws : List Val) (P : KV) : kCallN2 n m ord g vs P ws M = ((vs.length = n ∧ ws.length = m) ∧ Ev (g (ord vs ws) M) P) := eqr rfl
def kCallN (n m : Nat) (ord : List Val → List Val → List Val) (g : List Val → Mem → Res Val) (fk : Sl → Mem → Res (List Val)) (s : Sl) (P : KV) : List Val → Mem → Prop := fun vs M => Ev (fk s M) (kCallN2 n m ord g vs P)
@[simp] theorem kCallN_ap (n m : Nat) (ord : List Val → List Val → List Val) (g : List Val → Mem → Res Val) (vs : List Val) (P : KV) : kCallN n m ord g fk s P vs M = Ev (fk s M) (kCallN2 n m ord g vs P) := eqr rfl
@[simp] theorem Ev_callN (n m : Nat) (ord : {α : Type} → List α → List α → List α) (g : List Val → Mem → Res Val) (P : KV) : Ev (evCallN n m ord g fl fk s M) P = Ev (fl s M) (kCallN n m (fun us ws => ord us ws) g fk s P) := by
  rw [evCallN_ap, Ev_bind]
  refine congrArg (Ev _) (funext fun vs => funext fun M1 => ?_)
  rw [Ev_bind]
  refine congrArg (Ev _) (funext fun ws => funext fun M2 => ?_)
  unfold kCallN2
  by_cases h : vs.length = n ∧ ws.length = m <;> simp [h]
@[simp] theorem pickO_nil {α : Type} (us ws : List α) : pickO [] us ws = [] := eqr rfl
@[simp] theorem pickO_t {α : Type} (j : Nat) (r : List (Bool × Nat)) (us ws : List α) : pickO ((true, j) :: r) us ws = (match ws[j]? with | some x => x :: pickO r us ws | none => pickO r us ws) := by
  unfold pickO; rw [List.filterMap_cons]; simp; cases ws[j]? <;> (first | exact Ev_bad _ | exact Ev_ok _ _ _ | exact congrArg (Ev _) (funext fun _ => funext fun _ => Ev_ok _ _ _) | rfl)
@[simp] theorem pickO_f {α : Type} (j : Nat) (r : List (Bool × Nat)) (us ws : List α) : pickO ((false, j) :: r) us ws = (match us[j]? with | some x => x :: pickO r us ws | none => pickO r us ws) := by
  unfold pickO; rw [List.filterMap_cons]; simp; cases us[j]? <;> (first | exact Ev_bad _ | exact Ev_ok _ _ _ | exact congrArg (Ev _) (funext fun _ => funext fun _ => Ev_ok _ _ _) | rfl)
/-! statements -/
def kNx (P : KF) : Sl → Mem → Prop := fun s M => P (.nx s) M
@[simp] theorem kNx_ap (P : KF) : kNx P s M = P (.nx s) M := eqr rfl
def kAsg (st : Val → Sl → Mem → Res Sl) (s : Sl) (P : KF) : KV := fun v M => Ev (st v s M) (kNx P)
@[simp] theorem kAsg_ap (st : Val → Sl → Mem → Res Sl) (P : KF) (v : Val) : kAsg st s P v M = Ev (st v s M) (kNx P) := eqr rfl
@[simp] theorem Ev_asg (st : Val → Sl → Mem → Res Sl) (P : KF) : Ev (evAsg fa st s M) P = Ev (fa s M) (kAsg st s P) := by
  rw [evAsg_ap, Ev_bind]
  refine congrArg (Ev _) (funext fun v => funext fun M1 => ?_)
  rw [Ev_bind]; (first | exact Ev_bad _ | exact Ev_ok _ _ _ | exact congrArg (Ev _) (funext fun _ => funext fun _ => Ev_ok _ _ _) | rfl)
@[simp] theorem Ev_stN (i : Nat) (v : Val) (P : Sl → Mem → Prop) : Ev (stN i v s M) P = (i < s.length ∧ P (s.set i (some v)) M) := by rw [stN_ap]; exact Ev_guard
def kStSub (n : Nat) (y : D) (s : Sl) (P : Sl → Mem → Prop) : KV := fun w M => match M[n]?, view M w with
  | some o, some k => (match setD o k y with | some o' => P s (M.set n o') | none => False)
  | _, _ => False
@[simp] theorem kStSub_ap (n : Nat) (y : D) (P : Sl → Mem → Prop) (w : Val) : kStSub n y s P w M = (match M[n]?, view M w with
  | some o, some k => (match setD o k y with | some o' => P s (M.set n o') | none => False)
  | _, _ => False) := eqr rfl
@[simp] theorem Ev_stSub (i : Nat) (y : D) (P : Sl → Mem → Prop) : Ev (stSub i fa (.d y) s M) P = (match s[i]? with | some (some (.ref n)) => Ev (fa s M) (kStSub n y s P) | _ => False) := by
  rw [stSub_ap]
  split
  · rw [Ev_bind]
    refine congrArg (Ev _) (funext fun w => funext fun M2 => ?_)
    unfold kStSub
    split
    · cases setD _ _ _ <;> (first | exact Ev_bad _ | exact Ev_ok _ _ _ | exact congrArg (Ev _) (funext fun _ => funext fun _ => Ev_ok _ _ _) | rfl)
    · first | exact Ev_bad _ | exact Ev_ok _ _ _ | exact congrArg (Ev _) (funext fun _ => funext fun _ => Ev_ok _ _ _) | rfl
  · first | exact Ev_bad _ | exact Ev_ok _ _ _ | exact congrArg (Ev _) (funext fun _ => funext fun _ => Ev_ok _ _ _) | rfl
@[simp] theorem Ev_stNil (P : Sl → Mem → Prop) : Ev (stNil [] s M) P = P s M := Ev_ok _ _ _
def kStCons (sts : List D → Sl → Mem → Res Sl) (xs : List D) (P : Sl → Mem → Prop) : Sl → Mem → Prop := fun s M => Ev (sts xs s M) P
@[simp] theorem kStCons_ap (sts : List D → Sl → Mem → Res Sl) (xs : List D) (P : Sl → Mem → Prop) : kStCons sts xs P s M = Ev (sts xs s M) P := eqr rfl
@[simp] theorem Ev_stCons (st : Val → Sl → Mem → Res Sl) (sts : List D → Sl → Mem → Res Sl) (x : D) (xs : List D) (P : Sl → Mem → Prop) : Ev (stCons st sts (x :: xs) s M) P = Ev (st (.d x) s M) (kStCons sts xs P) := by rw [stCons_ap, Ev_bind]; (first | exact Ev_bad _ | exact Ev_ok _ _ _ | exact congrArg (Ev _) (funext fun _ => funext fun _ => Ev_ok _ _ _) | rfl)
@[simp] theorem Ev_stTup (n : Nat) (sts : List D → Sl → Mem → Res Sl) (xs : List D) (P : Sl → Mem → Prop) : Ev (stTup n sts (.d (.tup xs)) s M) P = (xs.length = n ∧ Ev (sts xs s M) P) := by
  rw [stTup_ap]; by_cases h : xs.length = n <;> simp [h]
def kPar (is : List Nat) (s : Sl) (P : KF) : List Val → Mem → Prop := fun vs M => match setMany is vs s with | some s1 => P (.nx s1) M | none => False
@[simp] theorem kPar_ap (is : List Nat) (P : KF) (vs : List Val) : kPar is s P vs M = (match setMany is vs s with | some s1 => P (.nx s1) M | none => False) := eqr rfl
@[simp] theorem Ev_par (is : List Nat) (P : KF) : Ev (evPar is fl s M) P = Ev (fl s M) (kPar is s P) := by
  rw [evPar_ap, Ev_bind]
  refine congrArg (Ev _) (funext fun vs => funext fun M1 => ?_)
  unfold kPar
  cases setMany is vs s <;> (first | exact Ev_bad _ | exact Ev_ok _ _ _ | exact congrArg (Ev _) (funext fun _ => funext fun _ => Ev_ok _ _ _) | rfl)
def kEx (s : Sl) (P : KF) : KV := fun _ M => P (.nx s) M
@[simp] theorem kEx_ap (P : KF) (v : Val) : kEx s P v M = P (.nx s) M := eqr rfl
@[simp] theorem Ev_ex (P : KF) : Ev (sEx fa s M) P = Ev (fa s M) (kEx s P) := by rw [sEx_ap, Ev_bind]; (first | exact Ev_bad _ | exact Ev_ok _ _ _ | exact congrArg (Ev _) (funext fun _ => funext fun _ => Ev_ok _ _ _) | rfl)
def kRet (P : KF) : KV := fun v M => P (.ret v) M
@[simp] theorem kRet_ap (P : KF) (v : Val) : kRet P v M = P (.ret v) M := eqr rfl
@[simp] theorem Ev_ret (P : KF) : Ev (sRet fa s M) P = Ev (fa s M) (kRet P) := by rw [sRet_ap, Ev_bind]; (first | exact Ev_bad _ | exact Ev_ok _ _ _ | exact congrArg (Ev _) (funext fun _ => funext fun _ => Ev_ok _ _ _) | rfl)
@[simp] theorem Ev_retN (P : KF) : Ev (sRetN s M) P = P (.ret (.d .non)) M := Ev_ok _ _ _
@[simp] theorem Ev_pass (P : KF) : Ev (sPass s M) P = P (.nx s) M := Ev_ok _ _ _
@[simp] theorem Ev_brk (P : KF) : Ev (sBrk s M) P = P (.brk s) M := Ev_ok _ _ _
@[simp] theorem Ev_cont (P : KF) : Ev (sCont s M) P = P (.cont s) M := Ev_ok _ _ _
@[simp] theorem Ev_never (P : KF) : Ev (sNever s M) P = False := Ev_bad _
theorem Ev_whileS (P : KF) : Ev (sWhile fT f s M) P = Ev (whileLoop fT f turns s M) P := rfl
def kIte (f g : Sl → Mem → Res Flow) (s : Sl) (P : KF) : Bool → Mem → Prop := fun b M => if b then Ev (f s M) P else Ev (g s M) P
@[simp] theorem kIte_ap (P : KF) (b : Bool) : kIte f g s P b M = if b then Ev (f s M) P else Ev (g s M) P := eqr rfl
@[simp] theorem Ev_ite (P : KF) : Ev (evIte fT f g s M) P = Ev (fT s M) (kIte f g s P) := by
  rw [evIte_ap, Ev_bind]
  refine congrArg (Ev _) (funext fun b => funext fun M1 => ?_)
  rw [Ev_if]
  cases b
  · first | exact Ev_ok _ _ _ | rfl
  · first | exact Ev_ok _ _ _ | rfl
def kSeq (g : Sl → Mem → Res Flow) (P : KF) : KF := fun x M => match x with | .nx s => Ev (g s M) P | .ret v => P (.ret v) M | .brk s => P (.brk s) M | .cont s => P (.cont s) M
@[simp] theorem kSeq_nx (P : KF) : kSeq g P (.nx s) M = Ev (g s M) P := eqr rfl
@[simp] theorem kSeq_ret (P : KF) (v : Val) : kSeq g P (.ret v) M = P (.ret v) M := eqr rfl
@[simp] theorem kSeq_brk (P : KF) : kSeq g P (.brk s) M = P (.brk s) M := eqr rfl
@[simp] theorem kSeq_cont (P : KF) : kSeq g P (.cont s) M = P (.cont s) M := eqr rfl
@[simp] theorem Ev_seq (P : KF) : Ev (evSeq f g s M) P = Ev (f s M) (kSeq g P) := by
  rw [evSeq_ap, Ev_bind]
  refine congrArg (Ev _) (funext fun x => funext fun M1 => ?_)
  cases x <;> (first | exact Ev_bad _ | exact Ev_ok _ _ _ | exact congrArg (Ev _) (funext fun _ => funext fun _ => Ev_ok _ _ _) | rfl)
def kFor (t : Tg) (f : Sl → Mem → Res Flow) (s : Sl) (P : KF) : List D → Mem → Prop := fun xs M => Ev (forLoop f t xs s M) P
@[simp] theorem kFor_ap (t : Tg) (P : KF) (xs : List D) : kFor t f s P xs M = Ev (forLoop f t xs s M) P := eqr rfl
@[simp] theorem Ev_for (t : Tg) (P : KF) : Ev (evFor t fI f s M) P = Ev (fI s M) (kFor t f s P) := by rw [evFor_ap, Ev_bind]; (first | exact Ev_bad _ | exact Ev_ok _ _ _ | exact congrArg (Ev _) (funext fun _ => funext fun _ => Ev_ok _ _ _) | rfl)
@[simp] theorem Ev_mv (bs j i : Nat) (P : KF) : Ev (evMv bs j i s M) P = (match s[i]? with
  | some (some (.ref n)) => (n + 1 = M.length ∧ bs ≤ n ∧ j < s.length ∧ (s.set i none).all (notRef n) = true) ∧ (match M[n]? with
      | some o => P (.nx ((s.set i none).set j (some (.d o.toD)))) (M.take n)
      | none => False)
  | _ => False) := by
  unfold evMv
  generalize s[i]? = x
  rcases x with _ | _ | (_ | n)
  · first | exact Ev_bad _ | exact Ev_ok _ _ _ | exact congrArg (Ev _) (funext fun _ => funext fun _ => Ev_ok _ _ _) | rfl
  · first | exact Ev_bad _ | exact Ev_ok _ _ _ | exact congrArg (Ev _) (funext fun _ => funext fun _ => Ev_ok _ _ _) | rfl
  · first | exact Ev_bad _ | exact Ev_ok _ _ _ | exact congrArg (Ev _) (funext fun _ => funext fun _ => Ev_ok _ _ _) | rfl
  · show Ev (if _ then _ else _) P = (_ ∧ _)
    by_cases hc : n + 1 = M.length ∧ bs ≤ n ∧ j < s.length ∧ (s.set i none).all (notRef n) = true
    · rw [if_pos hc, eq_true hc, true_and]
      cases M[n]? <;> (first | exact Ev_bad _ | exact Ev_ok _ _ _ | exact congrArg (Ev _) (funext fun _ => funext fun _ => Ev_ok _ _ _) | rfl)
    · rw [if_neg hc, eq_false hc, false_and]; (first | exact Ev_bad _ | exact Ev_ok _ _ _ | exact congrArg (Ev _) (funext fun _ => funext fun _ => Ev_ok _ _ _) | rfl)
@[simp] theorem notRef_none (n : Nat) : notRef n none = true := eqr rfl
@[simp] theorem notRef_d (n : Nat) (x : D) : notRef n (some (.d x)) = true := eqr rfl
@[simp] theorem notRef_ref (n k : Nat) : notRef n (some (.ref k)) = (k != n) := eqr rfl
/-! defs -/
def kHB (fr : Bool) (b : Nat) (P : KV) : KF := fun f M => Ev (handBack fr b f M) P
@[simp] theorem kHB_d (b : Nat) (P : KV) (x : D) : kHB false b P (.ret (.d x)) M = P (.d x) (M.take b) := Ev_ok _ _ _
@[simp] theorem kHB_nx (b : Nat) (P : KV) : kHB false b P (.nx s) M = P (.d .non) (M.take b) := Ev_ok _ _ _
@[simp] theorem kHB_ref (b k : Nat) (P : KV) : kHB true b P (.ret (.ref k)) M = (b ≤ k ∧ (match M[k]? with | some o => P (.d o.toD) (M.take b) | none => False)) := by
  show Ev (if true = true ∧ b ≤ k then (match M[k]? with | some o => Res.ok (Val.d o.toD) (M.take b) | none => .bad) else .bad) P = _
  by_cases h : b ≤ k
  · rw [if_pos ⟨rfl, h⟩]; simp only [h, true_and]; cases M[k]? <;> (first | exact Ev_bad _ | exact Ev_ok _ _ _ | exact congrArg (Ev _) (funext fun _ => funext fun _ => Ev_ok _ _ _) | rfl)
  · rw [if_neg (fun z => h z.2)]; simp only [h, false_and]; (first | exact Ev_bad _ | exact Ev_ok _ _ _ | exact congrArg (Ev _) (funext fun _ => funext fun _ => Ev_ok _ _ _) | rfl)
theorem Ev_G1 (fr : Bool) (m : Nat) (F : Nat → Sl → Mem → Res Flow) (a : Val) (P : KV) : Ev (defG fr 1 m F [a] M) P = Ev (F M.length (some a :: List.replicate m none) M) (kHB fr M.length P) := by rw [defG1, Ev_bind]; (first | exact Ev_bad _ | exact Ev_ok _ _ _ | exact congrArg (Ev _) (funext fun _ => funext fun _ => Ev_ok _ _ _) | rfl)
theorem Ev_G2 (fr : Bool) (m : Nat) (F : Nat → Sl → Mem → Res Flow) (a b : Val) (P : KV) : Ev (defG fr 2 m F [a, b] M) P = Ev (F M.length (some a :: some b :: List.replicate m none) M) (kHB fr M.length P) := by rw [defG2, Ev_bind]; (first | exact Ev_bad _ | exact Ev_ok _ _ _ | exact congrArg (Ev _) (funext fun _ => funext fun _ => Ev_ok _ _ _) | rfl)
theorem Ev_G3 (fr : Bool) (m : Nat) (F : Nat → Sl → Mem → Res Flow) (a b c : Val) (P : KV) : Ev (defG fr 3 m F [a, b, c] M) P = Ev (F M.length (some a :: some b :: some c :: List.replicate m none) M) (kHB fr M.length P) := by rw [defG3, Ev_bind]; (first | exact Ev_bad _ | exact Ev_ok _ _ _ | exact congrArg (Ev _) (funext fun _ => funext fun _ => Ev_ok _ _ _) | rfl)
end
end DL
end P_DL12
section P_DL12j
set_option Elab.async false
set_option linter.all false
set_option maxRecDepth 100000
/-! what joins of unlike keys and min, max with a default come to. -/
namespace DL
variable {fI : Sl → Mem → Res (List D)} {fifs : Sl → Mem → Res Bool} {fk : Sl → Mem → Res Val} {s : Sl} {M : Mem}
def kJd2 (sep : List Char) (P : KV) : List D → Mem → Prop := fun ys M => kO P M (joinKeys sep ys)
@[simp] theorem kJd2_ap (sep : List Char) (P : KV) (ys : List D) : kJd2 sep P ys M = kO P M (joinKeys sep ys) := eqr rfl
def kJd (sep : List Char) (own : List Nat) (t : Tg) (fifs : Sl → Mem → Res Bool) (fk : Sl → Mem → Res Val) (s : Sl) (P : KV) : List D → Mem → Prop := fun xs M => Ev (compLoop (evBlk own t fifs fk s) xs M) (kJd2 sep P)
@[simp] theorem kJd_ap (sep : List Char) (own : List Nat) (t : Tg) (P : KV) (xs : List D) : kJd sep own t fifs fk s P xs M = Ev (compLoop (evBlk own t fifs fk s) xs M) (kJd2 sep P) := eqr rfl
@[simp] theorem Ev_jd (sep : List Char) (own : List Nat) (t : Tg) (P : KV) : Ev (evJd sep own t fI fifs fk s M) P = Ev (fI s M) (kJd sep own t fifs fk s P) := by
  unfold evJd
  rw [Ev_bind]
  refine congrArg (Ev _) (funext fun xs => funext fun M1 => ?_)
  rw [Ev_bind]
  refine congrArg (Ev _) (funext fun ys => funext fun M2 => ?_)
  exact Ev_ofmap _ _
variable {fl fkl : Sl → Mem → Res (List Val)}
def kBK2 (p : List D → List D → Option D) (vs : List Val) (P : KV) : List Val → Mem → Prop := fun ws M => match views M vs, views M ws with | some xs, some ys => kO P M (p xs ys) | _, _ => False
@[simp] theorem kBK2_ap (p : List D → List D → Option D) (vs ws : List Val) (P : KV) : kBK2 p vs P ws M = (match views M vs, views M ws with | some xs, some ys => kO P M (p xs ys) | _, _ => False) := eqr rfl
def kBK (p : List D → List D → Option D) (fkl : Sl → Mem → Res (List Val)) (s : Sl) (P : KV) : List Val → Mem → Prop := fun vs M => Ev (fkl s M) (kBK2 p vs P)
@[simp] theorem kBK_ap (p : List D → List D → Option D) (vs : List Val) (P : KV) : kBK p fkl s P vs M = Ev (fkl s M) (kBK2 p vs P) := eqr rfl
@[simp] theorem Ev_BK (p : List D → List D → Option D) (P : KV) : Ev (evBK p fl fkl s M) P = Ev (fl s M) (kBK p fkl s P) := by
  unfold evBK
  rw [Ev_bind]
  refine congrArg (Ev _) (funext fun vs => funext fun M1 => ?_)
  rw [Ev_bind]
  refine congrArg (Ev _) (funext fun ws => funext fun M2 => ?_)
  unfold kBK2
  cases views M2 vs with
  | none => exact Ev_bad _
  | some xs =>
    cases views M2 ws with
    | none => exact Ev_bad _
    | some ys => exact Ev_ofmap _ _
end DL
end P_DL12j
section P_DLm
set_option Elab.async false
set_option linter.all false
set_option maxRecDepth 100000
set_option maxHeartbeats 1000000
/-! gcd, comb; displays with a star; zip of two lists. -/
namespace DL
open PySem PySem.Spec PyProof.Rows L2
def gcdD : List D → Option D
  | [.int a, .int b] => some (.int ((Nat.gcd a.natAbs b.natAbs : Nat) : Int))
  | _ => none
def combD : List D → Option D
  | [.int a, .int b] => if 0 ≤ a ∧ a ≤ 18000 ∧ 0 ≤ b then some (.int (PySem.W.mcComb a b)) else none
  | _ => none
def evStarD (fa : Sl → Mem → Res Val) (fd : Sl → Mem → Res (List D)) : Sl → Mem → Res (List D) := fun s M => (fa s M).bind fun v M1 => match v with
  | .d (.lst xs) => (fd s M1).bind fun ys M2 => .ok (xs ++ ys) M2
  | .d (.tup xs) => (fd s M1).bind fun ys M2 => .ok (xs ++ ys) M2
  | _ => .bad
def zipD : List D → List D → List D
  | x :: xs, y :: ys => .tup [x, y] :: zipD xs ys
  | _, _ => []
def evZip (fa fb : Sl → Mem → Res Val) : Sl → Mem → Res (List D) := fun s M => (fa s M).bind fun v M1 => (fb s M1).bind fun w M2 => match v, w with
  | .d (.lst xs), .d (.lst ys) => .ok (zipD xs ys) M2
  | .d (.tup xs), .d (.tup ys) => .ok (zipD xs ys) M2
  | _, _ => .bad
section
variable {X : Cx} {e e2 : Expr} {es : List Expr} {fa fb : Sl → Mem → Res Val} {fl : Sl → Mem → Res (List Val)} {fd : Sl → Mem → Res (List D)} {pos p tpos : Pos} {elts : List Expr} {kk : Nat}
theorem bb_gcd : CallR X (.builtin "math.gcd") (rLD false X.K gcdD) := by
  intro pins s σ H vs us Q I r ⟨F, xs, d, sb, tx, e, q⟩
  match xs, e, tx with
  | [.int i, .int j], e, tx =>
    obtain ⟨v, w, rfl, rx, ry⟩ := repTs_2 tx
    cases repT_int rx; cases repT_int ry
    cases e
    exact cr_gcd pins s σ H _ us Q I r ⟨i, j, rfl, postSame sb q (.int _)⟩
theorem bb_comb : CallR X (.builtin "math.comb") (rLD false X.K combD) := by
  intro pins s σ H vs us Q I r ⟨F, xs, d, sb, tx, e, q⟩
  match xs, e, tx with
  | [.int i, .int j], e, tx =>
    obtain ⟨v, w, rfl, rx, ry⟩ := repTs_2 tx
    cases repT_int rx; cases repT_int ry
    simp only [combD] at e
    split at e
    case isFalse => cases e
    rename_i h
    cases e
    obtain ⟨t, u, rfl⟩ := Vals.int2 r
    have g := PySem.W.mc_gives_comb (a := i) (b := j) t u h.1 h.2.2 (by have := h.2.1; omega) (.inr h.2.1)
    refine PySem.call_function_meets PySem.W.MGF.kind_comb PySem.W.MGF.plain_comb PySem.W.MGF.entry_comb (PySem.W.MGF.args_comb _ _) g.meets ?_
    exact ⟨.int _, H, I.tok _, ⟨_, rfl⟩, postSame sb q (.int _)⟩
theorem p_callM {id : String} {x : Str} {pn : Pos} {pf : List D → Option D} (hc : CallR X (.builtin id) (rLD false X.K pf)) (hm : X.mg x = some (.builtin id)) (ha : PA X (e :: es) (LA X.K fl)) (hg : Gl X x := by rfl) (hpl : (e :: es).all plainArg = true := by rfl) (hdb : (x == ("__debug__" : Str)) = false := by decide +kernel) :
    PE X (.Call (.Name x pn) (e :: es) [] pos) (LE false X.K (evB pf fl)) := by
  rw [List.all_cons, Bool.and_eq_true] at hpl
  exact (pe_callBfun hc hg hm ha hdb (star_plain hpl.1 es X.env) (star_any hpl.2)).imp fun _ _ _ h => liftB h
theorem mk_blt {K : Fr} {h : Heap} {mg : Str → Option Value} {x : Str} {id : String} (X : K.In h) (G : h.Ns mainGlobals mg) (a : PySem.W.nsIn K mainGlobals x = some (some (.builtin id))) : mg x = some (.builtin id) := PySem.W.mg_of X G a
/-! a star in a display -/
theorem p_dstar {sp : Pos} (he : PE X e (LE false X.K fa)) (hr : PA X es (LDs X.K fd)) (hs : starEach (.Starred e sp :: es) X.env = (true, eval e X.env) :: starEach es X.env := by rfl) : PA X (.Starred e sp :: es) (LDs X.K (evStarD fa fd)) := by
  refine (StX.pa_star he hr hs).imp fun σ H Q ⟨δ, M, F, μ, x, M', S, R, e0, k⟩ => ?_
  obtain ⟨v, M1, e1, e0⟩ := bind_ok e0
  cases v with
  | ref n => cases e0
  | d y =>
    cases y <;> first | (cases e0; done) | skip
    · rename_i xs
      obtain ⟨ys, M2, e2, e0⟩ := bind_ok e0
      cases e0
      refine ⟨δ, M, F, μ, .d (.tup xs), M1, S, R, e1, fun F1 μ1 H1 v1 st1 S1 r1 => ?_⟩
      have r1' : Rep X.K F1 (.tup xs) v1 := r1
      cases r1' with
      | tup hz h r =>
        refine ⟨_, _, rfl, .inl (S1.sub.sqT h), δ, M1, F1, μ1, ys, _, S1, R.mono st1.fr st1.whole, e2, fun F2 μ2 H2 vs2 st2 S2 r2 => ?_⟩
        exact k F2 μ2 H2 _ (st1.transE st2) S2 ((Reps.mono st2.fr r).append r2)
    · rename_i xs
      obtain ⟨ys, M2, e2, e0⟩ := bind_ok e0
      cases e0
      refine ⟨δ, M, F, μ, .d (.lst xs), M1, S, R, e1, fun F1 μ1 H1 v1 st1 S1 r1 => ?_⟩
      have r1' : Rep X.K F1 (.lst xs) v1 := r1
      cases r1' with
      | lst hz h r =>
        refine ⟨_, _, rfl, .inr (S1.sub.sqL (SqL.of h)), δ, M1, F1, μ1, ys, _, S1, R.mono st1.fr st1.whole, e2, fun F2 μ2 H2 vs2 st2 S2 r2 => ?_⟩
        exact k F2 μ2 H2 _ (st1.transE st2) S2 ((Reps.mono st2.fr r).append r2)
/-! zip -/
theorem zipD_len : ∀ xs ys : List D, (zipD xs ys).length = min xs.length ys.length
  | [], ys => by simp [zipD]
  | x :: xs, [] => by simp [zipD]
  | x :: xs, y :: ys => by
    show (zipD xs ys).length + 1 = _
    rw [zipD_len xs ys, List.length_cons, List.length_cons]; omega
theorem zipD_get : ∀ (xs ys : List D) (i : Nat) (d : D), (zipD xs ys)[i]? = some d → ∃ x y, xs[i]? = some x ∧ ys[i]? = some y ∧ d = .tup [x, y]
  | [], ys, i, d, h => by simp [zipD] at h
  | x :: xs, [], i, d, h => by simp [zipD] at h
  | x :: xs, y :: ys, 0, d, h => by
    have h : some (D.tup [x, y]) = some d := h
    cases h; exact ⟨x, y, rfl, rfl, rfl⟩
  | x :: xs, y :: ys, i + 1, d, h => zipD_get xs ys i d h
theorem its_zip {K : Fr} {F : Hp} {a b : Addr} {vs ws : List V} {xs ys : List D} (hl : xs.length ≤ big) (h : SqL K F a vs) (h2 : SqL K F b ws) (r : Reps K F xs vs) (r2 : Reps K F ys ws) : Its K F (zipD xs ys) (Itz K a b) where
  few := by rw [zipD_len]; exact Nat.le_trans (Nat.min_le_left _ _) hl
  goes := fun i H hi s => by
    rw [zipD_len, r.length, r2.length] at hi
    exact ⟨vs, ws, vs[i]'(by omega), ws[i]'(by omega), s.sqL h, s.sqL h2, by simp, by simp⟩
  stops := fun H s => ⟨vs, ws, s.sqL h, s.sqL h2, by rw [zipD_len, r.length, r2.length]; omega⟩
  yields := fun i H x H' d F0 hd s0 s1 ⟨T, y, z, ex, hT, eH, hy, hz⟩ => by
    obtain ⟨dx, dy, g1, g2, rfl⟩ := zipD_get xs ys i d hd
    obtain ⟨v, hv, rv⟩ := r.get g1
    obtain ⟨w, hw, rw'⟩ := r2.get g2
    have q1 := hy vs ((s0.trans s1).sqL h)
    have q2 := hz ws ((s0.trans s1).sqL h2)
    rw [hv] at q1
    rw [hw] at q2
    obtain rfl := Option.some.inj q1
    obtain rfl := Option.some.inj q2
    subst ex eH
    have n := NewF.alloc s1 hT (.tup [v, w])
    exact ⟨_, n, Rep.tup (by show 2 ≤ big; decide) (.inl (.inl upd_same)) (.cons (rv.mono (s0.trans n.fr)) (.cons (rw'.mono (s0.trans n.fr)) .nil))⟩
theorem its_zipT {K : Fr} {F : Hp} {a b : Addr} {vs ws : List V} {xs ys : List D} (hl : xs.length ≤ big) (h : SqT K F a vs) (h2 : SqT K F b ws) (r : Reps K F xs vs) (r2 : Reps K F ys ws) : Its K F (zipD xs ys) (RZ.ItzT K a b) where
  few := by rw [zipD_len]; exact Nat.le_trans (Nat.min_le_left _ _) hl
  goes := fun i H hi s => by
    rw [zipD_len, r.length, r2.length] at hi
    exact ⟨vs, ws, vs[i]'(by omega), ws[i]'(by omega), s.sqT h, s.sqT h2, by simp, by simp⟩
  stops := fun H s => ⟨vs, ws, s.sqT h, s.sqT h2, by rw [zipD_len, r.length, r2.length]; omega⟩
  yields := fun i H x H' d F0 hd s0 s1 ⟨T, y, z, ex, hT, eH, hy, hz⟩ => by
    obtain ⟨dx, dy, g1, g2, rfl⟩ := zipD_get xs ys i d hd
    obtain ⟨v, hv, rv⟩ := r.get g1
    obtain ⟨w, hw, rw'⟩ := r2.get g2
    have q1 := hy vs ((s0.trans s1).sqT h)
    have q2 := hz ws ((s0.trans s1).sqT h2)
    rw [hv] at q1
    rw [hw] at q2
    obtain rfl := Option.some.inj q1
    obtain rfl := Option.some.inj q2
    subst ex eH
    have n := NewF.alloc s1 hT (.tup [v, w])
    exact ⟨_, n, Rep.tup (by show 2 ≤ big; decide) (.inl (.inl upd_same)) (.cons (rv.mono (s0.trans n.fr)) (.cons (rw'.mono (s0.trans n.fr)) .nil))⟩
theorem p_zip (hm : X.mg "zip" = none) (ha : PE X e (LE false X.K fa)) (hb : PE X e2 (LE false X.K fb)) (hg : Gl X "zip" := by rfl) (hp : plainArg e = true := by rfl) (hp2 : plainArg e2 = true := by rfl) :
    PI X (.Tuple elts kk tpos) (.Call (.Name "zip" p) [e, e2] [] pos) (LI X.K (evZip fa fb)) := by
  refine (RZ.pi_zipA hg hm (q_cons hp ha (q_cons hp2 hb q_nil)) (star_plain hp [e2] X.env) (star_any (by simp [hp2]))).imp fun σ H R ⟨δ, M, F, μ, xs, M', S, RS, e0, k⟩ => ?_
  obtain ⟨v, M1, e1, e0⟩ := bind_ok e0
  obtain ⟨w, M2, e2', e0⟩ := bind_ok e0
  cases v with
  | ref n => cases e0
  | d y =>
    cases w with
    | ref n => cases y <;> cases e0
    | d y2 =>
      have mk : ∀ (u v : D), (fa δ M = .ok (.d u) M1) → (fb δ M1 = .ok (.d v) M2) → evCons fa (evCons fb evNil) δ M = .ok [.d u, .d v] M2 := fun u v h1 h2 => by
        show (fa δ M).bind _ = _
        rw [h1]
        show ((fb δ M1).bind _).bind _ = _
        rw [h2]
        rfl
      cases y <;> first | (cases e0; done) | skip
      · rename_i l1 e0
        cases y2 <;> first | (cases e0; done) | skip
        rename_i e0 l2
        cases e0
        refine ⟨δ, M, F, μ, [.d (.tup l1), .d (.tup l2)], M', S, RS, mk _ _ e1 e2', fun F1 μ1 H1 v1 st1 S1 r1 => ?_⟩
        cases r1 with
        | cons ra rr =>
          cases rr with
          | cons rb rr =>
            cases rr
            have ra' : Rep X.K F1 (.tup l1) _ := ra
            have rb' : Rep X.K F1 (.tup l2) _ := rb
            cases ra' with
            | tup hz h r =>
              cases rb' with
              | tup hz2 h2 r2 =>
                exact ⟨_, _, _, _, rfl, .inr ⟨S1.sub.sqT h, S1.sub.sqT h2, k F1 μ1 H1 _ st1 S1 (its_zipT hz h h2 r r2)⟩⟩
      · rename_i l1 e0
        cases y2 <;> first | (cases e0; done) | skip
        rename_i e0 l2
        cases e0
        refine ⟨δ, M, F, μ, [.d (.lst l1), .d (.lst l2)], M', S, RS, mk _ _ e1 e2', fun F1 μ1 H1 v1 st1 S1 r1 => ?_⟩
        cases r1 with
        | cons ra rr =>
          cases rr with
          | cons rb rr =>
            cases rr
            have ra' : Rep X.K F1 (.lst l1) _ := ra
            have rb' : Rep X.K F1 (.lst l2) _ := rb
            cases ra' with
            | lst hz h r =>
              cases rb' with
              | lst hz2 h2 r2 =>
                exact ⟨_, _, _, _, rfl, .inl ⟨S1.sub.sqL (SqL.of h), S1.sub.sqL (SqL.of h2), k F1 μ1 H1 _ st1 S1 (its_zip hz (SqL.of h) (SqL.of h2) r r2)⟩⟩
end
end DL
end P_DLm
section P_DLr
set_option Elab.async false
set_option linter.all false
set_option maxRecDepth 100000
set_option maxHeartbeats 1000000
/-! t[::-1] of a tuple. -/
namespace HT
open PySem PySem.Spec PyProof.Rows
section
variable {prog : Program} {w : World} {A : Around} {E : Value → Shared → Prop} {s : Shared}
theorem adjust_rev (n : Nat) : Builtin.Slice.sliceAdjust none none (-1) (n : Int) = ((n : Int) - 1, -1) := by
  unfold Builtin.Slice.sliceAdjust
  simp
theorem places_rev (n : Nat) : Builtin.Slice.slicePlaces ((n : Int) - 1) (-1) (-1) = n := by
  unfold Builtin.Slice.slicePlaces
  rw [if_neg (by decide)]
  by_cases h : n = 0
  · subst h; simp
  · rw [if_pos (by omega)]
    show (((n : Int) - 1 - -1 - 1) / 1 + 1).toNat = n
    rw [Int.ediv_one]; omega
theorem sliceApplied_rev {sl : Addr} {vl vu vs : Value} {n : Nat} {Q : Int × Int × Nat → Shared → Prop} (hs : s.heap.IsSliceOf sl vl vu vs) (pl : IsPart vl none) (pu : IsPart vu none) (ps : IsPart vs (some (-1)))
    (h : Q ((n : Int) - 1, -1, n) s) : wpAny (model prog w) A (Builtin.Slice.sliceApplied (.ref sl) (pure (n : Int))) Q E s := by
  obtain ⟨os, hos, hcs, hds⟩ := id hs
  unfold Builtin.Slice.sliceApplied Builtin.Slice.sliceFields
  refine wpAny_bind (wpAny_bind (wpAny_field hos hds (x := vl) rfl (wpAny_bind (wpAny_field hos hds (x := vu) rfl (wpAny_bind (wpAny_field hos hds (x := vs) rfl (wpAny_pure ?_)))))))
  refine wpAny_bind (slicePart_ ps ?_)
  show wpAny _ _ (if ((-1 : Int) == 0) = true then _ else _) _ _ s
  rw [if_neg (by decide)]
  refine wpAny_bind (slicePart_ pl (wpAny_bind (slicePart_ pu (wpAny_bind (wpAny_pure ?_)))))
  show wpAny _ _ (match Builtin.Slice.sliceAdjust none none (-1) (n : Int) with | (lo, hi) => pure (lo, (-1 : Int), Builtin.Slice.slicePlaces lo hi (-1))) _ _ s
  rw [adjust_rev n]
  show wpAny _ _ (pure ((n : Int) - 1, (-1 : Int), Builtin.Slice.slicePlaces ((n : Int) - 1) (-1) (-1))) _ _ s
  rw [places_rev]
  exact wpAny_pure h
theorem fm_congr {α β : Type} {f g : α → Option β} : ∀ {l : List α}, (∀ x ∈ l, f x = g x) → l.filterMap f = l.filterMap g
  | [], _ => rfl
  | x :: l, h => by rw [List.filterMap_cons, List.filterMap_cons, h x (List.mem_cons_self ..), fm_congr fun y hy => h y (List.mem_cons_of_mem _ hy)]
theorem pick_rev (xs : Array Value) : ((List.range xs.size).filterMap fun (m : Nat) => xs[(((xs.size : Nat) : Int) - 1 + (m : Int) * -1).toNat]?).toArray = xs.toList.reverse.toArray := by
  congr 1
  have e : ((List.range xs.size).filterMap fun (m : Nat) => xs[(((xs.size : Nat) : Int) - 1 + (m : Int) * -1).toNat]?) = (List.range xs.size).reverse.filterMap (xs[·]?) := by
    have : (List.range xs.size).reverse = (List.range xs.size).map fun m => xs.size - 1 - m := by
      refine List.ext_getElem (by simp) fun i h1 h2 => ?_
      simp
    rw [this, List.filterMap_map]
    refine fm_congr fun m hm => ?_
    have := List.mem_range.mp hm
    show xs[_]? = xs[xs.size - 1 - m]?
    congr 1
    omega
  rw [e, List.filterMap_reverse, PySem.W.krv_all]
theorem getItem_tuple_rev {t sl : Addr} {items : Array Value} {vl vu vs : Value} {Q : Value → Shared → Prop} (ht : IsTup s.heap t items) (hs : s.heap.IsSliceOf sl vl vu vs) (pl : IsPart vl none) (pu : IsPart vu none) (ps : IsPart vs (some (-1)))
    (h : Q (.ref s.heap.objs.size) { s with heap := s.heap.push { cls := .type "tuple", data := .seq items.toList.reverse.toArray } })
    (hsz : items.size ≤ sizeLine) : wpAny (model prog w) A (getItem (.ref t) (.ref sl)) Q E s := by
  have htake : sizeOk (.seq items.toList.reverse.toArray) := by
    show items.toList.reverse.toArray.size ≤ sizeLine
    rw [List.size_toArray, List.length_reverse, Array.length_toList]
    exact hsz
  obtain ⟨os, hos, hcs, hds⟩ := id hs
  have hTs : s.TypeIs (.ref sl) "slice" := ⟨os, hos, hcs⟩
  unfold getItem
  try with_reducible refine wpAny_holding ?_
  first | refine wpAny_bind (wpAny_pure ?_) | skip
  refine wpAny_bind (wpAny_sequenceKey ht.typeIs (by decide) ?_)
  refine wpAny_bind (wpAny_callSpecial?_slot (name := Str.ofString "__getitem__") ht.typeIs PyProof.Rows.slot_tuple_getitem
    (wpAny_call_entry PyProof.Rows.slot_tuple_getitem ht.typeIs entry_tuple_getitem ?_ (args_tuple_getitem _ _)))
  show wpAny _ _ (Builtin.Tuple.tupleItemsOf (.ref t) >>= _) _ _ s
  refine wpAny_bind (tupleItemsOf_ ht ?_)
  refine wpAny_bind (wpAny_typeOf hTs ?_)
  rw [if_pos (by decide)]
  refine wpAny_bind (sliceApplied_rev hs pl pu ps ?_)
  show wpAny _ _ (if ((((items.size : Nat) : Int) - 1) == 0 && (-1 : Int) == 1 && items.size == items.size) = true then _ else _) _ _ s
  rw [if_neg (by simp), pick_rev]
  first
    | exact wpAny_bind (m := Builtin.Tuple.tupleExact _) (wpAny_newObj_type (wpAny_pure ⟨_, rfl, wpAny_pure h⟩) htake)
    | exact wpAny_bind (m := Builtin.Tuple.tupleExact _) (wpAny_newObj_type (wpAny_bind (wpAny_pure (wpAny_pure ⟨_, rfl, wpAny_pure h⟩))) htake)
    | exact wpAny_bind (wpAny_bind (m := Builtin.Tuple.tupleExact _) (wpAny_newObj_type (wpAny_pure (wpAny_pure ⟨_, rfl, wpAny_pure h⟩)) htake))
    | exact wpAny_bind (wpAny_bind (m := Builtin.Tuple.tupleExact _) (wpAny_newObj_type (wpAny_pure ⟨_, rfl, wpAny_pure h⟩) htake))
end
end HT
namespace DL
open PySem PySem.Spec PyProof.Rows L2
section
variable {X : Cx} {fa : Sl → Mem → Res Val} {e a tg : Expr} {pos : Pos}
def revT : D → Option D
  | .tup l => some (.tup l.reverse)
  | x => revD x
def rRevB (K : Fr) : V → Hp → VK → Prop := fun x H Q => (∃ a xs, x = .ref a ∧ SqL K H a xs ∧ ∀ p, H p = none → Q (.ref p) (upd H p (.lst xs.reverse))) ∨ (∃ t : List Char, x = .str (enc t) ∧ t.length ≤ big ∧ Q (.str (enc t.reverse)) H) ∨ ∃ a xs, x = .ref a ∧ SqT K H a xs ∧ ∀ p, H p = none → Q (.ref p) (upd H p (.tup xs.reverse))
theorem pe_revB {te : TE} {k : Nat} {p1 p2 p3 : Pos} (he : PE X e te) : PE X (.Subscript e (.Slice none none (some (.UnaryOp .USub (.Constant (.int 1) k p1) p2)) p3) pos) (tUn (rRevB X.K) te) := by
  refine ⟨fun pins s σ H Q I h => ?_⟩
  refine Subscript_ (thn (he.run pins s σ H _ I h) fun v s1 ⟨x, H1, I1, r1, q1⟩ => ?_)
  have hst : PO X (some (.UnaryOp .USub (.Constant (.int 1) k p1) p2)) (tPart (tUn (rU fun i => .int (-i)) (tC (.int 1)))) := po_some (pe_un un_neg pe_int)
  refine wpAny_Slice (thn (po_none.run pins s1 σ H1 (fun o H2 => o = none ∧ H2 = H1) I1 ⟨rfl, rfl⟩) fun vl s2 ⟨l, H2, I2, pl, el, e2⟩ => ?_)
  subst el e2
  refine thn (po_none.run pins s2 σ H2 (fun o H3 => o = none ∧ H3 = H2) I2 ⟨rfl, rfl⟩) fun vu s3 ⟨u, H3, I3, pu, eu, e3⟩ => ?_
  subst eu e3
  refine thn (hst.run pins s3 σ H3 (fun o H4 => o = some (-1) ∧ H4 = H3) I3 ⟨1, rfl, -1, rfl, rfl, rfl⟩) fun vs s4 ⟨o, H4, I4, ps, eo, e4⟩ => ?_
  subst eo e4
  have I5 : L2.Inv X pins σ H4 { s4 with heap := s4.heap.push { cls := .type "slice", data := .fields #[vl, vu, vs] } } := I4.kept (t' := s4.toks) fun b ob q => Heap.get?_push_of_some _ q
  rcases q1 with ⟨a, xs, ex, hx, q⟩ | ⟨t, ex, hz, q⟩ | ⟨a, xs, ex, hx, q⟩
  rotate_left 2
  · subst ex
    cases r1
    obtain ⟨its, r, ht, hz⟩ := I5.tuple hx
    have hlen := r.length
    show wpAny (model X.prog X.w) X.A (subscriptTail e (.Slice none none (some (.UnaryOp .USub (.Constant (.int 1) k p1) p2)) p3) (.ref a) (.ref s4.heap.objs.size)) (EP X pins σ Q) X.xe { s4 with heap := s4.heap.push { cls := .type "slice", data := .fields #[vl, vu, vs] } }
    refine tail_any (ops := [.ref a, .ref s4.heap.objs.size]) ht.typeIs (PyProof.Rows.slot_tuple_getitem.lookup) ?_ (by with_unfolding_all rfl)
    refine HT.getItem_tuple_rev ht (Heap.IsSliceOf.new _ vl vu vs) pl pu ps ?_ (by rw [List.size_toArray]; omega)
    refine ⟨.ref _, _, I5.laid (t' := s4.toks) (o := .tup xs.reverse) (fun b ob q => Heap.get?_push_of_some _ q) (Nat.le_refl _) ?_, rfl, q _ (I5.hok.fresh (Nat.le_refl _))⟩
    exact ⟨by rw [List.length_reverse]; exact hz, _, r.reverse, IsTup.new _ _⟩
  · subst ex
    cases r1
    obtain ⟨its, r, ht, hz⟩ := I5.list hx
    have hlen := r.length
    show wpAny (model X.prog X.w) X.A (subscriptTail e (.Slice none none (some (.UnaryOp .USub (.Constant (.int 1) k p1) p2)) p3) (.ref a) (.ref s4.heap.objs.size)) (EP X pins σ Q) X.xe { s4 with heap := s4.heap.push { cls := .type "slice", data := .fields #[vl, vu, vs] } }
    refine tail_any (ops := [.ref a, .ref s4.heap.objs.size]) ht.isList.typeIs (PySem.slot_list_getitem.lookup) ?_ (by with_unfolding_all rfl)
    refine wpAny_getItem_list_slice ht.isList (Heap.IsSliceOf.new _ vl vu vs) pl pu ps (by decide) ?_ (by rw [List.size_toArray]; omega)
    rw [PySem.W.krv_pick]
    refine ⟨.ref _, _, I5.laid (t' := s4.toks) (o := .lst xs.reverse) (fun b ob q => Heap.get?_push_of_some _ q) (Nat.le_refl _) ?_, rfl, q _ (I5.hok.fresh (Nat.le_refl _))⟩
    exact ⟨by rw [List.length_reverse]; exact hz, _, 0, r.reverse, Heap.get?_push_size _ rfl⟩
  · subst ex
    obtain ⟨tk, rfl⟩ := r1
    obtain ⟨l, rfl, hl⟩ := IsPart.raw pl
    obtain ⟨u, rfl, hu⟩ := IsPart.raw pu
    obtain ⟨st, rfl, hs⟩ := IsPart.raw ps
    have el : l = none := by cases l <;> first | rfl | cases hl
    have eu : u = none := by cases u <;> first | rfl | cases hu
    subst el eu
    show wpAny (model X.prog X.w) X.A (subscriptTail e (.Slice none none (some (.UnaryOp .USub (.Constant (.int 1) k p1) p2)) p3) (.str (enc t) tk) (.ref s4.heap.objs.size)) (EP X pins σ Q) X.xe { s4 with heap := s4.heap.push { cls := .type "slice", data := .fields #[partValue none, partValue none, partValue st] } }
    refine tail_any (ops := [.str (enc t) tk, .ref s4.heap.objs.size]) (typeIs_str _ _ _) (F.slot_str_getitem.lookup) ?_ (by with_unfolding_all rfl)
    refine wpAny_getItem_str_slice (l := none) (u := none) (st := st) ⟨_, Heap.get?_push_size _ rfl, rfl, rfl⟩ (by rw [hs]; rfl) ?_
    unfold sliceMade slicePicked
    rw [hs]
    show Made.post (if ((-1 : Int) == 1 && _) = true then _ else Made.str ⟨((Builtin.Str.strSliceIndices none none (-1) (enc t).length).filterMap ((enc t).cps[·]?)).toArray⟩) _ _
    rw [if_neg (by simp), str_rev]
    exact ⟨by show (enc t.reverse).length ≤ sizeLine; rw [enc_length, List.length_reverse]; exact big_ge hz, .str _, H4, I5.tok _, ⟨_, rfl⟩, q⟩
theorem p_revT {k : Nat} {p1 p2 p3 : Pos} (he : PE X e (LE false X.K fa)) : PE X (.Subscript e (.Slice none none (some (.UnaryOp .USub (.Constant (.int 1) k p1) p2)) p3) pos) (LE false X.K (ev1 revT fa)) := by
  refine (pe_revB he).imp fun σ H Q h => ?_
  have z := lift1 h
  obtain ⟨δ, M, F, μ, x, M', S, R, e0, k⟩ := z
  refine ⟨δ, M, F, μ, x, M', S, R, e0, fun F1 μ1 H1 v1 st1 S1 r1 => ?_⟩
  obtain ⟨F3, x3, d, sb, rx, hp3, q⟩ := k F1 μ1 H1 v1 st1 S1 r1
  cases x3 with
  | str t =>
    cases hp3
    obtain ⟨rfl, hl⟩ := repT_str rx
    exact .inr (.inl ⟨t, rfl, hl, postSame sb q (.str _ (by rw [List.length_reverse]; exact hl))⟩)
  | lst l =>
    cases hp3
    obtain ⟨a, as, rfl, ha, ra, la⟩ := repT_lst sb rx
    exact .inl ⟨a, as, rfl, SqL.of ha, fun p hp => postLst sb q (by rw [List.length_reverse]; exact la) ra.reverse hp⟩
  | tup l =>
    cases hp3
    obtain ⟨_, a, as, rfl, ha, ra, la⟩ := repT_tup rx
    exact .inr (.inr ⟨a, as, rfl, sb.sqT ha, fun p hp => postTup sb q (by rw [List.length_reverse]; exact la) ra.reverse hp⟩)
  | _ => cases hp3
end
end DL
end P_DLr
section P_DL12z
set_option Elab.async false
set_option linter.all false
set_option maxRecDepth 100000
/-! rules for zip, enumerate of a tuple, a tuple the other way round. -/
namespace DL
variable {fa fb : Sl → Mem → Res Val} {s : Sl} {M : Mem}
@[simp] theorem revT_tup (l : List D) : revT (.tup l) = some (.tup l.reverse) := eqr rfl
@[simp] theorem itemsT_tup (l : List D) : itemsT (.tup l) = some l := eqr rfl
theorem evEnmT_ap : evEnmT fa s M = (fa s M).bind fun v M1 => (match v with
  | .d x => Res.of ((itemsT x).map (enumFrom 0)) M1
  | _ => .bad) := rfl
def kEnmT (P : List D → Mem → Prop) : KV := fun v M => match v with | .d x => (match itemsT x with | some l => P (enumFrom 0 l) M | none => False) | _ => False
@[simp] theorem kEnmT_tup (l : List D) (P : List D → Mem → Prop) : kEnmT P (.d (.tup l)) M = P (enumFrom 0 l) M := eqr rfl
@[simp] theorem Ev_enmT (P : List D → Mem → Prop) : Ev (evEnmT fa s M) P = Ev (fa s M) (kEnmT P) := by
  rw [evEnmT_ap, Ev_bind]
  refine congrArg (Ev _) (funext fun v => funext fun M => ?_)
  cases v with
  | ref n => exact Ev_bad _
  | d x => show Ev (Res.of _ _) P = _; rw [Ev_of]; unfold kEnmT; cases h : itemsT x <;> simp [h]
def kZip2 (v : Val) (P : List D → Mem → Prop) : KV := fun w M => match v, w with
  | .d (.lst xs), .d (.lst ys) => P (zipD xs ys) M
  | .d (.tup xs), .d (.tup ys) => P (zipD xs ys) M
  | _, _ => False
@[simp] theorem kZip2_tup (xs ys : List D) (P : List D → Mem → Prop) : kZip2 (.d (.tup xs)) P (.d (.tup ys)) M = P (zipD xs ys) M := eqr rfl
@[simp] theorem kZip2_lst (xs ys : List D) (P : List D → Mem → Prop) : kZip2 (.d (.lst xs)) P (.d (.lst ys)) M = P (zipD xs ys) M := eqr rfl
def kZip (fb : Sl → Mem → Res Val) (s : Sl) (P : List D → Mem → Prop) : KV := fun v M => Ev (fb s M) (kZip2 v P)
@[simp] theorem kZip_ap (v : Val) (P : List D → Mem → Prop) : kZip fb s P v M = Ev (fb s M) (kZip2 v P) := eqr rfl
@[simp] theorem Ev_zip (P : List D → Mem → Prop) : Ev (evZip fa fb s M) P = Ev (fa s M) (kZip fb s P) := by
  unfold evZip
  rw [Ev_bind]
  refine congrArg (Ev _) (funext fun v => funext fun M1 => ?_)
  rw [Ev_bind]
  refine congrArg (Ev _) (funext fun w => funext fun M2 => ?_)
  unfold kZip2
  split <;> simp
end DL
end P_DL12z
section P_DL12c
set_option Elab.async false
set_option linter.all false
set_option maxRecDepth 100000
/-! The rules for DLdc's forms. -/
namespace DL
section
variable {fk fv : Sl → Mem → Res Val} {s : Sl} {M : Mem}
@[simp] theorem eqC_int (i j : Int) : eqC (.int i) (.int j) = some (.bl (i == j)) := eqr rfl
@[simp] theorem eqC_str (i j : List Char) : eqC (.str i) (.str j) = some (.bl (i == j)) := eqr rfl
@[simp] theorem tupSD_str (t : List Char) : tupSD [.str t] = some (.tup (t.map fun c => .str [c])) := eqr rfl
def kDi2 (u : Val) (P : KV) : KV := fun w M => match u, w with
  | .d (.str k), .d (.int i) => P (.d (.dic [(.str k, .int i)])) M
  | _, _ => False
@[simp] theorem kDi2_ap (t : List Char) (i : Int) (P : KV) : kDi2 (.d (.str t)) P (.d (.int i)) M = P (.d (.dic [(.str t, .int i)])) M := eqr rfl
def kDi (fv : Sl → Mem → Res Val) (s : Sl) (P : KV) : KV := fun u M => Ev (fv s M) (kDi2 u P)
@[simp] theorem kDi_ap (u : Val) (P : KV) : kDi fv s P u M = Ev (fv s M) (kDi2 u P) := eqr rfl
@[simp] theorem Ev_dic1 (P : KV) : Ev (evDic1 fk fv s M) P = Ev (fk s M) (kDi fv s P) := by
  show Ev ((fk s M).bind fun u M1 => (fv s M1).bind fun w M2 => match u, w with
    | .d (.str k), .d (.int i) => .ok (.d (.dic [(.str k, .int i)])) M2
    | _, _ => .bad) P = _
  rw [Ev_bind]
  refine congrArg (Ev _) (funext fun u => funext fun M1 => ?_)
  rw [Ev_bind]
  refine congrArg (Ev _) (funext fun w => funext fun M2 => ?_)
  unfold kDi2
  split
  · exact Ev_ok _ _ _
  · exact Ev_bad _
end
end DL
end P_DL12c
section P_K07M
set_option Elab.async false
set_option linter.all false
set_option maxRecDepth 100000
namespace K07
open DL
def ch (c : Char) : D := .str [c]
def Well (M : Mem) (n : Nat) : Prop := ∃ a b c : Int, M[n]? = some (.lst [.int a, .int b, .int c])
theorem take_ok {M : Mem} {n : Nat} (w : Well M n) {many : Int} (h1 : 0 < many) (h2 : many < 1073741824) {P : KV}
    (k : ∀ (d : Int) (o : MO), 0 ≤ d → d < many → Well (M.set n o) n → P (.d (.int d)) (M.set n o)) : Ev (g__law_take [.ref n, .d (.int many)] M) P := by
  obtain ⟨a, b, c, hM⟩ := w
  have hs := set_get hM
  have ht := @set_take M n
  unfold g__law_take
  rw [Ev_G2]
  by_cases h : 0 < a
  · simp [hM, hs, ht, at_, h, h1, h2]
    exact k _ _ (Int.emod_nonneg _ (by omega)) (Int.emod_lt_of_pos _ h1) ⟨_, _, _, hs _⟩
  · have m1 : mulOk b (b % 28657 + 40009) = true := mulOk_r (by omega) (by omega) _
    have m2 : mulOk 50023 (c + 1) = true := mulOk_l (by omega) (by omega) _
    simp [hM, hs, ht, at_, h, h1, h2, m1, m2]
    exact k _ _ (Int.emod_nonneg _ (by omega)) (Int.emod_lt_of_pos _ h1) ⟨_, _, _, hs _⟩
theorem well_loop (S T O : Option Val) (M : Mem) (xs : List Int) (stir : Int) (z : Option Val) {P : KF} (k : ∀ (st : Int) (z' : Option Val), P (.nx [S, T, O, some (.d (.int st)), z']) M) :
    Ev (forLoop l__law_well_1 (.n 4) (xs.map D.int) [S, T, O, some (.d (.int stir)), z] M) P := by
  refine Ev.for (fun xs s M' => (∃ l : List Int, xs = l.map D.int) ∧ ∃ (st : Int) (z' : Option Val), s = [S, T, O, some (.d (.int st)), z'] ∧ M' = M) _ _ _ ⟨⟨xs, rfl⟩, _, _, rfl, rfl⟩ ?_ ?_
  · rintro x xs s M' ⟨⟨l, hl⟩, st, z', rfl, rfl⟩
    cases l with
    | nil => cases hl
    | cons i l =>
      rw [List.map_cons] at hl
      cases hl
      have m3 : mulOk st 45013 = true := mulOk_r (by omega) (by omega) _
      refine ⟨[S, T, O, some (.d (.int st)), some (.d (.int i))], rfl, ?_⟩
      simp [l__law_well_1, m3]
      exact ⟨l, rfl⟩
  · rintro s M' ⟨_, st, z', rfl, rfl⟩
    exact k st z'
theorem well_ok (ns : List Int) {turn : Int} (h0 : 0 ≤ turn) (M : Mem) {P : KV} (k : ∀ a b c : Int, P (.d (.lst [.int a, .int b, .int c])) M) : Ev (g__law_well [.d (.scr (ns.map D.int)), .d (.int turn)] M) P := by
  unfold g__law_well
  rw [Ev_G2]
  have m1 : mulOk 9311 turn = true := mulOk_l (by omega) (by omega) _
  have m2 : mulOk 1013 turn = true := mulOk_l (by omega) (by omega) _
  have c6 : cut (ns.map D.int) none (some 5) = (ns.map D.int).take 5 := cut_take _ (by decide)
  have c3 : sumInts (cut (ns.map D.int) none (some 2)) = some (ns.take 2).sum := by rw [cut_take _ (by decide), ← List.map_take, sumInts_map]; rfl
  have l6 : min 5 ns.length + 1 ≤ big := Nat.le_trans (Nat.succ_le_succ (Nat.min_le_left _ _)) (by decide)
  have big1 : 1 ≤ big := by decide
  have big3 : 3 ≤ big := by decide
  rw [Ev_seq, Ev_asg]
  refine Ev.mid (fun v M' => ∃ own : Int, v = .d (.int own) ∧ M' = M) ?_ ?_
  · by_cases h : turn < ns.length
    · have e : at_ (ns.map D.int) turn = some (.int ns[turn.toNat]) := by
        rw [at_nat _ h0, List.getElem?_map, List.getElem?_eq_getElem (by omega)]; rfl
      simp [h, e]
    · simp [h, m1, c3]
  · rintro _ _ ⟨own, rfl, rfl⟩
    have e6 : (ns.map D.int).take 5 ++ [.int own] = (ns.take 5 ++ [own]).map D.int := by simp
    simp [m2, c6, l6, big1]
    rw [e6]
    refine well_loop _ _ _ _ _ _ _ fun st z' => ?_
    by_cases h2 : own < 0 <;> by_cases h3 : own < 100000000000000000 <;> simp [h2, h3, big3] <;> exact k _ _ _
theorem set2 {M : Mem} {n m : Nat} {o x : MO} (h : M[m]? = some x) (hne : n ≠ m) : (M.set n o)[m]? = some x := by rw [List.getElem?_set_ne hne]; exact h
theorem Well.set {M : Mem} {n m : Nat} {o : MO} (w : Well M n) (h : m ≠ n) : Well (M.set m o) n := by
  obtain ⟨a, b, c, e⟩ := w
  exact ⟨a, b, c, by rw [List.getElem?_set_ne h]; exact e⟩
theorem Well.lt {M : Mem} {n : Nat} (w : Well M n) : n < M.length := by
  obtain ⟨a, b, c, e⟩ := w
  exact (List.getElem?_eq_some_iff.mp e).1
theorem Well.app {M : Mem} {n : Nat} (w : Well M n) (l : Mem) : Well (M ++ l) n := by
  obtain ⟨a, b, c, e⟩ := w
  exact ⟨a, b, c, by rw [List.getElem?_append_left (List.getElem?_eq_some_iff.mp e).1]; exact e⟩
abbrev cols : List Char := ['a', 'b', 'c', 'd', 'e', 'f']
structure Row (r : List Char) : Prop where
  len : r.length ≤ 12
  mem : ∀ c ∈ r, c ∈ cols
theorem text_ok {r : List Char} (h : ∀ c ∈ r, c ∈ cols) (M : Mem) {P : KV} (k : P (.d (.bl true)) M) : Ev (g_is_text_of [.d (.str r), .d (.str ['a', 'b', 'c', 'd', 'e', 'f'])] M) P := by
  unfold g_is_text_of
  rw [Ev_G2]
  simp
  refine Ev.compTrue (fun M' => M' = M) _ _ rfl (fun x hx M' e => ?_) fun ys M' hy e => ?_
  · subst e
    obtain ⟨c, hc, rfl⟩ := List.mem_map.mp hx
    have := h c hc
    simp [e_is_text_of_1]
    simpa using this
  · subst e
    simp [hy]; simpa using k
theorem rowed_ok {r : List Char} (h : Row r) (M : Mem) {P : KV} (k : P (.d (.bl true)) M) : Ev (g_is_rowed [.d (.str r)] M) P := by
  unfold g_is_rowed
  rw [Ev_G1]
  simp
  refine text_ok h.mem M ?_
  have h1 : ¬ ((12 : Int) < r.length) := by have := h.len; omega
  simp [h1]; exact k
theorem check_row_ok {r : List Char} (h : Row r) (M : Mem) {P : KV} (k : P (.d .non) M) : Ev (g_check_row [.d (.str r)] M) P := by
  unfold g_check_row
  rw [Ev_G1]
  simp
  refine rowed_ok h M ?_
  simp; exact k
theorem at_map {α β : Type} (f : α → β) (l : List α) (i : Int) : at_ (l.map f) i = (at_ l i).map f := by
  unfold at_
  rw [List.length_map]
  split
  · rw [List.getElem?_map]
  · split
    · rw [List.getElem?_map]
    · rfl
theorem at_last {α : Type} (l : List α) (x : α) : at_ (l ++ [x]) (-1) = some x := by
  unfold at_
  rw [if_neg (by decide), if_pos (by rw [List.length_append]; simp; omega)]
  have e : (-1 + ((l ++ [x]).length : Int)).toNat = l.length := by rw [List.length_append]; simp; omega
  rw [e]; simp
theorem at_end {α : Type} {l : List α} (h : l ≠ []) : ∃ x, x ∈ l ∧ at_ l (-1) = some x := by
  refine ⟨l.getLast h, List.getLast_mem h, ?_⟩
  have := at_last l.dropLast (l.getLast h)
  rwa [List.dropLast_concat_getLast h] at this

/-! ### the same -/
def Same1 (n : Nat) (x : D) : Prop := ∀ (M : Mem) (P : KV), P (.d (.bl true)) M → Ev (g__law_is n [.d x, .d x] M) P
theorem is_int (n : Nat) (a : Int) : Same1 (n + 1) (.int a) := by
  intro M P k
  rw [g__law_is, Ev_G2]
  simp
  simpa using k
theorem is_str (n : Nat) (a : List Char) : Same1 (n + 1) (.str a) := by
  intro M P k
  rw [g__law_is, Ev_G2]
  simp
  simpa using k
theorem is_non (n : Nat) : Same1 (n + 1) .non := by
  intro M P k
  rw [g__law_is, Ev_G2]
  simp
  simpa using k
theorem is_bl (n : Nat) (b : Bool) : Same1 (n + 1) (.bl b) := by
  intro M P k
  rw [g__law_is, Ev_G2]
  cases b <;> simp <;> simpa using k
theorem is_dic1 (n : Nat) (t : List Char) (i : Int) : Same1 (n + 1) (.dic [(.str t, .int i)]) := by
  intro M P k
  have e : eqC (.dic [(.str t, .int i)]) (.dic [(.str t, .int i)]) = some (.bl true) := by
    show (if dicS _ _ = true then some (D.bl true) else none) = _
    rw [if_pos]
    simp [dicS]
  rw [g__law_is, Ev_G2]
  simp [e]
  simpa using k
theorem mem_enumF {x : D} : ∀ (l : List D) (i : Int), x ∈ enumFrom i l → ∃ (k : Nat) (y : D), x = .tup [.int (i + (k : Int)), y] ∧ l[k]? = some y
  | [], _, h => by cases h
  | y :: l, i, h => by
    rcases List.mem_cons.mp (show x ∈ D.tup [.int i, y] :: enumFrom (i + 1) l from h) with rfl | h
    · exact ⟨0, y, by simp, rfl⟩
    · obtain ⟨k, z, rfl, hz⟩ := mem_enumF l (i + 1) h
      exact ⟨k + 1, z, by rw [show i + 1 + (k : Int) = i + ((k + 1 : Nat) : Int) by omega], hz⟩
theorem mem_enum {x : D} {l : List D} (h : x ∈ enumFrom 0 l) : ∃ (k : Nat) (y : D), x = .tup [.int (k : Int), y] ∧ l[k]? = some y := by
  obtain ⟨k, y, rfl, hy⟩ := mem_enumF l 0 h
  exact ⟨k, y, by rw [Int.zero_add], hy⟩
theorem is_tup (n : Nat) (l : List D) (hs : ∀ x ∈ l, Same1 n x) : Same1 (n + 1) (.tup l) := by
  intro M P k
  rw [g__law_is, Ev_G2]
  simp
  refine Ev.compTrue (fun M' => M' = M) _ _ rfl (fun x hx M' hM' => ?_) ?_
  · subst hM'
    obtain ⟨i, y, rfl, hy⟩ := mem_enum hx
    obtain ⟨hi, rfl⟩ := List.getElem?_eq_some_iff.mp hy
    have e : at_ l (i : Int) = some l[i] := by rw [at_of, List.getElem?_eq_getElem hi]
    simp [e]
    refine hs _ (List.getElem_mem hi) _ _ ?_
    simp
  · rintro ys M' hy rfl
    simp [hy]
    simpa using k
theorem is_lst (n : Nat) (l : List D) (hs : ∀ x ∈ l, Same1 n x) : Same1 (n + 2) (.lst l) := by
  intro M P k
  rw [g__law_is, Ev_G2]
  simp
  refine is_tup n l hs M _ ?_
  simpa using k
theorem Well.self {M : Mem} {n : Nat} (w : Well M n) : ∃ o, M = M.set n o := by
  obtain ⟨a, b, c, e⟩ := w
  obtain ⟨h, e'⟩ := List.getElem?_eq_some_iff.mp e
  exact ⟨.lst [.int a, .int b, .int c], by rw [← e', List.set_getElem_self]⟩
end K07
end P_K07M
section P_K07B
set_option Elab.async false
set_option linter.all false
set_option maxRecDepth 100000
namespace K07
open DL
theorem nd_dups : ∀ l : List Char, l.eraseDups.Nodup
  | [] => by simp
  | c :: l => by
    rw [List.eraseDups_cons, List.nodup_cons]
    refine ⟨fun h => ?_, nd_dups _⟩
    have := (List.mem_filter.mp (List.mem_eraseDups.mp h)).2
    simp at this
termination_by l => l.length
decreasing_by
  have h1 := List.length_filter_le (fun b => !b == c) l
  simp only [List.length_cons]
  omega
theorem dups_in {β : Type} [BEq β] [LawfulBEq β] {m : List β} {x : β} (hx : x ∈ m) : (m ++ [x]).eraseDups = m.eraseDups := by
  rw [List.eraseDups_append]
  have : [x].removeAll m = [] := by show List.filter _ [x] = []; simp [hx]
  rw [this]; simp
theorem dups_out {β : Type} [BEq β] [LawfulBEq β] {m : List β} {x : β} (hx : x ∉ m) : (m ++ [x]).eraseDups = m.eraseDups ++ [x] := by
  rw [List.eraseDups_append]
  have : [x].removeAll m = [x] := by show List.filter _ [x] = [x]; simp [hx]
  rw [this]; rfl
theorem dups_map {β : Type} [BEq β] [LawfulBEq β] {f : Char → β} : ∀ n (l : List Char), l.length = n → (∀ a ∈ l, ∀ b ∈ l, f a = f b → a = b) → (l.map f).eraseDups = l.eraseDups.map f
  | 0, l, h, _ => by rw [List.eq_nil_of_length_eq_zero h]; rfl
  | n + 1, l, h, hf => by
    have hne : l ≠ [] := fun e => by rw [e] at h; cases h
    have e := List.dropLast_concat_getLast hne
    have hm : ∀ a ∈ l.dropLast, a ∈ l := fun a ha => by rw [← e]; exact List.mem_append_left _ ha
    have ih := dups_map n l.dropLast (by rw [List.length_dropLast, h]; rfl) fun a ha b hb => hf a (hm a ha) b (hm b hb)
    rw [← e, List.map_append, List.map_cons, List.map_nil]
    by_cases hx : l.getLast hne ∈ l.dropLast
    · rw [dups_in hx, dups_in (List.mem_map.mpr ⟨_, hx, rfl⟩), ih]
    · rw [dups_out hx, dups_out, ih, List.map_append]
      · rfl
      · intro z
        obtain ⟨y, hy, ey⟩ := List.mem_map.mp z
        exact hx (by rw [← hf y (hm y hy) _ (List.getLast_mem hne) ey]; exact hy)
theorem texts_ch : ∀ l : List Char, texts (l.map ch) = some (l.map fun c => [c])
  | [] => rfl
  | c :: l => by show (texts (l.map ch)).map ([c] :: ·) = _; rw [texts_ch l]; rfl
theorem lens_ch : ∀ l : List Char, lens (l.map fun c => [c]) = l.length
  | [] => rfl
  | c :: l => by show 1 + lens (l.map fun c => [c]) = _; rw [lens_ch l, List.length_cons]; omega
theorem glue_ch : ∀ l : List Char, glue [] (l.map fun c => [c]) = l
  | [] => rfl
  | [c] => rfl
  | c :: d :: l => by show [c] ++ [] ++ glue [] ((d :: l).map fun c => [c]) = _; rw [glue_ch (d :: l)]; rfl
theorem join_ch (l : List Char) (h : l.length ≤ 1000) : joinD [] (l.map ch) = some (.str l) := by
  unfold joinD
  rw [texts_ch]
  show (if lens _ + _ * 0 ≤ big then some (D.str (glue [] _)) else none) = _
  rw [lens_ch, glue_ch, Nat.mul_zero, Nat.add_zero, if_pos (Nat.le_trans h (by decide))]
theorem place_some {α : Type} {p : α → Bool} : ∀ {l : List α}, (∃ x ∈ l, p x = true) → ∃ n, place p l = some n
  | [], ⟨x, hx, _⟩ => by cases hx
  | a :: l, ⟨x, hx, hp⟩ => by
    unfold place
    by_cases ha : p a = true
    · exact ⟨0, by rw [if_pos ha]⟩
    · rw [if_neg ha]
      rcases List.mem_cons.mp hx with rfl | hx
      · exact absurd hp ha
      · obtain ⟨n, e⟩ := place_some ⟨x, hx, hp⟩
        exact ⟨n + 1, by rw [e]; rfl⟩
def fs (row : List Char) (c : Char) : Nat := (place (· == c) row).getD 0
theorem fs_ok {row : List Char} {c : Char} (h : c ∈ row) : place (· == c) row = some (fs row c) ∧ row[fs row c]? = some c ∧ ∀ m, m < fs row c → row[m]? ≠ some c := by
  obtain ⟨n, e⟩ := place_some (p := (· == c)) ⟨c, h, beq_self_eq_true c⟩
  have ef : fs row c = n := by unfold fs; rw [e]; rfl
  rw [ef]
  obtain ⟨h1, h2, h3⟩ := place_spec e
  refine ⟨e, by rw [List.getElem?_eq_getElem h1, eq_of_beq h2], fun m hm hc => ?_⟩
  have hm' : m < row.length := by omega
  rw [List.getElem?_eq_getElem hm'] at hc
  injection hc with hc
  have := h3 m hm' hm
  rw [hc] at this
  simp at this
theorem max_ints : ∀ (x : Nat) (l : List Nat), ∃ m : Nat, bestD (fun a b => ltFlat b a) (.int (x : Int)) (l.map fun (n : Nat) => D.int (n : Int)) = some (.int (m : Int)) ∧ m ∈ x :: l ∧ ∀ y ∈ x :: l, y ≤ m
  | x, [] => ⟨x, rfl, List.mem_cons_self .., fun y hy => by rw [List.mem_singleton.mp hy]; exact Nat.le_refl _⟩
  | x, z :: l => by
    have e : bestD (fun a b => ltFlat b a) (.int (x : Int)) ((z :: l).map fun (n : Nat) => D.int (n : Int)) = if x < z then bestD (fun a b => ltFlat b a) (.int (z : Int)) (l.map fun (n : Nat) => D.int (n : Int)) else bestD (fun a b => ltFlat b a) (.int (x : Int)) (l.map fun (n : Nat) => D.int (n : Int)) := by
      show (match ltFlat (.int (x : Int)) (.int (z : Int)) with | some true => bestD (fun a b => ltFlat b a) (.int (z : Int)) (l.map fun (n : Nat) => D.int (n : Int)) | some false => bestD (fun a b => ltFlat b a) (.int (x : Int)) (l.map fun (n : Nat) => D.int (n : Int)) | none => none) = _
      have e2 : ltFlat (.int (x : Int)) (.int (z : Int)) = some (decide ((x : Int) < z)) := rfl
      rw [e2]
      by_cases h : x < z
      · rw [decide_eq_true (by omega), if_pos h]
      · rw [decide_eq_false (by omega), if_neg h]
    rw [e]
    by_cases h : x < z
    · rw [if_pos h]
      obtain ⟨m, e1, e2, e3⟩ := max_ints z l
      exact ⟨m, e1, List.mem_cons_of_mem _ e2, fun y hy => by
        rcases List.mem_cons.mp hy with rfl | hy
        · have := e3 z (List.mem_cons_self ..); omega
        · exact e3 y hy⟩
    · rw [if_neg h]
      obtain ⟨m, e1, e2, e3⟩ := max_ints x l
      refine ⟨m, e1, ?_, fun y hy => ?_⟩
      · rcases List.mem_cons.mp e2 with rfl | e2
        · exact List.mem_cons_self ..
        · exact List.mem_cons_of_mem _ (List.mem_cons_of_mem _ e2)
      · rcases List.mem_cons.mp hy with rfl | hy
        · exact e3 y (List.mem_cons_self ..)
        · rcases List.mem_cons.mp hy with rfl | hy
          · have := e3 x (List.mem_cons_self ..); omega
          · exact e3 y (List.mem_cons_of_mem _ hy)
theorem dups_len (l : List Char) : l.eraseDups.length ≤ l.length := (nd_dups l).length_le_of_subset fun c hc => List.mem_eraseDups.mp hc
theorem joinKeys_ch (l : List Char) (h : l.length ≤ 1000) : joinKeys [] (l.map ch) = some (.str l.eraseDups) := by
  unfold joinKeys
  rw [texts_ch]
  show (if lens (l.map fun c => [c]).eraseDups + (l.map fun c => [c]).eraseDups.length * 0 ≤ big then some (D.str (glue [] (l.map fun c => [c]).eraseDups)) else none) = _
  rw [dups_map (f := fun c => [c]) _ l rfl (fun a _ b _ e => by simpa using e), lens_ch, glue_ch, Nat.mul_zero, Nat.add_zero, if_pos (Nat.le_trans (Nat.le_trans (dups_len l) h) (by decide))]
theorem colours_by_ok (row : List Char) (h : row.length ≤ 1000) (M : Mem) {P : KV} (k : P (.d (.str row.eraseDups)) M) : Ev (g_colours_by [.d (.str row)] M) P := by
  unfold g_colours_by
  rw [Ev_G1]
  have e := joinKeys_ch row h
  unfold ch at e
  simp
  refine Ev.compMap id _ _ (fun x hx => ?_) ?_
  · obtain ⟨c, _, rfl⟩ := List.mem_map.mp hx
    simp
  · simp [e]; exact k
def nmC (row : List Char) (c : Char) : Char := cols[fs row.eraseDups c]?.getD 'a'
theorem fs_six {row : List Char} (hr : Row row) {c : Char} (hc : c ∈ row) : fs row.eraseDups c < 6 := by
  obtain ⟨_, h, _⟩ := fs_ok (List.mem_eraseDups.mpr hc)
  have h1 := (List.getElem?_eq_some_iff.mp h).1
  have h2 : row.eraseDups.length ≤ cols.length := (nd_dups row).length_le_of_subset fun c hc => hr.mem c (List.mem_eraseDups.mp hc)
  exact Nat.lt_of_lt_of_le h1 h2
theorem nmC_at {row : List Char} (hr : Row row) {c : Char} (hc : c ∈ row) : at_ cols (fs row.eraseDups c : Int) = some (nmC row c) := by
  have h := fs_six hr hc
  rw [at_of]
  unfold nmC
  rw [List.getElem?_eq_getElem (show _ < cols.length from h)]; rfl
theorem nmC_inj {row : List Char} (hr : Row row) : ∀ a ∈ row, ∀ b ∈ row, nmC row a = nmC row b → a = b := by
  intro a ha b hb e
  have h1 := fs_six hr ha
  have h2 := fs_six hr hb
  have key : ∀ i, i < 6 → ∀ j, j < 6 → cols[i]?.getD 'a' = cols[j]?.getD 'a' → i = j := by decide
  have e2 : fs row.eraseDups a = fs row.eraseDups b := key _ h1 _ h2 e
  obtain ⟨_, g1, _⟩ := fs_ok (List.mem_eraseDups.mpr ha)
  obtain ⟨_, g2, _⟩ := fs_ok (List.mem_eraseDups.mpr hb)
  rw [e2, g2] at g1
  exact (Option.some.inj g1).symm
theorem nm_row {row : List Char} (hr : Row row) : Row (row.map (nmC row)) := ⟨by rw [List.length_map]; exact hr.len, fun c hc => by
  obtain ⟨a, ha, rfl⟩ := List.mem_map.mp hc
  have := nmC_at hr ha
  rw [at_of] at this
  exact List.mem_of_getElem? this⟩
def nmD (row : List Char) : D → D
  | .str [c] => .str [nmC row c]
  | y => y
theorem named_ok {row : List Char} (hr : Row row) (M : Mem) {P : KV} (k : P (.d (.str (row.map (nmC row)))) M) : Ev (g_named [.d (.str row)] M) P := by
  unfold g_named
  rw [Ev_G1]
  have hl := hr.len
  simp
  refine check_row_ok hr M ?_
  simp
  unfold g_named_by
  rw [Ev_G1]
  simp
  refine colours_by_ok row (by omega) M ?_
  simp
  refine Ev.compMap (nmD row) _ _ (fun x hx => ?_) ?_
  · obtain ⟨c, hc, rfl⟩ := List.mem_map.mp hx
    obtain ⟨h1, _, _⟩ := fs_ok (List.mem_eraseDups.mpr hc)
    have h2 := nmC_at hr hc
    simp [e_named_by_1, h1]
    have h2' : at_ ['a', 'b', 'c', 'd', 'e', 'f'] (fs row.eraseDups c : Int) = some (nmC row c) := h2
    simp [h2', nmD]
  · have e : (row.map fun c => D.str [c]).map (nmD row) = (row.map (nmC row)).map ch := by rw [List.map_map, List.map_map]; rfl
    have j := join_ch (row.map (nmC row)) (by rw [List.length_map]; omega)
    rw [e]
    simp only [kLc2_ap, kCons_ap, Ev_nil, kCons2_ap]
    simp [-List.map_map, j]; exact k
end K07
end P_K07B
section P_K07L
set_option Elab.async false
set_option linter.all false
set_option maxRecDepth 100000
namespace K07
open DL
open CbK (plc)
/-! ### named texts -/
def nm (t : List Char) : List Char := t.map (nmC t)
def Cols (t : List Char) : Prop := ∀ c ∈ t, c ∈ cols
theorem fs_eq {row : List Char} {c : Char} {i : Nat} (h : place (· == c) row = some i) : fs row c = i := by unfold fs; rw [h]; rfl
theorem place_map {f : Char → Char} : ∀ {l : List Char} {c : Char}, (∀ a ∈ l, f a = f c → a = c) → place (· == f c) (l.map f) = place (· == c) l
  | [], _, _ => rfl
  | a :: l, c, h => by
    have ih := place_map (l := l) (c := c) fun b hb => h b (List.mem_cons_of_mem _ hb)
    show (if (f a == f c) = true then some 0 else (place (· == f c) (l.map f)).map (· + 1)) = if (a == c) = true then some 0 else (place (· == c) l).map (· + 1)
    rw [ih]
    by_cases e : a = c
    · subst e; simp
    · rw [if_neg (by simpa using fun z => e (h a (List.mem_cons_self ..) z)), if_neg (by simpa using e)]
theorem nm_map {f : Char → Char} {t : List Char} (hf : ∀ a ∈ t, ∀ b ∈ t, f a = f b → a = b) : nm (t.map f) = nm t := by
  unfold nm
  rw [List.map_map]
  refine List.map_congr_left fun c hc => ?_
  show nmC (t.map f) (f c) = nmC t c
  unfold nmC fs
  rw [dups_map _ t rfl hf, place_map fun a ha e => hf a (List.mem_eraseDups.mp ha) c hc e]
theorem nm_len (t : List Char) : (nm t).length = t.length := by unfold nm; rw [List.length_map]
theorem dups_six {t : List Char} (h : Cols t) : t.eraseDups.length ≤ 6 := (nd_dups t).length_le_of_subset (l₂ := cols) fun c hc => h c (List.mem_eraseDups.mp hc)
theorem fs_six' {t : List Char} (h : Cols t) {c : Char} (hc : c ∈ t) : fs t.eraseDups c < 6 := by
  obtain ⟨_, g, _⟩ := fs_ok (List.mem_eraseDups.mpr hc)
  have h1 := (List.getElem?_eq_some_iff.mp g).1
  have := dups_six h
  omega
theorem nm_inj {t : List Char} (h : Cols t) : ∀ a ∈ t, ∀ b ∈ t, nmC t a = nmC t b → a = b := by
  intro a ha b hb e
  have h1 := fs_six' h ha
  have h2 := fs_six' h hb
  have key : ∀ i, i < 6 → ∀ j, j < 6 → cols[i]?.getD 'a' = cols[j]?.getD 'a' → i = j := by decide
  have e2 : fs t.eraseDups a = fs t.eraseDups b := key _ h1 _ h2 e
  obtain ⟨_, g1, _⟩ := fs_ok (List.mem_eraseDups.mpr ha)
  obtain ⟨_, g2, _⟩ := fs_ok (List.mem_eraseDups.mpr hb)
  rw [e2, g2] at g1
  exact (Option.some.inj g1).symm
theorem nm_cols {t : List Char} (h : Cols t) : Cols (nm t) := fun c hc => by
  obtain ⟨a, ha, rfl⟩ := List.mem_map.mp hc
  have := fs_six' h ha
  unfold nmC
  rw [List.getElem?_eq_getElem (show _ < cols.length from this)]
  exact List.getElem_mem _
theorem nm_nm {t : List Char} (h : Cols t) : nm (nm t) = nm t := nm_map (nm_inj h)
/-- texts of one named text, read from behind, are of one, too -/
theorem nm_rev {t s : List Char} (ht : Cols t) (hs : Cols s) (e : nm t = nm s) : nm t.reverse = nm s.reverse := by
  have key : ∀ u : List Char, Cols u → nm u.reverse = nm (nm u).reverse := fun u hu => by
    have h1 : (nm u).reverse = u.reverse.map (nmC u) := by unfold nm; rw [List.map_reverse]
    rw [h1]
    exact (nm_map fun a ha b hb => nm_inj hu a (List.mem_reverse.mp ha) b (List.mem_reverse.mp hb)).symm
  rw [key t ht, key s hs, e]
/-! ### places -/
theorem mem_plc (n : Nat) : ∀ (r : Nat) (c : List Nat), c ∈ plc n r ↔ c.length = r ∧ c.Pairwise (· < ·) ∧ ∀ x ∈ c, x < n
  | 0, c => by
    show c ∈ [[]] ↔ _
    rw [List.mem_singleton]
    constructor
    · rintro rfl; exact ⟨rfl, .nil, fun x h => by cases h⟩
    · rintro ⟨h, _⟩; exact List.eq_nil_of_length_eq_zero h
  | r + 1, c => by
    show c ∈ (plc n r).flatMap _ ↔ _
    rw [List.mem_flatMap]
    constructor
    · rintro ⟨d, hd, hc⟩
      obtain ⟨x, hx, rfl⟩ := List.mem_map.mp hc
      obtain ⟨h1, h2, h3⟩ := (mem_plc n r d).mp hd
      rw [List.mem_range'_1] at hx
      refine ⟨by simp [h1], ?_, fun y hy => ?_⟩
      · rw [List.pairwise_append]
        refine ⟨h2, by simp, fun y hy z hz => ?_⟩
        rw [List.mem_singleton.mp hz]
        rcases List.eq_nil_or_concat d with rfl | ⟨t, m, rfl⟩
        · cases hy
        · rw [List.concat_eq_append] at hx h2 hy
          simp at hx
          rcases List.mem_append.mp hy with hy | hy
          · have := (List.pairwise_append.mp h2).2.2 y hy m (by simp)
            omega
          · rw [List.mem_singleton.mp hy]; omega
      · rcases List.mem_append.mp hy with hy | hy
        · exact h3 y hy
        · rw [List.mem_singleton.mp hy]; omega
    · rintro ⟨h1, h2, h3⟩
      rcases List.eq_nil_or_concat c with rfl | ⟨d, x, rfl⟩
      · cases h1
      rw [List.concat_eq_append] at h1 h2 h3 ⊢
      have hp := List.pairwise_append.mp h2
      refine ⟨d, (mem_plc n r d).mpr ⟨by simpa using h1, hp.1, fun y hy => h3 y (List.mem_append_left _ hy)⟩, List.mem_map.mpr ⟨x, ?_, rfl⟩⟩
      rw [List.mem_range'_1]
      have hx := h3 x (by simp)
      rcases List.eq_nil_or_concat d with rfl | ⟨t, m, rfl⟩
      · simp; omega
      · rw [List.concat_eq_append] at hp ⊢
        have := hp.2.2 m (by simp) x (by simp)
        simp; omega
/-- one tuple of numbers is ahead of another one -/
def ltN : List Nat → List Nat → Bool
  | [], [] => false
  | [], _ :: _ => true
  | _ :: _, [] => false
  | x :: xs, y :: ys => if x = y then ltN xs ys else decide (x < y)
theorem ltN_trans : ∀ {a b c : List Nat}, ltN a b = true → ltN b c = true → ltN a c = true
  | [], [], _, h, _ => by cases h
  | [], _ :: _, [], _, h => by cases h
  | [], _ :: _, _ :: _, _, _ => rfl
  | _ :: _, [], _, h, _ => by cases h
  | _ :: _, _ :: _, [], _, h => by cases h
  | x :: xs, y :: ys, z :: zs, h1, h2 => by
    unfold ltN at h1 h2 ⊢
    by_cases e1 : x = y
    · subst e1
      rw [if_pos rfl] at h1
      by_cases e2 : x = z
      · subst e2
        rw [if_pos rfl] at h2 ⊢
        exact ltN_trans h1 h2
      · rw [if_neg e2] at h2 ⊢; exact h2
    · rw [if_neg e1, decide_eq_true_eq] at h1
      by_cases e2 : y = z
      · subst e2
        rw [if_neg e1]; exact decide_eq_true h1
      · rw [if_neg e2, decide_eq_true_eq] at h2
        rw [if_neg (by omega)]; exact decide_eq_true (by omega)
theorem ltN_irrefl : ∀ a : List Nat, ltN a a = false
  | [] => rfl
  | x :: xs => by unfold ltN; rw [if_pos rfl]; exact ltN_irrefl xs
theorem ltN_snoc {c d : List Nat} {x y : Nat} : ∀ (_ : c.length = d.length), ltN (c ++ [x]) (d ++ [y]) = (ltN c d || (decide (c = d) && decide (x < y))) := by
  induction c generalizing d with
  | nil =>
    intro h
    cases d with
    | nil =>
      show (if x = y then ltN [] [] else decide (x < y)) = (false || (decide (([] : List Nat) = []) && decide (x < y)))
      by_cases e : x = y
      · subst e; simp [ltN]
      · simp [e]
    | cons _ _ => cases h
  | cons a c ih =>
    intro h
    cases d with
    | nil => cases h
    | cons b d =>
      show (if a = b then ltN (c ++ [x]) (d ++ [y]) else decide (a < b)) = ((if a = b then ltN c d else decide (a < b)) || _)
      by_cases e : a = b
      · subst e
        rw [if_pos rfl, if_pos rfl, ih (by simpa using h)]
        simp
      · rw [if_neg e, if_neg e]
        simp [e]
theorem plc_len {n r : Nat} {c : List Nat} (h : c ∈ plc n r) : c.length = r := ((mem_plc n r c).mp h).1
theorem plc_sorted (n : Nat) : ∀ r, (plc n r).Pairwise fun a b => ltN a b = true
  | 0 => List.pairwise_singleton ..
  | r + 1 => by
    show ((plc n r).flatMap _).Pairwise _
    rw [List.pairwise_flatMap]
    refine ⟨fun c hc => ?_, (plc_sorted n r).imp_of_mem fun {a b} ha hb hab => fun x hx y hy => ?_⟩
    · rw [List.pairwise_map]
      refine (List.pairwise_lt_range' ..).imp fun {x y} hxy => ?_
      rw [ltN_snoc rfl, ltN_irrefl]
      simpa using hxy
    · obtain ⟨i, _, rfl⟩ := List.mem_map.mp hx
      obtain ⟨j, _, rfl⟩ := List.mem_map.mp hy
      rw [ltN_snoc (by rw [plc_len ha, plc_len hb]), hab]; rfl
theorem plc_nodup (n r : Nat) : (plc n r).Nodup := (plc_sorted n r).imp fun {a b} h e => by rw [e, ltN_irrefl] at h; cases h
/-! ### held patterns -/
def socks (row : List Char) (c : List Nat) : List Char := c.map fun i => row[i]?.getD 'a'
def hld (row pat : List Char) : List (List Nat) := (plc row.length pat.length).filter fun c => decide (nm (socks row c) = pat)
theorem socks_len (row : List Char) (c : List Nat) : (socks row c).length = c.length := by unfold socks; rw [List.length_map]
theorem socks_mem {row : List Char} {c : List Nat} (h : ∀ x ∈ c, x < row.length) : ∀ a ∈ socks row c, a ∈ row := fun a ha => by
  obtain ⟨i, hi, rfl⟩ := List.mem_map.mp ha
  rw [List.getElem?_eq_getElem (h i hi)]
  exact List.getElem_mem _
theorem socks_map {row : List Char} {f : Char → Char} {c : List Nat} (h : ∀ x ∈ c, x < row.length) : socks (row.map f) c = (socks row c).map f := by
  unfold socks
  rw [List.map_map]
  refine List.map_congr_left fun i hi => ?_
  show (row.map f)[i]?.getD 'a' = f (row[i]?.getD 'a')
  rw [List.getElem?_map, List.getElem?_eq_getElem (h i hi)]; rfl
theorem hld_map {row : List Char} {f : Char → Char} (hf : ∀ a ∈ row, ∀ b ∈ row, f a = f b → a = b) (pat : List Char) : hld (row.map f) pat = hld row pat := by
  unfold hld
  rw [List.length_map]
  refine List.filter_congr fun c hc => ?_
  obtain ⟨_, _, h3⟩ := (mem_plc _ _ c).mp hc
  rw [socks_map h3, nm_map fun a ha b hb => hf a (socks_mem h3 a ha) b (socks_mem h3 b hb)]
/-- places from behind -/
def rv (n : Nat) (c : List Nat) : List Nat := (c.map fun i => n - 1 - i).reverse
theorem rv_mem {n r : Nat} {c : List Nat} (h : c ∈ plc n r) : rv n c ∈ plc n r ∧ rv n (rv n c) = c := by
  obtain ⟨h1, h2, h3⟩ := (mem_plc n r c).mp h
  refine ⟨(mem_plc n r _).mpr ⟨by unfold rv; rw [List.length_reverse, List.length_map]; exact h1, ?_, fun x hx => ?_⟩, ?_⟩
  · unfold rv
    rw [List.pairwise_reverse, List.pairwise_map]
    refine h2.imp_of_mem fun {a b} ha hb hab => ?_
    have := h3 a ha
    have := h3 b hb
    omega
  · unfold rv at hx
    obtain ⟨i, hi, rfl⟩ := List.mem_map.mp (List.mem_reverse.mp hx)
    have := h3 i hi
    omega
  · unfold rv
    rw [List.map_reverse, List.reverse_reverse, List.map_map]
    conv => rhs; rw [← List.map_id c]
    refine List.map_congr_left fun i hi => ?_
    have := h3 i hi
    show n - 1 - (n - 1 - i) = i
    omega
theorem rv_perm (n r : Nat) : ((plc n r).map (rv n)).Perm (plc n r) := by
  refine (List.perm_ext_iff_of_nodup ?_ (plc_nodup n r)).mpr fun c => ?_
  · rw [List.Nodup, List.pairwise_map]
    refine (plc_nodup n r).imp_of_mem fun {a b} ha hb hab e => hab ?_
    rw [← (rv_mem ha).2, e, (rv_mem hb).2]
  · constructor
    · intro h
      obtain ⟨d, hd, rfl⟩ := List.mem_map.mp h
      exact (rv_mem hd).1
    · intro h
      exact List.mem_map.mpr ⟨rv n c, (rv_mem h).1, (rv_mem h).2⟩
theorem socks_rv {row : List Char} {c : List Nat} (h : ∀ x ∈ c, x < row.length) : socks row.reverse (rv row.length c) = (socks row c).reverse := by
  unfold socks rv
  rw [← List.map_reverse, ← List.map_reverse, List.map_map]
  refine List.map_congr_left fun i hi => ?_
  have := h i (List.mem_reverse.mp hi)
  show row.reverse[row.length - 1 - i]?.getD 'a' = _
  rw [List.getElem?_reverse (by omega), show row.length - 1 - (row.length - 1 - i) = i by omega]
theorem hld_rev {row pat : List Char} (hr : Cols row) (hp : Cols pat) (hn : nm pat = pat) : (hld row.reverse (nm pat.reverse)).length = (hld row pat).length := by
  unfold hld
  rw [List.length_reverse, nm_len, List.length_reverse, ← ((rv_perm row.length pat.length).filter _).length_eq, List.filter_map, List.length_map]
  congr 1
  refine List.filter_congr fun c hc => ?_
  obtain ⟨h1, _, h3⟩ := (mem_plc _ _ c).mp hc
  show decide (nm (socks row.reverse (rv row.length c)) = nm pat.reverse) = decide (nm (socks row c) = pat)
  rw [socks_rv h3]
  have hs : Cols (socks row c) := fun a ha => hr a (socks_mem h3 a ha)
  have hs' : Cols (socks row c).reverse := fun a ha => hs a (List.mem_reverse.mp ha)
  have hp' : Cols pat.reverse := fun a ha => hp a (List.mem_reverse.mp ha)
  rw [Bool.eq_iff_iff, decide_eq_true_eq, decide_eq_true_eq]
  constructor
  · intro e
    have := nm_rev hs' hp' e
    rw [List.reverse_reverse, List.reverse_reverse, hn] at this
    exact this
  · intro e
    exact nm_rev hs hp (by rw [e, hn])
theorem hld_snoc {row pat : List Char} (x : Char) {c : List Nat} (h : c ∈ hld row pat) : c ∈ hld (row ++ [x]) pat := by
  unfold hld at h ⊢
  obtain ⟨h1, h2⟩ := List.mem_filter.mp h
  obtain ⟨g1, g2, g3⟩ := (mem_plc _ _ c).mp h1
  refine List.mem_filter.mpr ⟨(mem_plc _ _ c).mpr ⟨g1, g2, fun y hy => by rw [List.length_append]; have := g3 y hy; simp; omega⟩, ?_⟩
  have e : socks (row ++ [x]) c = socks row c := by
    unfold socks
    refine List.map_congr_left fun i hi => ?_
    rw [List.getElem?_append_left (g3 i hi)]
  rw [e]; exact h2
theorem hld_cons {row pat : List Char} (x : Char) {c : List Nat} (h : c ∈ hld row pat) : c.map (· + 1) ∈ hld (x :: row) pat := by
  unfold hld at h ⊢
  obtain ⟨h1, h2⟩ := List.mem_filter.mp h
  obtain ⟨g1, g2, g3⟩ := (mem_plc _ _ c).mp h1
  refine List.mem_filter.mpr ⟨(mem_plc _ _ _).mpr ⟨by rw [List.length_map]; exact g1, by rw [List.pairwise_map]; exact g2.imp fun h => Nat.succ_lt_succ h, fun y hy => ?_⟩, ?_⟩
  · obtain ⟨i, hi, rfl⟩ := List.mem_map.mp hy
    have := g3 i hi
    show i + 1 < row.length + 1
    omega
  · have e : socks (x :: row) (c.map (· + 1)) = socks row c := by
      unfold socks
      rw [List.map_map]
      exact List.map_congr_left fun i hi => rfl
    rw [e]; exact h2
/-- each is of just one kind -/
theorem kinds {α β : Type} [DecidableEq β] (f : α → β) {ps : List β} (nd : ps.Nodup) : ∀ l : List α, (∀ a ∈ l, f a ∈ ps) → (ps.map fun p => (l.filter fun a => decide (f a = p)).length).sum = l.length
  | [], _ => by
    have : ∀ ps : List β, (ps.map fun p => (([] : List α).filter fun a => decide (f a = p)).length).sum = 0 := fun ps => by
      induction ps with
      | nil => rfl
      | cons p ps ih => rw [List.map_cons, List.sum_cons, ih]; rfl
    exact this ps
  | a :: l, h => by
    have ih := kinds f nd l fun b hb => h b (List.mem_cons_of_mem _ hb)
    have ha := h a (List.mem_cons_self ..)
    have key : ∀ ps : List β, ps.Nodup → (ps.map fun p => ((a :: l).filter fun a => decide (f a = p)).length).sum = (ps.map fun p => (l.filter fun a => decide (f a = p)).length).sum + if f a ∈ ps then 1 else 0 := fun ps => by
      induction ps with
      | nil => intro _; rfl
      | cons p ps ih2 =>
        intro nd
        rw [List.nodup_cons] at nd
        rw [List.map_cons, List.sum_cons, List.map_cons, List.sum_cons, ih2 nd.2, List.filter_cons]
        by_cases e : f a = p
        · have hn : f a ∉ ps := by rw [e]; exact nd.1
          rw [if_pos (decide_eq_true e), List.length_cons, if_neg hn, if_pos (by rw [e]; exact List.mem_cons_self ..)]; omega
        · rw [if_neg (by simpa using e)]
          by_cases hm : f a ∈ ps
          · rw [if_pos hm, if_pos (List.mem_cons_of_mem _ hm)]; omega
          · rw [if_neg hm, if_neg (by rw [List.mem_cons]; exact fun z => z.elim e hm)]; omega
    rw [key ps nd, ih, if_pos ha, List.length_cons]
end K07
end P_K07L
section P_K07N
set_option Elab.async false
set_option linter.all false
set_option maxRecDepth 100000
namespace K07
open DL
open CbK (plc)
theorem law_colours_ok (row : List Char) (h : row.length ≤ 12) (M : Mem) {P : KV} (k : P (.d (.str row.eraseDups)) M) : Ev (g__law_colours [.d (.str row)] M) P := by
  unfold g__law_colours
  rw [Ev_G1]
  simp
  refine Ev.for (fun xs s M' => ∃ (dn rest : List Char) (z : Option Val), row = dn ++ rest ∧ xs = rest.map ch ∧ s = [some (.d (.str row)), some (.d (.str dn.eraseDups)), z] ∧ M' = M) _ _ _ ⟨[], row, none, rfl, rfl, rfl, rfl⟩ ?_ ?_
  · rintro x xs s M' ⟨dn, rest, z, hr, hx, rfl, rfl⟩
    cases rest with
    | nil => cases hx
    | cons c rest =>
      cases hx
      refine ⟨[some (.d (.str row)), some (.d (.str dn.eraseDups)), some (.d (.str [c]))], rfl, ?_⟩
      have hl := dups_len dn
      have hb : 1000 ≤ big := by decide
      have dl : dn.length ≤ 12 := by rw [hr, List.length_append] at h; omega
      unfold l__law_colours_1
      by_cases hc : c ∈ dn
      · have hc' : c ∈ dn.eraseDups := List.mem_eraseDups.mpr hc
        have hb2 : dn.eraseDups.length ≤ big := by omega
        simp [hc', hb2]
        exact ⟨dn ++ [c], rest, by simp [hr], rfl, by rw [dups_in hc]⟩
      · have hc' : c ∉ dn.eraseDups := fun z => hc (List.mem_eraseDups.mp z)
        simp [hc']
        refine ⟨by omega, dn ++ [c], rest, by simp [hr], rfl, by rw [dups_out hc]⟩
  · rintro s M' ⟨dn, rest, z, hr, hx, rfl, rfl⟩
    cases rest with
    | cons c rest => cases hx
    | nil =>
      rw [List.append_nil] at hr
      subst hr
      simp; exact k
theorem nm_at {t : List Char} (h : Cols t) {c : Char} (hc : c ∈ t) : at_ cols (fs t.eraseDups c : Int) = some (nmC t c) := by
  have h := fs_six' h hc
  rw [at_of]
  unfold nmC
  rw [List.getElem?_eq_getElem (show _ < cols.length from h)]; rfl
theorem law_named_ok {t : List Char} (h : Cols t) (hl : t.length ≤ 12) (M : Mem) {P : KV} (k : P (.d (.str (nm t))) M) : Ev (g__law_named [.d (.str t)] M) P := by
  unfold g__law_named
  rw [Ev_G1]
  simp
  refine law_colours_ok t hl M ?_
  simp
  refine Ev.compMap (nmD t) _ _ (fun x hx => ?_) ?_
  · obtain ⟨c, hc, rfl⟩ := List.mem_map.mp hx
    obtain ⟨h1, _, _⟩ := fs_ok (List.mem_eraseDups.mpr hc)
    have h2 := nm_at h hc
    simp [e__law_named_1, h1]
    have h2' : at_ ['a', 'b', 'c', 'd', 'e', 'f'] (fs t.eraseDups c : Int) = some (nmC t c) := h2
    simp [h2', nmD]
  · have e : (t.map fun c => D.str [c]).map (nmD t) = (nm t).map ch := by unfold nm; rw [List.map_map, List.map_map]; rfl
    have j := join_ch (nm t) (by rw [nm_len]; omega)
    rw [e]
    simp only [kLc2_ap, kCons_ap, Ev_nil, kCons2_ap]
    simp [-List.map_map, j]; exact k
theorem named_by_ok {t : List Char} (h : Cols t) (hl : t.length ≤ 12) (M : Mem) {P : KV} (k : P (.d (.str (nm t))) M) : Ev (g_named_by [.d (.str t)] M) P := by
  unfold g_named_by
  rw [Ev_G1]
  simp
  refine colours_by_ok t (by omega) M ?_
  simp
  refine Ev.compMap (nmD t) _ _ (fun x hx => ?_) ?_
  · obtain ⟨c, hc, rfl⟩ := List.mem_map.mp hx
    obtain ⟨h1, _, _⟩ := fs_ok (List.mem_eraseDups.mpr hc)
    have h2 := nm_at h hc
    simp [e_named_by_1, h1]
    have h2' : at_ ['a', 'b', 'c', 'd', 'e', 'f'] (fs t.eraseDups c : Int) = some (nmC t c) := h2
    simp [h2', nmD]
  · have e : (t.map fun c => D.str [c]).map (nmD t) = (nm t).map ch := by unfold nm; rw [List.map_map, List.map_map]; rfl
    have j := join_ch (nm t) (by rw [nm_len]; omega)
    rw [e]
    simp only [kLc2_ap, kCons_ap, Ev_nil, kCons2_ap]
    simp [-List.map_map, j]; exact k
structure Pat (p : List Char) : Prop where
  cols : Cols p
  lo : 1 ≤ p.length
  hi : p.length ≤ 6
  nmd : nm p = p
theorem Pat.row {p : List Char} (h : Pat p) : Row p := ⟨by have := h.hi; omega, h.cols⟩
theorem Row.cols {r : List Char} (h : Row r) : Cols r := h.mem
theorem check_pattern_ok {p : List Char} (h : Pat p) (M : Mem) {P : KV} (k : P (.d .non) M) : Ev (g_check_pattern [.d (.str p)] M) P := by
  have h1 := h.lo
  have h2 := h.hi
  unfold g_check_pattern
  rw [Ev_G1]
  simp
  unfold g_is_patterned
  rw [Ev_G1]
  simp
  refine rowed_ok h.row M ?_
  have n1 : ¬ (6 < p.length) := by omega
  have n2 : ¬ (p.length = 0) := by omega
  simp
  unfold g_is_named
  have q1 : ¬ ((p.length : Int) < 1) := by omega
  have q2 : ¬ ((6 : Int) < (p.length : Int)) := by omega
  simp [q1, q2]
  rw [Ev_G1]
  simp
  refine ⟨by omega, named_by_ok h.cols (by omega) M ?_⟩
  simp [h.nmd]
  exact k
theorem check_row_pattern_ok {r p : List Char} (hr : Row r) (hp : Pat p) (M : Mem) {P : KV} (k : P (.d .non) M) : Ev (g_check_row_pattern [.d (.str r), .d (.str p)] M) P := by
  unfold g_check_row_pattern
  rw [Ev_G2]
  simp
  refine check_row_ok hr M ?_
  simp
  refine check_pattern_ok hp M ?_
  simp
  exact k
def nI (n : Nat) : D := .int (n : Int)
def tI (c : List Nat) : D := .tup (c.map nI)
def hldD (row pat : List Char) : List D := (hld row pat).map tI
theorem upto_get (n k : Nat) (h : k < n) : (upto n 0)[k]? = some (nI k) := by
  rw [upto_map, List.getElem?_map, List.getElem?_range h]
  show some (D.int (0 + (k : Int))) = _
  rw [Int.zero_add]; rfl
theorem pick_upto {n r : Nat} {c : List Nat} (h : c ∈ plc n r) : D.tup (pickD (upto n 0) c) = tI c := by
  obtain ⟨_, _, h3⟩ := (mem_plc n r c).mp h
  show D.tup _ = D.tup _
  congr 1
  unfold pickD
  refine List.map_congr_left fun k hk => ?_
  rw [upto_get n k (h3 k hk)]; rfl
theorem cho_ok {n r : Nat} (hn : n ≤ 12) (hr : r ≤ 6) : choD [.lst (upto n 0), .int (r : Int)] = some (.lst ((plc n r).map tI)) := by
  have hl : (upto n 0).length = n := upto_len n 0
  show (if (upto n 0).length ≤ 12 ∧ 0 ≤ (r : Int) ∧ (r : Int) ≤ 6 then some (D.lst ((plc (upto n 0).length (r : Int).toNat).map fun a => .tup (pickD (upto n 0) a))) else none) = _
  rw [hl, if_pos ⟨hn, by omega, by omega⟩, Int.toNat_natCast]
  congr 2
  exact List.map_congr_left fun c hc => pick_upto hc
theorem socks_at_ok {row : List Char} {c : List Nat} (h3 : ∀ x ∈ c, x < row.length) (hc : c.length ≤ 6) (M : Mem) {P : KV} (k : P (.d (.str (socks row c))) M) : Ev (g_socks_at [.d (.str row), .d (tI c)] M) P := by
  unfold g_socks_at
  rw [Ev_G2]
  unfold tI
  simp
  refine Ev.compMap (fun x => match x with | .int i => .str [row[i.toNat]?.getD 'a'] | y => y) _ _ (fun x hx => ?_) ?_
  · obtain ⟨i, hi, rfl⟩ := List.mem_map.mp hx
    have a : at_ row (i : Int) = some (row[i]?.getD 'a') := by
      rw [at_of, List.getElem?_eq_getElem (h3 i hi)]; rfl
    unfold nI
    simp only [Int.toNat_natCast]
    generalize row[i]?.getD 'a' = q at a
    simp [e_socks_at_1, a]
  · have e : (c.map nI).map (fun x => match x with | .int i => D.str [row[i.toNat]?.getD 'a'] | y => y) = (socks row c).map ch := by
      unfold socks
      rw [List.map_map, List.map_map]
      exact List.map_congr_left fun i _ => rfl
    have j := join_ch (socks row c) (by rw [socks_len]; omega)
    rw [e]
    simp only [kLc2_ap, kCons_ap, Ev_nil, kCons2_ap]
    simp [-List.map_map, j]; exact k
def hlQ (row pat : List Char) (x : D) : Option D := match x with
  | .tup l => if nm (socks row (l.map fun y => match y with | .int i => i.toNat | _ => 0)) = pat then some x else none
  | _ => none
theorem hlQ_t (row pat : List Char) (c : List Nat) : hlQ row pat (tI c) = if nm (socks row c) = pat then some (tI c) else none := by
  have e : (c.map nI).map (fun y => match y with | .int i => i.toNat | _ => 0) = c := by
    rw [List.map_map]
    conv => rhs; rw [← List.map_id c]
    exact List.map_congr_left fun i _ => rfl
  show (if nm (socks row ((c.map nI).map fun y => match y with | .int i => i.toNat | _ => 0)) = pat then _ else _) = _
  rw [e]
theorem hlQ_map (row pat : List Char) : ∀ l : List (List Nat), (l.map tI).filterMap (hlQ row pat) = (l.filter fun c => decide (nm (socks row c) = pat)).map tI
  | [] => rfl
  | c :: l => by
    rw [List.map_cons, List.filterMap_cons, List.filter_cons, hlQ_t, hlQ_map row pat l]
    by_cases h : nm (socks row c) = pat
    · rw [if_pos h, if_pos (decide_eq_true h)]; rfl
    · rw [if_neg h, if_neg (by simpa using h)]
theorem places_held_ok {row pat : List Char} (hr : Row row) (hp : pat.length ≤ 6) (M : Mem) {P : KV} (k : P (.d (.lst (hldD row pat))) M) : Ev (g_places_held [.d (.str row), .d (.str pat)] M) P := by
  have hl := hr.len
  unfold g_places_held
  rw [Ev_G2]
  have e1 : lrD (.int (row.length : Int)) = some (.lst (upto row.length 0)) := by
    show (if -16777216 ≤ (row.length : Int) ∧ (row.length : Int) ≤ 16777216 then some (D.lst (upto (row.length : Int).toNat 0)) else none) = _
    rw [if_pos (by omega), Int.toNat_natCast]
  have e2 := cho_ok hl hp
  simp [e1, e2]
  refine Ev.compFilter (hlQ row pat) _ _ (fun x hx => ?_) ?_
  · obtain ⟨c, hc, rfl⟩ := List.mem_map.mp hx
    obtain ⟨g1, g2, g3⟩ := (mem_plc _ _ c).mp hc
    have hs : Cols (socks row c) := fun a ha => hr.mem a (socks_mem g3 a ha)
    rw [hlQ_t]
    simp [i_places_held_1]
    refine socks_at_ok g3 (by omega) M ?_
    simp
    refine named_by_ok hs (by rw [socks_len]; omega) M ?_
    by_cases q : nm (socks row c) = pat <;> simp [q]
  · rw [hlQ_map]
    simp
    exact k
theorem ne_nil_tup (c : List Nat) : cmpV .ne (.tup (c.map nI)) (.tup []) = some (.bl (!c.isEmpty)) := by
  have sh : ∀ c : List Nat, D.shals 59 (c.map nI) = true := fun c => by
    induction c with
    | nil => rfl
    | cons x l ih => show (true && D.shals 59 (l.map nI)) = true; rw [ih]; rfl
  show ((if ((false && false) || (D.shals 59 (c.map nI) && D.shals 59 [])) = true then some (D.eqvs (c.map nI) []) else none).map (!·)).map D.bl = _
  rw [sh, if_pos (show (false && false || true && D.shals 59 []) = true from rfl)]
  cases c <;> rfl
end K07
end P_K07N
section P_K07R
set_option Elab.async false
set_option linter.all false
set_option maxRecDepth 100000
namespace K07
open DL
/-! ### drawn rows -/
def un : D → Char
  | .str [c] => c
  | _ => 'a'
theorem un_ch : ∀ s : List Char, (s.map ch).map un = s
  | [] => rfl
  | c :: s => by show c :: (s.map ch).map un = _; rw [un_ch s]
theorem sorted_ch (s : List Char) : ∃ l : List Char, l.Perm s ∧ (s.map ch).mergeSort leP = l.map ch := by
  have p := List.mergeSort_perm (s.map ch) leP
  refine ⟨((s.map ch).mergeSort leP).map un, ?_, ?_⟩
  · have := p.map un
    rwa [un_ch] at this
  · rw [List.map_map]
    symm
    have : ∀ x ∈ (s.map ch).mergeSort leP, (ch ∘ un) x = x := fun x hx => by
      obtain ⟨c, _, rfl⟩ := List.mem_map.mp (p.mem_iff.mp hx)
      rfl
    rw [List.map_congr_left this]; exact List.map_id' _
theorem sorted_ok {s : List Char} (h : s.length ≤ 1000) : ∃ l : List Char, l.Perm s ∧ sortedSx [.str s] = some (.lst (l.map ch)) := by
  obtain ⟨l, p, e⟩ := sorted_ch s
  exact ⟨l, p, by
    show (if s.length ≤ 1000 then some (D.lst ((s.map ch).mergeSort leP)) else none) = _
    rw [if_pos h, e]⟩
theorem Well.self' {M : Mem} {n : Nat} (w : Well M n) : ∃ o, M = M.set n o ∧ Well (M.set n o) n := by
  obtain ⟨o, e⟩ := w.self
  exact ⟨o, e, by rw [← e]; exact w⟩
theorem cols_comp {n : Nat} {many : Int} (h1 : 1 ≤ many) (h6 : many ≤ 6) (s1 s2 s3 s5 s6 : Option Val) (xs : List D) {M : Mem} (w : Well M n) {P : List D → Mem → Prop}
    (k : ∀ (cs : List Char) (o : MO), cs.length = xs.length → (∀ c ∈ cs, c ∈ cols) → Well (M.set n o) n → P (cs.map ch) (M.set n o)) :
    Ev (compLoop (evBlk [6] (.n 6) ifs0 e__law_drawn_row_1 [some (.ref n), s1, s2, s3, some (.d (.int many)), s5, s6]) xs M) P := by
  refine (Ev.comp (P := P) (fun ys zs M' => ∃ (cs : List Char) (o : MO), zs = cs.map ch ∧ cs.length + ys.length = xs.length ∧ (∀ c ∈ cs, c ∈ cols) ∧ M' = M.set n o ∧ Well (M.set n o) n) xs [] M ?_ ?_ ?_)
  · obtain ⟨o, e, w'⟩ := w.self'
    exact ⟨[], o, rfl, by simp, by simp, e, w'⟩
  · rintro x ys zs M' ⟨cs, o, rfl, hl, hc, rfl, w'⟩
    simp [e__law_drawn_row_1]
    refine take_ok w' (by omega) (by omega) fun d o2 d0 d1 w2 => ?_
    have dl : d.toNat < cols.length := by show _ < 6; omega
    have e : at_ cols d = some cols[d.toNat] := by rw [at_nat _ d0, List.getElem?_eq_getElem dl]
    have e' : at_ ['a', 'b', 'c', 'd', 'e', 'f'] d = some cols[d.toNat] := e
    simp at w2
    simp [e']
    refine ⟨cs ++ [cols[d.toNat]], by simp [ch], by simp at hl ⊢; omega, fun c hc' => ?_, o2, rfl, w2⟩
    have key : c ∈ cols := by
      rcases List.mem_append.mp hc' with hc' | hc'
      · simpa using hc c hc'
      · rw [List.mem_singleton.mp hc']; exact List.getElem_mem _
    simpa using key
  · rintro zs M' ⟨cs, o, rfl, hl, hc, rfl, w'⟩
    exact k cs o (by simpa using hl) hc w'
theorem rng_len (m : Int) (h0 : 0 ≤ m) (h1 : m ≤ 1000) : ∃ l, rngD [.int m] = some l ∧ l.length = m.toNat := by
  rw [rngD_1, if_pos (by omega)]
  exact ⟨_, rfl, by rw [upto_map, List.length_map, List.length_range]⟩
theorem drawn_row_ok {n : Nat} {M : Mem} (w : Well M n) {most : Int} (h0 : 0 ≤ most) (h1 : most ≤ 12) {P : KV} (k : ∀ (row : List Char) (o : MO), Row row → (row.length : Int) ≤ most → Well (M.set n o) n → P (.d (.str row)) (M.set n o)) :
    Ev (g__law_drawn_row [.ref n, .d (.int most)] M) P := by
  unfold g__law_drawn_row
  rw [Ev_G2]
  have ht := @set_take M n
  have hb : 1000 ≤ big := by decide
  simp
  refine take_ok (many := 6) w (by decide) (by decide) fun way o1 a0 a1 w => ?_
  simp
  refine take_ok (many := most + 1) w (by omega) (by omega) fun size o2 b0 b1 w => ?_
  simp at w
  simp
  refine take_ok (many := 6) w (by decide) (by decide) fun many o3 c0 c1 w => ?_
  simp at w
  obtain ⟨rl, hr, hrl⟩ := rng_len size b0 (by omega)
  simp [-rngD_1, hr]
  refine cols_comp (by omega) (by omega) _ _ _ _ _ rl w fun cs o4 hl hm w => ?_
  simp at w
  have hlen : cs.length = size.toNat := by omega
  have j := join_ch cs (by omega)
  obtain ⟨l, hp, hs⟩ := sorted_ok (s := cs) (by omega)
  have jl := join_ch l (by rw [hp.length_eq]; omega)
  have lm : ∀ c ∈ l, c ∈ cols := fun c hc => hm c (hp.mem_iff.mp hc)
  have ll : l.length = size.toNat := by rw [hp.length_eq]; exact hlen
  simp [j]
  have rr : Row cs := ⟨by omega, hm⟩
  have rl' : Row l := ⟨by omega, lm⟩
  by_cases hw0 : way = 0
  · subst hw0
    simp [hs, jl, ht]
    exact k l o4 rl' (by omega) w
  · by_cases hw1 : way = 1 ∧ 1 < size
    · obtain ⟨rfl, hs1⟩ := hw1
      simp [hs, jl, hs1]
      refine take_ok (many := size) w (by omega) (by omega) fun at' o5 d0 d1 w => ?_
      simp at w
      have rr2 : Row (l.drop at'.toNat ++ l.take at'.toNat) := ⟨by rw [List.length_append, List.length_drop, List.length_take]; omega, fun c hc => by
        rcases List.mem_append.mp hc with hc | hc
        · exact lm c (List.mem_of_mem_drop hc)
        · exact lm c (List.mem_of_mem_take hc)⟩
      simp [cut_take _ d0, cut_drop _ d0, ht]
      exact ⟨by omega, k _ o5 rr2 (by rw [List.length_append, List.length_drop, List.length_take]; omega) w⟩
    · by_cases hw2 : way = 1
      · have hs2 : ¬ 1 < size := fun z => hw1 ⟨hw2, z⟩
        simp [hw0, hw2, hs2, ht]
        exact k cs o4 rr (by omega) w
      · simp [hw0, hw2, ht]
        exact k cs o4 rr (by omega) w
end K07
end P_K07R
section P_K07S
set_option Elab.async false
set_option linter.all false
set_option maxRecDepth 100000
namespace K07
open DL
/-! ### values near to a row -/
inductive Bv : D → Prop
  | str (t : List Char) : Bv (.str t)
  | tup (l : List (List Char)) : Bv (.tup (l.map D.str))
  | lst (l : List (List Char)) : Bv (.lst (l.map D.str))
  | dic (t : List Char) (i : Int) : Bv (.dic [(.str t, .int i)])
  | non : Bv .non
  | int (i : Int) : Bv (.int i)
  | bl (b : Bool) : Bv (.bl b)
  | d0 : Bv (.dic [])
  | t1 : Bv (.tup [.int 1, .non])
  | l1 (i : Int) : Bv (.lst [.int i])
  | t2 (i : Int) : Bv (.tup [.tup [], .lst [.int i]])
theorem same_strs (n : Nat) (l : List (List Char)) : ∀ x ∈ l.map D.str, Same1 (n + 1) x := fun x hx => by
  obtain ⟨t, _, rfl⟩ := List.mem_map.mp hx
  exact is_str n t
theorem is_dic0 (n : Nat) : Same1 (n + 1) (.dic []) := by
  intro M P k
  have e : eqC (.dic []) (.dic []) = some (.bl true) := rfl
  rw [g__law_is, Ev_G2]
  simp [e]
  simpa using k
theorem same_bv {x : D} (h : Bv x) (n : Nat) : Same1 (n + 4) x := by
  cases h with
  | str t => exact is_str _ t
  | tup l => exact is_tup (n + 3) _ (same_strs (n + 2) l)
  | lst l => exact is_lst (n + 2) _ (same_strs (n + 1) l)
  | dic t i => exact is_dic1 _ t i
  | non => exact is_non _
  | int i => exact is_int _ i
  | bl b => exact is_bl _ b
  | d0 => exact is_dic0 _
  | t1 =>
    refine is_tup (n + 3) _ fun x hx => ?_
    simp at hx
    rcases hx with rfl | rfl
    · exact is_int _ 1
    · exact is_non _
  | l1 i =>
    refine is_lst (n + 2) _ fun x hx => ?_
    rw [List.mem_singleton.mp hx]; exact is_int _ i
  | t2 i =>
    refine is_tup (n + 3) _ fun x hx => ?_
    simp at hx
    rcases hx with rfl | rfl
    · exact is_tup (n + 2) _ fun x hx => nomatch hx
    · refine is_lst (n + 1) _ fun x hx => ?_
      rw [List.mem_singleton.mp hx]; exact is_int _ i
def inB (c : Char) : Bool := cols.contains c
def rowedB (s : List Char) : Bool := s.all inB && decide (s.length ≤ 12)
def rowedD : D → Bool
  | .str s => rowedB s
  | _ => false
theorem allBl_map {α : Type} (p : α → Bool) : ∀ l : List α, allBl (l.map fun c => D.bl (p c)) = some (l.all p)
  | [] => rfl
  | c :: l => by
    have ih := allBl_map p l
    simp [allBl, ih]
def inF : D → D
  | .str [c] => .bl (inB c)
  | x => x
theorem is_rowed_bv {x : D} (h : Bv x) (M : Mem) {P : KV} (k : P (.d (.bl (rowedD x))) M) : Ev (g_is_rowed [.d x] M) P := by
  unfold g_is_rowed
  rw [Ev_G1]
  simp
  unfold g_is_text_of
  rw [Ev_G2]
  cases h with
  | str t =>
    simp
    refine Ev.compMap inF _ _ (fun x hx => ?_) ?_
    · obtain ⟨c, _, rfl⟩ := List.mem_map.mp hx
      simp [e_is_text_of_1, inF]
      simp [inB]
    · have e : (t.map fun c => D.str [c]).map inF = t.map fun c => D.bl (inB c) := by rw [List.map_map]; rfl
      have e2 := allBl_map inB t
      rw [e]
      simp [-List.map_map, e2]
      have rd : rowedD (.str t) = (t.all inB && decide (t.length ≤ 12)) := rfl
      by_cases ha : t.all inB = true
      · rw [if_pos (by simpa using ha)]
        rw [rd, ha, Bool.true_and] at k
        have : (!decide ((12 : Int) < (t.length : Int))) = decide (t.length ≤ 12) := by
          rw [Bool.eq_iff_iff]; simp; omega
        rw [this]; exact k
      · rw [if_neg (by simpa using ha)]
        rw [rd, (Bool.not_eq_true _).mp ha, Bool.false_and] at k
        exact k
  | tup l => simp; exact k
  | lst l => simp; exact k
  | dic t i => simp; exact k
  | non => simp; exact k
  | int i => simp; exact k
  | bl b => simp; exact k
  | d0 => simp; exact k
  | t1 => simp; exact k
  | l1 i => simp; exact k
  | t2 i => simp; exact k
def outQ (x : D) : Option D := match x with
  | .str [c] => if inB c then none else some x
  | _ => some x
theorem outQ_map : ∀ t : List Char, (t.map fun c => D.str [c]).filterMap outQ = (t.filter fun c => !inB c).map fun c => D.str [c]
  | [] => rfl
  | c :: t => by
    rw [List.map_cons, List.filterMap_cons, List.filter_cons]
    cases h : inB c with
    | true => rw [show outQ (.str [c]) = none from if_pos h, outQ_map t]; rfl
    | false => rw [show outQ (.str [c]) = some (.str [c]) from if_neg (by rw [h]; decide), outQ_map t]; rfl
theorem eq_nil_strs (l : List Char) : cmpV .eq (.lst (l.map fun c => D.str [c])) (.lst []) = some (.bl l.isEmpty) := by
  have sh : ∀ l : List Char, D.shals 59 (l.map fun c => D.str [c]) = true := fun l => by
    induction l with
    | nil => rfl
    | cons x l ih => show (true && D.shals 59 (l.map fun c => D.str [c])) = true; rw [ih]; rfl
  show (if ((false && false) || (D.shals 59 (l.map fun c => D.str [c]) && D.shals 59 [])) = true then some (D.eqvs (l.map fun c => D.str [c]) []) else none).map D.bl = _
  rw [sh, if_pos (show (false && false || true && D.shals 59 []) = true from rfl)]
  cases l <;> rfl
theorem is_row_bv {x : D} (h : Bv x) (M : Mem) {P : KV} (k : P (.d (.bl (rowedD x))) M) : Ev (g__law_is_row [.d x] M) P := by
  unfold g__law_is_row
  rw [Ev_G1]
  cases h with
  | str t =>
    simp
    by_cases hl : t.length < 13
    · have hl' : ((t.length : Nat) : Int) < 13 := by omega
      simp [hl']
      refine Ev.compFilter outQ _ _ (fun x hx => ?_) ?_
      · obtain ⟨c, _, rfl⟩ := List.mem_map.mp hx
        have q : outQ (.str [c]) = if inB c then none else some (.str [c]) := rfl
        rw [q]
        have e : inB c = cols.contains c := rfl
        cases h : inB c with
        | true =>
          rw [h] at e
          simp [i__law_is_row_1]
          simp at e
          rcases e with rfl | rfl | rfl | rfl | rfl | rfl <;> simp
        | false =>
          rw [h] at e
          simp [i__law_is_row_1]
          simpa using e
      · rw [outQ_map]
        simp [-List.map_map, eq_nil_strs]
        have rd : rowedD (.str t) = (t.filter fun c => !inB c).isEmpty := by
          show (t.all inB && decide (t.length ≤ 12)) = _
          rw [decide_eq_true (show t.length ≤ 12 by omega), Bool.and_true, Bool.eq_iff_iff]
          simp
        rw [rd] at k
        exact k
    · have hl' : ¬ ((t.length : Nat) : Int) < 13 := by omega
      simp [hl']
      have : rowedD (.str t) = false := by show (t.all inB && decide (t.length ≤ 12)) = false; rw [show decide (t.length ≤ 12) = false from decide_eq_false (by omega), Bool.and_false]
      rw [this] at k
      exact k
  | tup l => simp; exact k
  | lst l => simp; exact k
  | dic t i => simp; exact k
  | non => simp; exact k
  | int i => simp; exact k
  | bl b => simp; exact k
  | d0 => simp; exact k
  | t1 => simp; exact k
  | l1 i => simp; exact k
  | t2 i => simp; exact k
theorem pick_ok {M : Mem} {n : Nat} (w : Well M n) {l : List D} (h1 : 0 < l.length) (h2 : l.length < 1000) {P : KV}
    (k : ∀ (x : D) (o : MO), x ∈ l → Well (M.set n o) n → P (.d x) (M.set n o)) : Ev (g__law_pick [.ref n, .d (.lst l)] M) P := by
  unfold g__law_pick
  rw [Ev_G2]
  have ht := @set_take M n
  simp
  refine take_ok w (by omega) (by omega) fun d o d0 d1 w' => ?_
  have e : at_ l d = some l[d.toNat] := by rw [at_nat _ d0, List.getElem?_eq_getElem (by omega)]
  simp [e, ht]
  exact k _ _ (List.getElem_mem _) w'
end K07
end P_K07S
section P_K07Q
set_option Elab.async false
set_option linter.all false
set_option maxRecDepth 100000
namespace K07
open DL
open CbK (plc)
/-! ### the least of some tuples -/
def tk (c : List Nat) : List (Int ⊕ List Nat) := PySem.W.keyToksAll (toPys (c.map nI))
theorem tk_cons (x : Nat) (c : List Nat) : tk (x :: c) = .inl 1 :: .inl (x : Int) :: tk c := rfl
theorem tk_nil : tk [] = [.inl 0] := rfl
theorem lex_c (x y : Int) (r t : List (Int ⊕ List Nat)) : PyProof.Rows.lexLt PyProof.Rows.itemOrd (.inl x :: r) (.inl y :: t) = (decide (x < y) || (!decide (y < x) && PyProof.Rows.lexLt PyProof.Rows.itemOrd r t)) := rfl
theorem lt_tk : ∀ {a b : List Nat}, ltN a b = true → PyProof.Rows.lexLt PyProof.Rows.itemOrd (tk b) (tk a) = false
  | [], [], h => by cases h
  | [], y :: ys, _ => by rw [tk_cons, tk_nil, lex_c]; rfl
  | _ :: _, [], h => by cases h
  | x :: xs, y :: ys, h => by
    rw [tk_cons, tk_cons, lex_c, lex_c]
    unfold ltN at h
    by_cases e : x = y
    · subst e
      rw [if_pos rfl] at h
      rw [lt_tk h]
      simp
    · rw [if_neg e, decide_eq_true_eq] at h
      have h1 : ¬ ((y : Int) < (x : Int)) := by omega
      have h2 : (x : Int) < (y : Int) := by omega
      simp [h1, h2]
theorem foldT_first : ∀ (l : List (List Nat)) (a : List Nat), (∀ b ∈ l, ltN a b = true) → foldT (tI a) (l.map tI) = tI a
  | [], _, _ => rfl
  | b :: l, a, h => by
    show foldT (if PySem.W.dataLt (toPy (tI b)) (toPy (tI a)) then tI b else tI a) (l.map tI) = tI a
    have e : PySem.W.dataLt (toPy (tI b)) (toPy (tI a)) = false := lt_tk (h b (List.mem_cons_self ..))
    rw [e, if_neg Bool.false_ne_true]
    exact foldT_first l a fun c hc => h c (List.mem_cons_of_mem _ hc)
theorem hld_sorted (row pat : List Char) : (hld row pat).Pairwise fun a b => ltN a b = true := (plc_sorted _ _).filter _
def firstD (row pat : List Char) : D := match hld row pat with
  | [] => .non
  | c :: _ => tI c
theorem isIT_tI (c : List Nat) : isIT c.length (tI c) = true := by
  show (decide ((c.map nI).length = c.length) && (c.map nI).all isI) = true
  rw [List.length_map, decide_eq_true rfl, Bool.true_and]
  exact List.all_eq_true.mpr fun x hx => by
    obtain ⟨i, _, rfl⟩ := List.mem_map.mp hx; rfl
theorem hld_len {row pat : List Char} {c : List Nat} (h : c ∈ hld row pat) : c.length = pat.length := plc_len (List.mem_filter.mp h).1
theorem min_ok (row pat : List Char) : minT [.lst (hldD row pat)] [.non] = some (firstD row pat) := by
  have hs := hld_sorted row pat
  have hl : ∀ c ∈ hld row pat, c.length = pat.length := fun c hc => hld_len hc
  unfold hldD firstD
  cases hh : hld row pat with
  | nil => rfl
  | cons c l =>
    rw [hh] at hs hl
    have hc := hl c (List.mem_cons_self ..)
    show (if (D.tup (c.map nI) :: l.map tI).all (isIT (c.map nI).length) = true then some (foldT (.tup (c.map nI)) (l.map tI)) else none) = _
    rw [List.length_map, if_pos]
    · exact congrArg some (foldT_first l c (List.pairwise_cons.mp hs).1)
    · refine List.all_eq_true.mpr fun x hx => ?_
      rcases List.mem_cons.mp hx with rfl | hx
      · exact isIT_tI c
      · obtain ⟨d, hd, rfl⟩ := List.mem_map.mp hx
        have e := hl d (List.mem_cons_of_mem _ hd)
        rw [hc, ← e]; exact isIT_tI d
theorem shal_tI : ∀ l : List (List Nat), D.shals 59 (l.map tI) = true := fun l => by
  have sh : ∀ c : List Nat, D.shals 58 (c.map nI) = true := fun c => by
    induction c with
    | nil => rfl
    | cons x l ih => show (true && D.shals 58 (l.map nI)) = true; rw [ih]; rfl
  induction l with
  | nil => rfl
  | cons c l ih => show (D.shals 58 (c.map nI) && D.shals 59 (l.map tI)) = true; rw [ih, sh]; rfl
theorem ne_held (row pat : List Char) : cmpV .ne (.lst (hldD row pat)) (.lst []) = some (.bl (!(hld row pat).isEmpty)) := by
  unfold hldD
  show ((if ((false && false) || (D.shals 59 ((hld row pat).map tI) && D.shals 59 [])) = true then some (D.eqvs ((hld row pat).map tI) []) else none).map (!·)).map D.bl = _
  rw [shal_tI, if_pos (show (false && false || true && D.shals 59 []) = true from rfl)]
  cases hld row pat <;> rfl
theorem eq_held (row pat : List Char) : cmpV .eq (.lst (hldD row pat)) (.lst []) = some (.bl (hld row pat).isEmpty) := by
  unfold hldD
  show ((if ((false && false) || (D.shals 59 ((hld row pat).map tI) && D.shals 59 [])) = true then some (D.eqvs ((hld row pat).map tI) []) else none)).map D.bl = _
  rw [shal_tI, if_pos (show (false && false || true && D.shals 59 []) = true from rfl)]
  cases hld row pat <;> rfl
theorem does_hold_ok {row pat : List Char} (hr : Row row) (hp : Pat pat) (M : Mem) {P : KV} (k : P (.d (.bl (!(hld row pat).isEmpty))) M) : Ev (g_does_hold [.d (.str row), .d (.str pat)] M) P := by
  have z := ne_held row pat
  unfold g_does_hold
  rw [Ev_G2]
  simp
  refine check_row_pattern_ok hr hp M ?_
  simp
  unfold g_does_hold_by
  rw [Ev_G2]
  simp
  refine places_held_ok hr hp.hi M ?_
  simp [z]
  exact k
theorem first_places_ok {row pat : List Char} (hr : Row row) (hp : Pat pat) (M : Mem) {P : KV} (k : P (.d (firstD row pat)) M) : Ev (g_first_places [.d (.str row), .d (.str pat)] M) P := by
  have z := min_ok row pat
  unfold g_first_places
  rw [Ev_G2]
  simp
  refine check_row_pattern_ok hr hp M ?_
  simp
  unfold g_first_places_by
  rw [Ev_G2]
  simp
  refine places_held_ok hr hp.hi M ?_
  simp [z]
  exact k
theorem hold_count_ok {row pat : List Char} (hr : Row row) (hp : Pat pat) (M : Mem) {P : KV} (k : P (.d (nI (hld row pat).length)) M) : Ev (g_hold_count [.d (.str row), .d (.str pat)] M) P := by
  have z : ((hldD row pat).length : Int) = ((hld row pat).length : Int) := by unfold hldD; rw [List.length_map]
  unfold g_hold_count
  rw [Ev_G2]
  simp
  refine check_row_pattern_ok hr hp M ?_
  simp
  refine places_held_ok hr hp.hi M ?_
  simp [z]
  exact k
theorem same_first (n : Nat) (row pat : List Char) : Same1 (n + 2) (firstD row pat) := by
  unfold firstD
  split
  · exact is_non _
  · refine is_tup (n + 1) _ fun y hy => ?_
    obtain ⟨i, _, rfl⟩ := List.mem_map.mp hy
    exact is_int n _
theorem row_rev {r : List Char} (h : Row r) : Row r.reverse := ⟨by rw [List.length_reverse]; exact h.len, fun c hc => h.mem c (List.mem_reverse.mp hc)⟩
theorem named_ok' {row : List Char} (h : Row row) (M : Mem) {P : KV} (k : P (.d (.str (nm row))) M) : Ev (g_named [.d (.str row)] M) P := by
  unfold g_named
  rw [Ev_G1]
  simp
  refine check_row_ok h M ?_
  simp
  refine named_by_ok h.cols h.len M ?_
  simp
  exact k
theorem nm_row' {row : List Char} (h : Row row) : Row (nm row) := ⟨by rw [nm_len]; exact h.len, nm_cols h.cols⟩
theorem pat_nm {t : List Char} (h : Cols t) (h1 : 1 ≤ t.length) (h2 : t.length ≤ 6) : Pat (nm t) := ⟨nm_cols h, by rw [nm_len]; exact h1, by rw [nm_len]; exact h2, nm_nm h⟩
theorem row_app {row : List Char} (h : Row row) (hl : row.length ≤ 11) {x : Char} (hx : x ∈ cols) : Row (row ++ [x]) := ⟨by rw [List.length_append]; simp; omega, fun c hc => by
  rcases List.mem_append.mp hc with hc | hc
  · exact h.mem c hc
  · rw [List.mem_singleton.mp hc]; exact hx⟩
theorem row_cons {row : List Char} (h : Row row) (hl : row.length ≤ 11) {x : Char} (hx : x ∈ cols) : Row (x :: row) := ⟨by rw [List.length_cons]; omega, fun c hc => by
  rcases List.mem_cons.mp hc with rfl | hc
  · exact hx
  · exact h.mem c hc⟩
theorem ints_map : ∀ c : List Nat, (c.map nI).map intOf = c.map fun (n : Nat) => (n : Int)
  | [] => rfl
  | x :: c => by show (x : Int) :: (c.map nI).map intOf = _; rw [ints_map c]; rfl
end K07
end P_K07Q
section P_K07V
set_option Elab.async false
set_option linter.all false
set_option maxRecDepth 100000
namespace K07
open DL
open CbK (plc)
def grow (row : List Char) : List (List Char) := (cols.take (row.eraseDups.length + 1)).map fun c => row ++ [c]
def nrs : Nat → List (List Char)
  | 0 => [[]]
  | k + 1 => (nrs k).flatMap grow
theorem nrs_facts : ∀ k, k ≤ 4 → (nrs k).Nodup ∧ (nrs k).length ≤ 20 ∧ ∀ p ∈ nrs k, p.length = k ∧ (∀ c ∈ p, c ∈ cols) ∧ nm p = p := by
  have h0 : (nrs 0).Nodup ∧ (nrs 0).length ≤ 20 ∧ ∀ p ∈ nrs 0, p.length = 0 ∧ (∀ c ∈ p, c ∈ cols) ∧ nm p = p := by decide +kernel
  have h1 : (nrs 1).Nodup ∧ (nrs 1).length ≤ 20 ∧ ∀ p ∈ nrs 1, p.length = 1 ∧ (∀ c ∈ p, c ∈ cols) ∧ nm p = p := by decide +kernel
  have h2 : (nrs 2).Nodup ∧ (nrs 2).length ≤ 20 ∧ ∀ p ∈ nrs 2, p.length = 2 ∧ (∀ c ∈ p, c ∈ cols) ∧ nm p = p := by decide +kernel
  have h3 : (nrs 3).Nodup ∧ (nrs 3).length ≤ 20 ∧ ∀ p ∈ nrs 3, p.length = 3 ∧ (∀ c ∈ p, c ∈ cols) ∧ nm p = p := by decide +kernel
  have h4 : (nrs 4).Nodup ∧ (nrs 4).length ≤ 20 ∧ ∀ p ∈ nrs 4, p.length = 4 ∧ (∀ c ∈ p, c ∈ cols) ∧ nm p = p := by decide +kernel
  intro k hk
  have : k = 0 ∨ k = 1 ∨ k = 2 ∨ k = 3 ∨ k = 4 := by omega
  rcases this with rfl | rfl | rfl | rfl | rfl
  · exact h0
  · exact h1
  · exact h2
  · exact h3
  · exact h4
theorem nrs_pat {k : Nat} (h1 : 1 ≤ k) (hk : k ≤ 4) {p : List Char} (h : p ∈ nrs k) : Pat p := by
  obtain ⟨_, _, f⟩ := nrs_facts k hk
  obtain ⟨a, b, c⟩ := f p h
  exact ⟨b, by omega, by omega, c⟩
theorem place_app {α : Type} {p : α → Bool} : ∀ {l m : List α} {i : Nat}, place p l = some i → place p (l ++ m) = some i
  | [], _, _, h => by cases h
  | a :: l, m, i, h => by
    unfold place at h
    show (if p a then some 0 else (place p (l ++ m)).map (· + 1)) = some i
    by_cases e : p a = true
    · rw [if_pos e] at h ⊢; exact h
    · rw [if_neg e] at h ⊢
      obtain ⟨j, hj, e2⟩ := Option.map_eq_some_iff.mp h
      rw [place_app hj, ← e2]; rfl
theorem nm_snoc (t : List Char) (c : Char) : nm (t ++ [c]) = nm t ++ [nmC (t ++ [c]) c] := by
  unfold nm
  rw [List.map_append]
  congr 1
  refine List.map_congr_left fun a ha => ?_
  unfold nmC fs
  congr 2
  have hm := List.mem_eraseDups.mpr ha
  obtain ⟨n, e⟩ := place_some (p := (· == a)) ⟨a, hm, beq_self_eq_true a⟩
  by_cases hc : c ∈ t
  · rw [dups_in hc]
  · rw [dups_out hc, place_app e, e]
theorem nm_mem : ∀ (n : Nat) (t : List Char), t.length = n → Cols t → nm t ∈ nrs n
  | 0, t, h, _ => by rw [List.eq_nil_of_length_eq_zero h]; exact List.mem_singleton_self _
  | n + 1, t, h, hc => by
    rcases List.eq_nil_or_concat t with rfl | ⟨u, c, rfl⟩
    · cases h
    rw [List.concat_eq_append] at h hc ⊢
    have hu : Cols u := fun a ha => hc a (List.mem_append_left _ ha)
    have ih := nm_mem n u (by simpa using h) hu
    rw [nm_snoc]
    show _ ∈ (nrs n).flatMap grow
    refine List.mem_flatMap.mpr ⟨nm u, ih, List.mem_map.mpr ⟨_, ?_, rfl⟩⟩
    have ek : (nm u).eraseDups.length = u.eraseDups.length := by
      unfold nm
      rw [dups_map _ u rfl (nm_inj hu), List.length_map]
    rw [ek]
    have hcm : c ∈ u ++ [c] := by simp
    have h6 := fs_six' hc hcm
    have hi : fs (u ++ [c]).eraseDups c < u.eraseDups.length + 1 := by
      obtain ⟨_, g, _⟩ := fs_ok (List.mem_eraseDups.mpr hcm)
      have g1 := (List.getElem?_eq_some_iff.mp g).1
      by_cases hcu : c ∈ u
      · rw [dups_in hcu] at g1 ⊢; omega
      · rw [dups_out hcu, List.length_append] at g1
        rw [dups_out hcu]
        simpa using g1
    unfold nmC
    refine List.mem_of_getElem? (i := fs (u ++ [c]).eraseDups c) ?_
    rw [List.getElem?_take, if_pos hi, List.getElem?_eq_getElem (show _ < cols.length from h6)]; rfl
theorem grow_ok {row : List Char} (hr : Cols row) (hl : row.length ≤ 3) (s0 s1 s2 s5 : Option Val) {acc : List D} (ha : acc.length ≤ 10000) (M : Mem) {P : KF}
    (k : P (.nx [s0, s1, s2, some (.d (.lst (acc ++ (grow row).map D.str))), some (.d (.str row)), s5]) M) : Ev (l__law_named_rows_1 [s0, s1, s2, some (.d (.lst acc)), some (.d (.str row)), s5] M) P := by
  have hbb : 20000 ≤ big := by decide
  have hk := dups_len row
  unfold l__law_named_rows_1
  simp
  refine law_colours_ok row (by omega) M ?_
  have ec : cut cols none (some ((row.eraseDups.length : Int) + 1)) = cols.take (row.eraseDups.length + 1) := by
    rw [cut_take _ (by omega)]; congr 1
  simp [ec]
  have et : (cols.map ch).take (row.eraseDups.length + 1) = (cols.take (row.eraseDups.length + 1)).map ch := List.map_take.symm
  have et2 : (D.str ['a'] :: List.take row.eraseDups.length [D.str ['b'], D.str ['c'], D.str ['d'], D.str ['e'], D.str ['f']]) = (cols.take (row.eraseDups.length + 1)).map ch := et
  rw [et2]
  refine Ev.compMap (fun x => match x with | .str t => .str (row ++ t) | y => y) _ _ (fun x hx => ?_) ?_
  · obtain ⟨c, _, rfl⟩ := List.mem_map.mp hx
    have h2 : row.length + 1 ≤ big := by omega
    unfold ch
    simp [e__law_named_rows_1, h2]
  · have e : ((cols.take (row.eraseDups.length + 1)).map ch).map (fun x => match x with | .str t => D.str (row ++ t) | y => y) = (grow row).map D.str := by
      unfold grow
      rw [List.map_map, List.map_map]; rfl
    have hg : (grow row).length ≤ 6 := by unfold grow; rw [List.length_map, List.length_take]; exact Nat.min_le_right _ _
    have hb : acc.length + (grow row).length ≤ big := by omega
    rw [e]
    simp [-List.map_map, hb]
    exact k
theorem law_named_rows_ok {r : Nat} (hr : r ≤ 4) (M : Mem) {P : KV} (k : P (.d (.lst ((nrs r).map D.str))) M) : Ev (g__law_named_rows [.d (.int (r : Int))] M) P := by
  unfold g__law_named_rows
  rw [Ev_G1]
  have hb1 : 1 ≤ big := by decide
  have rg : rngD [.int (r : Int)] = some ((List.range r).map nI) := by
    rw [rngD_1, upto_map, if_pos (by omega), Int.toNat_natCast]
    congr 1; refine List.map_congr_left fun i _ => ?_; rw [Int.zero_add]; rfl
  have e0 : D.lst [D.str []] = .lst ((nrs 0).map D.str) := rfl
  simp [-rngD_1, hb1, rg]
  rw [e0]
  refine Ev.for (fun xs s M' => ∃ (j : Nat) (s2 s3 s4 s5 : Option Val), j + xs.length = r ∧ s = [some (.d (.int (r : Int))), some (.d (.lst ((nrs j).map D.str))), s2, s3, s4, s5] ∧ M' = M) _ _ _ ⟨0, none, none, none, none, by simp, rfl, rfl⟩ ?_ ?_
  · rintro x xs s M' ⟨j, s2, s3, s4, s5, hj, rfl, rfl⟩
    rw [List.length_cons] at hj
    refine ⟨[some (.d (.int (r : Int))), some (.d (.lst ((nrs j).map D.str))), some (.d x), s3, s4, s5], rfl, ?_⟩
    obtain ⟨_, _, fj⟩ := nrs_facts j (by omega)
    obtain ⟨_, fl, _⟩ := nrs_facts (j + 1) (by omega)
    unfold l__law_named_rows_2
    simp
    refine Ev.for (fun xs s M2 => ∃ (dn rest : List (List Char)) (s4 s5 : Option Val), nrs j = dn ++ rest ∧ xs = rest.map D.str ∧ s = [some (.d (.int (r : Int))), some (.d (.lst ((nrs j).map D.str))), some (.d x), some (.d (.lst ((dn.flatMap grow).map D.str))), s4, s5] ∧ M2 = M') _ _ _ ⟨[], nrs j, s4, s5, rfl, rfl, rfl, rfl⟩ ?_ ?_
    · rintro y ys s M2 ⟨dn, rest, s4, s5, hd, hy, rfl, rfl⟩
      cases rest with
      | nil => cases hy
      | cons c rest =>
        cases hy
        have hc : c ∈ nrs j := by rw [hd]; simp
        obtain ⟨g1, g2, g3⟩ := fj c hc
        refine ⟨[some (.d (.int (r : Int))), some (.d (.lst ((nrs j).map D.str))), some (.d x), some (.d (.lst ((dn.flatMap grow).map D.str))), some (.d (.str c)), s5], rfl, ?_⟩
        have hlen : (dn.flatMap grow).length ≤ 1000 := by
          have h2 : (nrs (j + 1)).length ≤ 20 := fl
          have e : nrs (j + 1) = (nrs j).flatMap grow := rfl
          rw [e, hd, List.flatMap_append, List.length_append] at h2
          omega
        refine grow_ok g2 (by omega) _ _ _ _ (by rw [List.length_map]; omega) M2 ?_
        refine ⟨dn ++ [c], rest, some (.d (.str c)), s5, by rw [hd]; simp, rfl, ?_, rfl⟩
        rw [List.flatMap_append, List.map_append]
        simp
    · rintro s M2 ⟨dn, rest, s4, s5, hd, hy, rfl, rfl⟩
      cases rest with
      | cons c rest => cases hy
      | nil =>
        rw [List.append_nil] at hd
        subst hd
        simp
        exact ⟨j + 1, by omega, rfl⟩
  · rintro s M' ⟨j, s2, s3, s4, s5, hj, rfl, rfl⟩
    have : j = r := by simpa using hj
    subst this
    simp
    exact k
end K07
end P_K07V
section P_K07W
set_option Elab.async false
set_option linter.all false
set_option maxRecDepth 100000
namespace K07
open DL
open CbK (plc)
theorem cols_rowed {t : List Char} (h : rowedB t = true) : Cols t ∧ t.length ≤ 12 := by
  unfold rowedB at h
  rw [Bool.and_eq_true, decide_eq_true_eq] at h
  refine ⟨fun c hc => ?_, h.2⟩
  have := List.all_eq_true.mp h.1 c hc
  unfold inB at this
  simpa using this
def patD : D → Bool
  | .str s => rowedB s && (decide (1 ≤ s.length) && decide (s.length ≤ 6)) && decide (nm s = s)
  | _ => false
theorem is_patterned_bv {x : D} (h : Bv x) (M : Mem) {P : KV} (k : P (.d (.bl (patD x))) M) : Ev (g_is_patterned [.d x] M) P := by
  unfold g_is_patterned
  rw [Ev_G1]
  simp
  refine is_rowed_bv h M ?_
  cases h with
  | str t =>
    have rd : rowedD (.str t) = rowedB t := rfl
    have pd : patD (.str t) = (rowedB t && (decide (1 ≤ t.length) && decide (t.length ≤ 6)) && decide (nm t = t)) := rfl
    rw [pd] at k
    rw [rd]
    cases hr : rowedB t with
    | false =>
      rw [hr, Bool.false_and, Bool.false_and] at k
      simp
      exact k
    | true =>
      obtain ⟨hc, h12⟩ := cols_rowed hr
      rw [hr, Bool.true_and] at k
      by_cases h1 : 1 ≤ t.length
      · by_cases h6 : t.length ≤ 6
        · rw [decide_eq_true h1, decide_eq_true h6, Bool.true_and, Bool.true_and] at k
          have q1 : ¬ ((t.length : Int) < 1) := by omega
          have q2 : ¬ ((6 : Int) < (t.length : Int)) := by omega
          simp [q1]
          rw [if_pos (by omega)]
          unfold g_is_named
          rw [Ev_G1]
          simp
          refine named_by_ok hc h12 M ?_
          have e : (nm t == t) = decide (nm t = t) := by rw [Bool.eq_iff_iff]; simp
          simp [e]
          exact k
        · rw [decide_eq_false h6, Bool.and_false, Bool.false_and] at k
          have q1 : ¬ ((t.length : Int) < 1) := by omega
          simp [q1]
          rw [if_neg (by omega)]
          exact k
      · rw [decide_eq_false h1, Bool.false_and, Bool.false_and] at k
        have q1 : (t.length : Int) < 1 := by omega
        simp [q1]
        exact k
  | tup l => simp [rowedD]; exact k
  | lst l => simp [rowedD]; exact k
  | dic t i => simp [rowedD]; exact k
  | non => simp [rowedD]; exact k
  | int i => simp [rowedD]; exact k
  | bl b => simp [rowedD]; exact k
  | d0 => simp [rowedD]; exact k
  | t1 => simp [rowedD]; exact k
  | l1 i => simp [rowedD]; exact k
  | t2 i => simp [rowedD]; exact k
theorem is_pattern_bv {x : D} (h : Bv x) (M : Mem) {P : KV} (k : P (.d (.bl (patD x))) M) : Ev (g__law_is_pattern [.d x] M) P := by
  unfold g__law_is_pattern
  rw [Ev_G1]
  simp
  refine is_row_bv h M ?_
  cases h with
  | str t =>
    have rd : rowedD (.str t) = rowedB t := rfl
    have pd : patD (.str t) = (rowedB t && (decide (1 ≤ t.length) && decide (t.length ≤ 6)) && decide (nm t = t)) := rfl
    rw [pd] at k
    rw [rd]
    cases hr : rowedB t with
    | false =>
      rw [hr, Bool.false_and, Bool.false_and] at k
      simp
      exact k
    | true =>
      obtain ⟨hc, h12⟩ := cols_rowed hr
      rw [hr, Bool.true_and] at k
      by_cases h1 : 1 ≤ t.length
      · by_cases h6 : t.length ≤ 6
        · rw [decide_eq_true h1, decide_eq_true h6, Bool.true_and, Bool.true_and] at k
          have q1 : (0 : Int) < (t.length : Int) := by omega
          have q2 : (t.length : Int) < 7 := by omega
          have q3 : 0 < t.length := by omega
          have q4 : t.length < 7 := by omega
          simp [q1, q2, q3, q4]
          refine law_named_ok hc h12 M ?_
          have e : (nm t == t) = decide (nm t = t) := by rw [Bool.eq_iff_iff]; simp
          simp [e]
          exact k
        · rw [decide_eq_false h6, Bool.and_false, Bool.false_and] at k
          have q1 : (0 : Int) < (t.length : Int) := by omega
          have q2 : ¬ ((t.length : Int) < 7) := by omega
          have q3 : 0 < t.length := by omega
          have q4 : ¬ (t.length < 7) := by omega
          simp [q1, q2, q3, q4]
          exact k
      · rw [decide_eq_false h1, Bool.false_and, Bool.false_and] at k
        have q1 : ¬ ((0 : Int) < (t.length : Int)) := by omega
        have q3 : ¬ (0 < t.length) := by omega
        simp [q1, q3]
        exact k
  | tup l => simp [rowedD]; exact k
  | lst l => simp [rowedD]; exact k
  | dic t i => simp [rowedD]; exact k
  | non => simp [rowedD]; exact k
  | int i => simp [rowedD]; exact k
  | bl b => simp [rowedD]; exact k
  | d0 => simp [rowedD]; exact k
  | t1 => simp [rowedD]; exact k
  | l1 i => simp [rowedD]; exact k
  | t2 i => simp [rowedD]; exact k
end K07
end P_K07W
section P_K07E
set_option Elab.async false
set_option linter.all false
set_option maxRecDepth 100000
namespace K07
open DL
open CbK (plc)
/-! ### what is refused -/
theorem x_row_ok {v : D} (h : Bv v) (hn : rowedD v = false) (M : Mem) : x_check_row [.d v] M = .ok v M := by
  have e : xt_check_row [some (.d v)] M = .ok true M := by
    refine Ev.eq ?_
    unfold xt_check_row
    simp
    refine is_rowed_bv h M ?_
    rw [hn]
    simp
  show (xt_check_row [some (.d v)] M).bind _ = _
  rw [e]; rfl
theorem x_row_bad {row : List Char} (h : Row row) (M : Mem) : x_check_row [.d (.str row)] M = .bad := by
  have e : xt_check_row [some (.d (.str row))] M = .ok false M := by
    refine Ev.eq ?_
    unfold xt_check_row
    simp
    refine rowed_ok h M ?_
    simp
  show (xt_check_row [some (.d (.str row))] M).bind _ = _
  rw [e]; rfl
theorem x_pattern_ok {v : D} (h : Bv v) (hn : patD v = false) (M : Mem) : x_check_pattern [.d v] M = .ok v M := by
  have e : xt_check_pattern [some (.d v)] M = .ok true M := by
    refine Ev.eq ?_
    unfold xt_check_pattern
    simp
    refine is_patterned_bv h M ?_
    rw [hn]
    simp
  show (xt_check_pattern [some (.d v)] M).bind _ = _
  rw [e]; rfl
/-! ### places of equal length -/
theorem plc_all {n : Nat} (h : n ≤ 6) : plc n n = [List.range n] := by
  have : n = 0 ∨ n = 1 ∨ n = 2 ∨ n = 3 ∨ n = 4 ∨ n = 5 ∨ n = 6 := by omega
  rcases this with rfl | rfl | rfl | rfl | rfl | rfl | rfl <;> decide +kernel
theorem plc_first {n k : Nat} (h : n ≤ 6) (hk : k ≤ n) : List.range k ∈ plc n k := by
  have key : ∀ n, n < 7 → ∀ k, k < 7 → k ≤ n → List.range k ∈ plc n k := by decide +kernel
  exact key n (by omega) k (by omega) hk
theorem between_ok {v lo hi : Int} (h1 : lo ≤ v) (h2 : v ≤ hi) (M : Mem) {P : KV} (k : P (.d (.bl true)) M) : Ev (g_is_between [.d (.int v), .d (.int lo), .d (.int hi)] M) P := by
  unfold g_is_between
  rw [Ev_G3]
  have n1 : ¬ v < lo := by omega
  have n2 : ¬ hi < v := by omega
  simp
  unfold g_is_whole
  rw [Ev_G1]
  simp [h1, h2, n1, n2]
  simpa using k
theorem check_size_ok {v lo hi : Int} (h1 : lo ≤ v) (h2 : v ≤ hi) (M : Mem) {P : KV} (k : P (.d .non) M) : Ev (g_check_size [.d (.int v), .d (.int lo), .d (.int hi)] M) P := by
  unfold g_check_size
  rw [Ev_G3]
  simp
  refine between_ok h1 h2 M ?_
  simp
  simpa using k
theorem x_pattern_bad {v : D} (h : Bv v) (hn : patD v = true) (M : Mem) : x_check_pattern [.d v] M = .bad := by
  have e : xt_check_pattern [some (.d v)] M = .ok false M := by
    refine Ev.eq ?_
    unfold xt_check_pattern
    simp
    refine is_patterned_bv h M ?_
    rw [hn]
    simp
  show (xt_check_pattern [some (.d v)] M).bind _ = _
  rw [e]; rfl
theorem row_c {r : List Char} (h : rowedB r = true) : Row r := ⟨(cols_rowed h).2, (cols_rowed h).1⟩
theorem xr07_eq {r : List Char} (h : rowedB r = true) {v : D} {M : Mem} {y : Res D} (hx : x_check_pattern [.d v] M = y) : xr07 r v M = y := by
  have e : g_check_row [.d (.str r)] M = .ok (.d .non) M := Ev.eq (check_row_ok (row_c h) M ⟨rfl, rfl⟩)
  show (g_check_row [.d (.str r)] M).bind _ = _
  rw [e]; exact hx
theorem xs07_eq {v : D} {M : Mem} {y : Res D} (hx : x_check_pattern [.d v] M = y) : xs07 v M = y := by
  have e : g_check_size [.d (.int 2), .d (.int 0), .d (.int 6)] M = .ok (.d .non) M := Ev.eq (check_size_ok (by decide) (by decide) M ⟨rfl, rfl⟩)
  show (g_check_size [.d (.int 2), .d (.int 0), .d (.int 6)] M).bind _ = _
  rw [e]; exact hx
theorem rf07_eq (w : Int) {v : D} {M : Mem} {y : Res D} (hx : x_check_pattern [.d v] M = y) : rf07 w v M = y := by
  unfold rf07
  split
  · exact xr07_eq (by decide +kernel) hx
  · split
    · exact xr07_eq (by decide +kernel) hx
    · split
      · exact xr07_eq (by decide +kernel) hx
      · exact xs07_eq hx
theorem refused_bad (w : Int) {v : D} (h : Bv v) (hn : patD v = false) (M : Mem) {P : KV} (k : P (.d (.lst [v])) M) : Ev (g__law_refused [.d (.int w), .d v] M) P := by
  unfold g__law_refused
  rw [Ev_G2]
  have e : ev_try__law_refused [some (.d (.int w)), some (.d v), none, none] M = .ok (.ret (.d (.lst [v]))) M := by
    show (match rf07 w v M with
      | .ok d0 M1 => (Res.ok (Flow.ret (.d (.lst [d0]))) M1 : Res Flow)
      | .bad => (gd07 w v M).bind fun x M1 => .ok (.nx [some (.d (.int w)), some (.d v), some x, none]) M1) = _
    rw [rf07_eq w (x_pattern_ok h hn M)]
  simp [e]
  exact k
theorem ne_one {x : D} (h : D.shal 59 x = true) : cmpV .ne (.lst [x]) (.lst []) = some (.bl true) := by
  show ((if ((false && false) || ((D.shal 59 x && true) && true)) = true then some (D.eqvs [x] []) else none).map (!·)).map D.bl = _
  rw [h]; rfl
theorem refused_good (w : Int) {v : D} (h : Bv v) (hn : patD v = true) (M : Mem) {x : D} (hs : D.shal 59 x = true) (hg : gd07 w v M = .ok (.d x) M) {P : KV} (k : P (.d (.lst [])) M) : Ev (g__law_refused [.d (.int w), .d v] M) P := by
  unfold g__law_refused
  rw [Ev_G2]
  have e : ev_try__law_refused [some (.d (.int w)), some (.d v), none, none] M = .ok (.nx [some (.d (.int w)), some (.d v), some (.d x), none]) M := by
    show (match rf07 w v M with
      | .ok d0 M1 => (Res.ok (Flow.ret (.d (.lst [d0]))) M1 : Res Flow)
      | .bad => (gd07 w v M).bind fun x M1 => .ok (.nx [some (.d (.int w)), some (.d v), some x, none]) M1) = _
    rw [rf07_eq w (x_pattern_bad h hn M)]
    show (gd07 w v M).bind _ = _
    rw [hg]; rfl
  have ne := ne_one hs
  have big1 : 1 ≤ big := by decide
  simp [e, ne, big1]
  exact k
/-! ### named texts, what stands ahead in them -/
theorem nm_pre : ∀ (n : Nat) (s t : List Char), s.length = n → nm (t ++ s) = t ++ s → nm t = t
  | 0, s, t, h, e => by
    rw [List.eq_nil_of_length_eq_zero h, List.append_nil] at e; exact e
  | n + 1, s, t, h, e => by
    rcases List.eq_nil_or_concat s with rfl | ⟨s', c, rfl⟩
    · rw [List.append_nil] at e; exact e
    · rw [List.concat_eq_append] at h e
      rw [← List.append_assoc, nm_snoc] at e
      exact nm_pre n s' t (by simpa using h) (List.append_inj_left' e rfl)
theorem pat_take {p : List Char} (h : Pat p) {k : Nat} (h1 : 1 ≤ k) (h2 : k ≤ p.length) : Pat (p.take k) := by
  have e : p.take k ++ p.drop k = p := List.take_append_drop k p
  obtain ⟨a, b, c, d⟩ := h
  refine ⟨fun x hx => a x (List.mem_of_mem_take hx), by rw [List.length_take]; omega, by rw [List.length_take]; omega, ?_⟩
  exact nm_pre _ (p.drop k) _ rfl (by rw [e]; exact d)
theorem socks_take (p : List Char) (k : Nat) (h : k ≤ p.length) : socks p (List.range k) = p.take k := by
  unfold socks
  refine List.ext_getElem? fun i => ?_
  rw [List.getElem?_map]
  by_cases hi : i < k
  · rw [List.getElem?_range hi, List.getElem?_take, if_pos hi, List.getElem?_eq_getElem (show i < p.length by omega)]
    show some (p[i]?.getD 'a') = _
    rw [List.getElem?_eq_getElem (show i < p.length by omega)]; rfl
  · rw [List.getElem?_eq_none (by rw [List.length_range]; omega), List.getElem?_eq_none (by rw [List.length_take]; omega)]; rfl
theorem hld_same {p q : List Char} (hp : Pat p) (hl : p.length = q.length) : hld p q = if p = q then [List.range p.length] else [] := by
  obtain ⟨a, b, c, d⟩ := hp
  unfold hld
  rw [← hl, plc_all c, List.filter_cons, socks_take p _ (Nat.le_refl _), List.take_length, d]
  by_cases e : p = q <;> simp [e]
theorem hld_take {p : List Char} (hp : Pat p) {k : Nat} (h1 : 1 ≤ k) (h2 : k ≤ p.length) : hld p (p.take k) ≠ [] := by
  have hq := pat_take hp h1 h2
  obtain ⟨a, b, c, d⟩ := hp
  obtain ⟨a2, b2, c2, d2⟩ := hq
  have e : (p.take k).length = k := by rw [List.length_take]; omega
  have hm : List.range k ∈ hld p (p.take k) := by
    unfold hld
    rw [e]
    exact List.mem_filter.mpr ⟨plc_first c h2, by rw [socks_take p k h2]; exact decide_eq_true d2⟩
  exact List.ne_nil_of_mem hm
end K07
end P_K07E
section P_K07F
set_option Elab.async false
set_option linter.all false
set_option maxRecDepth 100000
namespace K07
open DL
open CbK (plc)
/-! ### comprehensions of two fors -/
theorem comp2_map {b : D → Mem → Res (List D)} (h : D → List D) : ∀ (xs : List D) (M : Mem), (∀ x ∈ xs, b x M = .ok (h x) M) → compLoop2 b xs M = .ok (xs.flatMap h) M
  | [], M, _ => rfl
  | x :: xs, M, hb => by
    have ih := comp2_map h xs M fun y hy => hb y (List.mem_cons_of_mem _ hy)
    show (b x M).bind _ = _
    rw [hb x (List.mem_cons_self ..)]
    show (compLoop2 b xs M).bind _ = _
    rw [ih]; rfl
def gwD : D → List D
  | .str t => (grow t).map D.str
  | _ => []
theorem gw_list : ∀ l : List (List Char), (l.map D.str).flatMap gwD = (l.flatMap grow).map D.str
  | [] => rfl
  | t :: l => by
    rw [List.map_cons, List.flatMap_cons, gw_list l, List.flatMap_cons, List.map_append]; rfl
theorem all_step {rs : List (List Char)} (hr : ∀ r ∈ rs, Cols r ∧ r.length ≤ 3) (hf : (rs.flatMap grow).length ≤ 1000) (s0 s2 s3 s4 : Option Val) (M : Mem) {P : KF} (k : P (.nx [s0, some (.d (.lst ((rs.flatMap grow).map D.str))), s2, s3, s4]) M) :
    Ev (l_all_named_1 [s0, some (.d (.lst (rs.map D.str))), s2, s3, s4] M) P := by
  unfold l_all_named_1
  have hb : ∀ x ∈ rs.map D.str, evBlk2 [3, 4] [4] (.n 3) ifs0 (evIt (ev2 (fun x y => sliceD x none (some y)) (vC (.str ['a', 'b', 'c', 'd', 'e', 'f'])) (ev2 (binD .add) (evB (biD .len) (evCons (evCall g_colours_by (evCons (vV 3) evNil)) evNil)) (vC (.int 1))))) (.n 4) ifs0 e_all_named_1 [s0, some (.d (.lst (rs.map D.str))), s2, s3, s4] x M = .ok (gwD x) M := by
    intro x hx
    obtain ⟨row, hrow, rfl⟩ := List.mem_map.mp hx
    obtain ⟨hc, hl⟩ := hr row hrow
    have hk := dups_len row
    show (evIt (ev2 (fun x y => sliceD x none (some y)) (vC (.str ['a', 'b', 'c', 'd', 'e', 'f'])) (ev2 (binD .add) (evB (biD .len) (evCons (evCall g_colours_by (evCons (vV 3) evNil)) evNil)) (vC (.int 1)))) [s0, some (.d (.lst (rs.map D.str))), s2, some (.d (.str row)), none] M).bind _ = _
    have ec : cut cols none (some ((row.eraseDups.length : Int) + 1)) = cols.take (row.eraseDups.length + 1) := by
      rw [cut_take _ (by omega)]; congr 1
    have e1 : evIt (ev2 (fun x y => sliceD x none (some y)) (vC (.str ['a', 'b', 'c', 'd', 'e', 'f'])) (ev2 (binD .add) (evB (biD .len) (evCons (evCall g_colours_by (evCons (vV 3) evNil)) evNil)) (vC (.int 1)))) [s0, some (.d (.lst (rs.map D.str))), s2, some (.d (.str row)), none] M = .ok ((cols.take (row.eraseDups.length + 1)).map ch) M := by
      refine Ev.eq ?_
      simp
      refine colours_by_ok row (by omega) M ?_
      simp [ec]
      exact ⟨rfl, rfl⟩
    rw [e1]
    show compLoop _ _ M = _
    refine Ev.eq ?_
    refine Ev.compMap (fun x => match x with | .str t => .str (row ++ t) | y => y) _ _ (fun x hx => ?_) ?_
    · obtain ⟨c, _, rfl⟩ := List.mem_map.mp hx
      have h2 : row.length + 1 ≤ big := Nat.le_trans (show row.length + 1 ≤ 4 by omega) (by decide)
      unfold ch
      simp [e_all_named_1, h2]
    · refine ⟨?_, rfl⟩
      show _ = (grow row).map D.str
      unfold grow
      rw [List.map_map, List.map_map]; rfl
  have e : evLc2 [3, 4] [4] (.n 3) (evIt (vV 1)) ifs0 (.n 4) (evIt (ev2 (fun x y => sliceD x none (some y)) (vC (.str ['a', 'b', 'c', 'd', 'e', 'f'])) (ev2 (binD .add) (evB (biD .len) (evCons (evCall g_colours_by (evCons (vV 3) evNil)) evNil)) (vC (.int 1))))) ifs0 e_all_named_1 [s0, some (.d (.lst (rs.map D.str))), s2, s3, s4] M = .ok (.d (.lst ((rs.flatMap grow).map D.str))) M := by
    show (compLoop2 _ (rs.map D.str) M).bind _ = _
    rw [comp2_map gwD _ M hb, gw_list]
    show (if ((rs.flatMap grow).map D.str).length ≤ big then _ else _) = _
    rw [if_pos (by rw [List.length_map]; exact Nat.le_trans hf (by decide))]
  rw [Ev_seq, Ev_asg, e]
  simp
  exact k
theorem all_named_ok (M : Mem) {P : KV} (k : P (.d (.lst ((nrs 2).map D.str))) M) : Ev (g_all_named [.d (.int 2)] M) P := by
  unfold g_all_named
  rw [Ev_G1]
  have big1 : 1 ≤ big := by decide
  have r2 : rngD [.int 2] = some [.int 0, .int 1] := rfl
  have e0 : D.lst [D.str []] = .lst ((nrs 0).map D.str) := rfl
  simp [-rngD_1, r2, big1]
  rw [e0]
  have f := fun j (hj : j ≤ 4) => nrs_facts j hj
  refine Ev.for (fun xs s M' => ∃ (j : Nat) (s2 s3 s4 : Option Val), j + xs.length = 2 ∧ s = [some (.d (.int 2)), some (.d (.lst ((nrs j).map D.str))), s2, s3, s4] ∧ M' = M) _ _ _ ⟨0, none, none, none, rfl, rfl, rfl⟩ ?_ ?_
  · rintro x xs s M' ⟨j, s2, s3, s4, hj, rfl, rfl⟩
    rw [List.length_cons] at hj
    refine ⟨[some (.d (.int 2)), some (.d (.lst ((nrs j).map D.str))), some (.d x), s3, s4], rfl, ?_⟩
    obtain ⟨_, _, fj⟩ := f j (by omega)
    obtain ⟨_, fl, _⟩ := f (j + 1) (by omega)
    refine all_step (fun r hr => ?_) (Nat.le_trans fl (by decide)) _ _ _ _ M' ?_
    · obtain ⟨a, b, _⟩ := fj r hr
      exact ⟨b, by omega⟩
    · exact ⟨j + 1, _, s3, s4, by omega, rfl, rfl⟩
  · rintro s M' ⟨j, s2, s3, s4, hj, rfl, rfl⟩
    have : j = 2 := by simpa using hj
    subst this
    simp
    exact k
/-! ### what is not refused -/
def frQ (p : List Char) : D → Option D
  | .str r => if (hld r p).isEmpty = true then some (.str r) else none
  | _ => none
theorem does_hold_by_ok {row pat : List Char} (hr : Row row) (hp : pat.length ≤ 6) (M : Mem) {P : KV} (k : P (.d (.bl (!(hld row pat).isEmpty))) M) : Ev (g_does_hold_by [.d (.str row), .d (.str pat)] M) P := by
  unfold g_does_hold_by
  rw [Ev_G2]
  have e := ne_held row pat
  simp
  refine places_held_ok hr hp M ?_
  simp [e]
  simpa using k
theorem fr_strs (p : List Char) : ∀ l : List (List Char), (l.map D.str).filterMap (frQ p) = (l.filter fun r => (hld r p).isEmpty).map D.str
  | [] => rfl
  | r :: l => by
    have e : frQ p (D.str r) = if (hld r p).isEmpty = true then some (.str r) else none := rfl
    rw [List.map_cons, List.filterMap_cons, List.filter_cons, e]
    by_cases h : (hld r p).isEmpty = true
    · rw [if_pos h, if_pos h, List.map_cons, fr_strs p l]
    · rw [if_neg h, if_neg h, fr_strs p l]
theorem free_rows_ok {p : List Char} (hp : Pat p) (M : Mem) {P : KV} (k : ∀ l : List (List Char), P (.d (.tup (l.map D.str))) M) : Ev (g_free_rows [.d (.int 2), .d (.str p)] M) P := by
  unfold g_free_rows
  rw [Ev_G2]
  simp
  refine check_size_ok (by decide) (by decide) M ?_
  simp
  refine check_pattern_ok hp M ?_
  simp
  unfold g_free_of
  rw [Ev_G2]
  simp
  refine all_named_ok M ?_
  simp
  refine Ev.compFilter (frQ p) _ _ (fun x hx => ?_) ?_
  · obtain ⟨r, hr, rfl⟩ := List.mem_map.mp hx
    obtain ⟨_, _, f⟩ := nrs_facts 2 (by decide)
    obtain ⟨a, b, _⟩ := f r hr
    simp [i_free_of_1]
    refine does_hold_by_ok ⟨by omega, b⟩ hp.hi M ?_
    by_cases h : (hld r p).isEmpty = true
    · simp [h, frQ]
    · have h' : (hld r p).isEmpty = false := by simpa using h
      simp [h', frQ]
  · rw [fr_strs]
    simp
    simpa using k _
theorem shals_strs : ∀ (n : Nat) (l : List (List Char)), D.shals n (l.map D.str) = true
  | _, [] => rfl
  | n, r :: l => by
    show (D.shal n (D.str r) && D.shals n (l.map D.str)) = true
    rw [shals_strs n l]
    cases n <;> rfl
theorem gd07_ok {p : List Char} (hp : Pat p) (w : Int) (M : Mem) : ∃ x, D.shal 59 x = true ∧ gd07 w (.str p) M = .ok (.d x) M := by
  unfold gd07
  split
  · exact ⟨.bl _, rfl, Ev.eq (does_hold_ok (row_c (by decide +kernel)) hp M ⟨rfl, rfl⟩)⟩
  · split
    · refine ⟨firstD [] p, ?_, Ev.eq (first_places_ok (row_c (by decide +kernel)) hp M ⟨rfl, rfl⟩)⟩
      have e : hld [] p = [] := by
        unfold hld
        have : plc 0 p.length = [] := by
          obtain ⟨_, lo, hi, _⟩ := hp
          have key : ∀ k, k < 7 → 1 ≤ k → plc 0 k = [] := by decide +kernel
          exact key _ (by omega) lo
        show (plc 0 p.length).filter _ = []
        rw [this]; rfl
      unfold firstD
      rw [e]; rfl
    · split
      · exact ⟨nI _, rfl, Ev.eq (hold_count_ok (row_c (by decide +kernel)) hp M ⟨rfl, rfl⟩)⟩
      · obtain ⟨v, M', e, h⟩ := (free_rows_ok hp M (P := fun v M' => (∃ l : List (List Char), v = .d (.tup (l.map D.str))) ∧ M' = M) fun l => ⟨⟨l, rfl⟩, rfl⟩).ex
        obtain ⟨⟨l, rfl⟩, rfl⟩ := h
        refine ⟨.tup (l.map D.str), ?_, e⟩
        exact shals_strs 58 l
end K07
end P_K07F
section P_K07U
set_option Elab.async false
set_option linter.all false
set_option maxRecDepth 100000
namespace K07
open DL
open CbK (plc)
theorem is_pattern_ok {v : D} (h : Bv v) (M : Mem) {P : KV} (k : P (.d (.bl (patD v))) M) : Ev (g_is_pattern [.d v] M) P := by
  unfold g_is_pattern
  rw [Ev_G1]
  simp
  refine is_patterned_bv h M ?_
  simpa using k
theorem pat_of {v : D} (h : Bv v) (hn : patD v = true) : ∃ p, v = .str p ∧ Pat p := by
  cases h <;> first | (cases hn; done) | skip
  rename_i t
  have pd : (rowedB t && (decide (1 ≤ t.length) && decide (t.length ≤ 6)) && decide (nm t = t)) = true := hn
  simp only [Bool.and_eq_true, decide_eq_true_eq] at pd
  obtain ⟨⟨a, b, c⟩, d⟩ := pd
  exact ⟨t, rfl, ⟨(cols_rowed a).1, b, c, d⟩⟩
/-- the four calls of what is refused -/
theorem refused_all {v : D} (h : Bv v) (M : Mem) (w : Int) {P : KV} (k : P (.d (.lst (if patD v = true then [] else [v]))) M) : Ev (g__law_refused [.d (.int w), .d v] M) P := by
  by_cases hn : patD v = true
  · obtain ⟨p, rfl, hp⟩ := pat_of h hn
    obtain ⟨x, hs, hg⟩ := gd07_ok hp w M
    rw [if_pos hn] at k
    exact refused_good w h hn M hs hg k
  · rw [if_neg hn] at k
    exact refused_bad w h (by simpa using hn) M k
theorem patterns_of_ok {p : List Char} (hp : Pat p) (h4 : p.length ≤ 4) (M : Mem) {P : KV} (k : P (.d (.tup [.str p])) M) : Ev (g_patterns_of [.d (.str p), .d (.int (p.length : Int))] M) P := by
  unfold g_patterns_of
  rw [Ev_G2]
  simp
  refine check_row_ok hp.row M ?_
  simp
  refine check_size_ok (by have := hp.lo; omega) (by omega) M ?_
  simp
  unfold g_patterns_by
  rw [Ev_G2]
  have e1 : lrD (.int (p.length : Int)) = some (.lst (upto p.length 0)) := by
    show (if -16777216 ≤ (p.length : Int) ∧ (p.length : Int) ≤ 16777216 then some (D.lst (upto (p.length : Int).toNat 0)) else none) = _
    rw [if_pos (by omega), Int.toNat_natCast]
  have e2 : choD [.lst (upto p.length 0), .int (p.length : Int)] = some (.lst [tI (List.range p.length)]) := by
    rw [cho_ok (by omega) (by omega), plc_all (by omega)]; rfl
  have eb : evBlk [3] (.n 3) ifs0 e_patterns_by_1 [some (.d (.str p)), some (.d (.int (p.length : Int))), some (.d (.lst [tI (List.range p.length)])), none] (tI (List.range p.length)) M = .ok (some (.str p)) M := by
    refine Ev.eq ?_
    have hs := socks_take p p.length (Nat.le_refl _)
    rw [List.take_length] at hs
    show Ev ((e_patterns_by_1 [some (.d (.str p)), some (.d (.int (p.length : Int))), some (.d (.lst [tI (List.range p.length)])), some (.d (tI (List.range p.length)))] M).bind _) _
    rw [Ev_bind]
    simp [e_patterns_by_1]
    refine socks_at_ok (fun x hx => List.mem_range.mp hx) (by rw [List.length_range]; omega) M ?_
    rw [hs]
    simp
    refine named_by_ok hp.cols (by omega) M ?_
    rw [hp.nmd]
    simp
  have e3 : evSd [3] (.n 3) (evIt (vV 2)) ifs0 e_patterns_by_1 [some (.d (.str p)), some (.d (.int (p.length : Int))), some (.d (.lst [tI (List.range p.length)])), none] M = .ok (.d (.lst [.str p])) M := by
    show (compLoop (evBlk [3] (.n 3) ifs0 e_patterns_by_1 _) [tI (List.range p.length)] M).bind _ = _
    have : compLoop (evBlk [3] (.n 3) ifs0 e_patterns_by_1 [some (.d (.str p)), some (.d (.int (p.length : Int))), some (.d (.lst [tI (List.range p.length)])), none]) [tI (List.range p.length)] M = .ok [.str p] M := by
      show (evBlk _ _ _ _ _ _ M).bind _ = _
      rw [eb]; rfl
    rw [this]
    show Res.of ((soleD [.str p]).map Val.d) M = _
    have e4 : soleD [.str p] = some (.lst [.str p]) := by
      show (if ([p] : List (List Char)).eraseDups.length ≤ 1 then some (D.lst (([p] : List (List Char)).eraseDups.map D.str)) else none) = _
      have : ([p] : List (List Char)).eraseDups = [p] := by rfl
      rw [this]; rfl
    rw [e4]; rfl
  have big1 : 1 ≤ big := by decide
  simp [e1, e2, e3, big1]
  simpa using k
end K07
end P_K07U
section P_K07T
set_option Elab.async false
set_option linter.all false
set_option maxRecDepth 100000
namespace K07
open DL
open CbK (plc)
theorem patD_of {q : List Char} (h : Pat q) : patD (.str q) = true := by
  show (rowedB q && (decide (1 ≤ q.length) && decide (q.length ≤ 6)) && decide (nm q = q)) = true
  have a : rowedB q = true := by
    show (q.all inB && decide (q.length ≤ 12)) = true
    rw [decide_eq_true (show q.length ≤ 12 by have := h.hi; omega), Bool.and_true]
    exact List.all_eq_true.mpr fun c hc => by
      have := h.cols c hc
      unfold inB; simpa using this
  rw [a, decide_eq_true h.lo, decide_eq_true h.hi, decide_eq_true h.nmd]; rfl
theorem fm_none : ∀ l : List D, l.filterMap (fun _ => (none : Option D)) = []
  | [] => rfl
  | _ :: l => fm_none l
theorem value_right_ok {v : D} (h : Bv v) (M : Mem) {P : KV} (k : P (.d (.bl true)) M) : Ev (g__law_value_right [.d v] M) P := by
  unfold g__law_value_right
  rw [Ev_G1]
  have big2 : 2 ≤ big := by decide
  have big1 : 1 ≤ big := by decide
  have big0 : 0 ≤ big := by decide
  have s1 : Same1 6 (.lst [.bl (patD v), .bl (patD v)]) := is_lst 4 _ fun x hx => by
    simp at hx
    subst hx; exact is_bl 3 _
  have s2 : Same1 6 (.lst (if patD v = true then [] else [v])) := by
    refine is_lst 4 _ fun x hx => ?_
    by_cases hn : patD v = true
    · rw [if_pos hn] at hx; cases hx
    · rw [if_neg hn] at hx
      rw [List.mem_singleton.mp hx]; exact same_bv h 0
  simp
  refine is_pattern_bv h M ?_
  simp
  refine is_pattern_ok h M ?_
  simp
  refine is_pattern_ok h M ?_
  simp [big2]
  refine s1 M _ ?_
  have r4 : rngD [.int 4] = some [.int 0, .int 1, .int 2, .int 3] := rfl
  simp [-rngD_1, r4]
  refine Ev.compFilter (fun _ => none) _ _ (fun x hx => ?_) ?_
  · obtain ⟨w, rfl⟩ : ∃ w : Int, x = .int w := by
      simp at hx
      rcases hx with rfl | rfl | rfl | rfl <;> exact ⟨_, rfl⟩
    simp [i__law_value_right_1]
    refine refused_all h M w ?_
    have q := s2 M
    by_cases hn : patD v = true
    · rw [if_pos hn] at q ⊢
      simp [hn, big0]
      refine q _ ?_
      simp
    · rw [if_neg hn] at q ⊢
      simp [hn, big1]
      refine q _ ?_
      simp
  · rw [fm_none]
    have ne0 : cmpV .ne (.lst []) (.lst []) = some (.bl false) := rfl
    by_cases hn : patD v = true
    · obtain ⟨p, rfl, hp⟩ := pat_of h hn
      have lo := hp.lo
      have hi := hp.hi
      have eh : hld p p = [List.range p.length] := by rw [hld_same hp rfl, if_pos rfl]
      have ef : firstD p p = tI (List.range p.length) := by unfold firstD; rw [eh]
      have tr : trD (.int (p.length : Int)) = some (tI (List.range p.length)) := by
        show (if -16777216 ≤ (p.length : Int) ∧ (p.length : Int) ≤ 16777216 then some (D.tup (upto (p.length : Int).toNat 0)) else none) = _
        rw [if_pos (by omega), Int.toNat_natCast, upto_map]
        unfold tI
        congr 2
        refine List.map_congr_left fun i _ => ?_
        show D.int (0 + (i : Int)) = D.int (i : Int)
        rw [Int.zero_add]
      have s3 : Same1 6 (.lst [.bl true, tI (List.range p.length), .int 1, .str p]) := is_lst 4 _ fun x hx => by
        simp at hx
        rcases hx with rfl | rfl | rfl | rfl
        · exact is_bl 3 _
        · exact is_tup 3 _ fun x hx => by
            obtain ⟨i, _, rfl⟩ := List.mem_map.mp hx
            exact is_int 2 _
        · exact is_int 3 _
        · exact is_str 3 _
      have big4 : 4 ≤ big := by decide
      simp [hn, big0, ne0]
      refine does_hold_ok hp.row hp M ?_
      rw [eh]
      simp
      refine first_places_ok hp.row hp M ?_
      rw [ef]
      simp
      refine hold_count_ok hp.row hp M ?_
      rw [eh]
      simp
      refine named_ok' hp.row M ?_
      rw [hp.nmd]
      simp [nI, tr, big4]
      refine s3 M _ ?_
      have rg : rngD [.int 1, .int (p.length : Int)] = some ((List.range (p.length - 1)).map fun (i : Nat) => D.int (1 + (i : Int))) := by
        rw [rngD_2, upto_map, if_pos (by omega), show ((p.length : Int) - 1).toNat = p.length - 1 by omega]
      simp [rg, -rngD_2, -List.map_map]
      refine Ev.compFilter (fun _ => none) _ _ (fun x hx => ?_) ?_
      · obtain ⟨i, hi2, rfl⟩ := List.mem_map.mp hx
        have lt := List.mem_range.mp hi2
        have c1 : cut p none (some (1 + (i : Int))) = p.take (i + 1) := by
          rw [cut_take _ (by omega), show (1 + (i : Int)).toNat = i + 1 by omega]
        have hq := pat_take hp (k := i + 1) (by omega) (by omega)
        have ht := hld_take hp (k := i + 1) (by omega) (by omega)
        have he : (hld p (p.take (i + 1))).isEmpty = false := by
          cases hh : hld p (p.take (i + 1)) with
          | nil => exact absurd hh ht
          | cons _ _ => rfl
        simp [i__law_value_right_2, c1]
        refine does_hold_ok hp.row hq M ?_
        rw [he]
        simp [c1]
        refine is_pattern_ok (Bv.str _) M ?_
        rw [patD_of hq]
        simp
      · rw [fm_none]
        have s4 : Same1 6 (.tup [.str p]) := is_tup 5 _ fun x hx => by rw [List.mem_singleton.mp hx]; exact is_str 4 _
        by_cases h4 : p.length ≤ 4
        · have n4 : ¬ (4 : Int) < (p.length : Int) := by omega
          simp [big0, ne0]
          rw [if_neg (by omega)]
          refine patterns_of_ok hp h4 M ?_
          simp [big1]
          refine s4 M _ ?_
          simp
          exact k
        · simp [big0, ne0]
          rw [if_pos (by omega)]
          exact k
    · simp [hn, big0, ne0]
      exact k
end K07
end P_K07T
section P_K07Y
set_option Elab.async false
set_option linter.all false
set_option maxRecDepth 100000
namespace K07
open DL
open CbK (plc)
theorem cols3_comp {n : Nat} (s1 s2 s3 : Option Val) (xs : List D) {M : Mem} (w : Well M n) {P : List D → Mem → Prop}
    (k : ∀ (cs : List Char) (o : MO), cs.length = xs.length → (∀ c ∈ cs, c ∈ cols) → Well (M.set n o) n → P (cs.map ch) (M.set n o)) :
    Ev (compLoop (evBlk [3] (.n 3) ifs0 e__law_drawn_pattern_1 [some (.ref n), s1, s2, s3]) xs M) P := by
  refine (Ev.comp (P := P) (fun ys zs M' => ∃ (cs : List Char) (o : MO), zs = cs.map ch ∧ cs.length + ys.length = xs.length ∧ (∀ c ∈ cs, c ∈ cols) ∧ M' = M.set n o ∧ Well (M.set n o) n) xs [] M ?_ ?_ ?_)
  · obtain ⟨o, e, w'⟩ := w.self'
    exact ⟨[], o, rfl, by simp, by simp, e, w'⟩
  · rintro x ys zs M' ⟨cs, o, rfl, hl, hc, rfl, w'⟩
    simp [e__law_drawn_pattern_1]
    refine take_ok (many := 3) w' (by decide) (by decide) fun d o2 d0 d1 w2 => ?_
    have dl : d.toNat < cols.length := by show _ < 6; omega
    have e : at_ cols d = some cols[d.toNat] := by rw [at_nat _ d0, List.getElem?_eq_getElem dl]
    have e' : at_ ['a', 'b', 'c', 'd', 'e', 'f'] d = some cols[d.toNat] := e
    simp at w2
    simp [e']
    refine ⟨cs ++ [cols[d.toNat]], by simp [ch], by simp at hl ⊢; omega, fun c hc' => ?_, o2, rfl, w2⟩
    have key : c ∈ cols := by
      rcases List.mem_append.mp hc' with hc' | hc'
      · simpa using hc c hc'
      · rw [List.mem_singleton.mp hc']; exact List.getElem_mem _
    simpa using key
  · rintro zs M' ⟨cs, o, rfl, hl, hc, rfl, w'⟩
    exact k cs o (by simpa using hl) hc w'
theorem drawn_pattern_ok {n : Nat} {M : Mem} (w : Well M n) {most : Int} (h0 : 1 ≤ most) (h1 : most ≤ 6) {P : KV} (k : ∀ (p : List Char) (o : MO), Pat p → Well (M.set n o) n → P (.d (.str p)) (M.set n o)) :
    Ev (g__law_drawn_pattern [.ref n, .d (.int most)] M) P := by
  unfold g__law_drawn_pattern
  rw [Ev_G2]
  have ht := @set_take M n
  simp
  refine take_ok w (by omega) (by omega) fun size o2 b0 b1 w => ?_
  obtain ⟨rl, hr, hrl⟩ := rng_len (1 + size) (by omega) (by omega)
  simp [-rngD_1, hr]
  refine cols3_comp _ _ _ rl w fun cs o4 hl hm w => ?_
  simp at w
  have j := join_ch cs (by omega)
  simp [j]
  refine law_named_ok hm (by omega) _ ?_
  simp [ht]
  exact k _ o4 (pat_nm hm (by omega) (by omega)) w
theorem odd_ok {n : Nat} {M : Mem} (w : Well M n) {P : KV} (k : ∀ (x : D) (o : MO), Bv x → Well (M.set n o) n → P (.d x) (M.set n o)) : Ev (g__law_odd [.ref n] M) P := by
  unfold g__law_odd
  rw [Ev_G1]
  have ht := @set_take M n
  have b16 : 16 ≤ big := by decide
  have b2 : 2 ≤ big := by decide
  have b1 : 1 ≤ big := by decide
  have b0 : 0 ≤ big := by decide
  have d0 : ∀ (s : Sl) (M : Mem), evDic0 s M = .ok (.d (.dic [])) M := fun _ _ => rfl
  simp
  refine take_ok w (by decide) (by decide) fun d o d0' d1 w => ?_
  simp [b16, b2, b1, b0, d0]
  refine ⟨mulOk_l (by decide) (by decide) _, ?_⟩
  refine pick_ok w (by simp) (by simp) fun x o3 hx w => ?_
  have bx : Bv x := by
    simp only [List.mem_cons, List.not_mem_nil, or_false] at hx
    rcases hx with rfl | rfl | rfl | rfl | rfl | rfl | rfl | rfl | rfl | rfl | rfl | rfl | rfl | rfl | rfl | rfl
    · exact .non
    · exact .bl _
    · exact .bl _
    · exact .str _
    · exact .str _
    · exact .tup []
    · exact .t1
    · exact .lst []
    · exact .l1 _
    · exact .d0
    · exact .dic _ _
    · exact .int _
    · exact .int _
    · exact .int _
    · exact .int _
    · exact .t2 _
  simp [ht]
  rw [List.set_set] at w
  exact k x o3 bx w
theorem bent_pattern_ok {n : Nat} {M : Mem} (w : Well M n) {p : List Char} (hp : Pat p) {P : KV} (k : ∀ (x : D) (o : MO), Bv x → Well (M.set n o) n → P (.d x) (M.set n o)) : Ev (g__law_bent_pattern [.ref n, .d (.str p)] M) P := by
  unfold g__law_bent_pattern
  rw [Ev_G2]
  have ht := @set_take M n
  have hi := hp.hi
  have hb : 100 ≤ big := by decide
  have asc : p.all (fun c => decide (c.toNat < 128)) = true := List.all_eq_true.mpr fun x hx => by
    have all : ∀ y ∈ cols, y.toNat < 128 := by decide
    exact decide_eq_true (all x (hp.cols x hx))
  have u1 : meD .upper (.str p) [] = some (.str (p.map upC)) := by
    show (if (p.length ≤ 1000 ∧ p.all (fun c => decide (c.toNat < 128)) = true) then some (D.str (p.map upC)) else none) = _
    rw [if_pos ⟨by omega, asc⟩]
  have b7 : p.length + 1 ≤ big := by omega
  have b9 : p.length + 6 ≤ big := by omega
  have b0 : p.length ≤ big := by omega
  have b1 : 1 ≤ big := by decide
  have b12 : 12 ≤ big := by decide
  have b6 : 6 ≤ big := by decide
  have b18 : 18 ≤ big := by decide
  simp [u1, b7, b9, b0, b1, b12, b6, b18]
  refine pick_ok w (by simp) (by simp) fun x o3 hx w => ?_
  have bx : Bv x := by
    simp only [List.mem_cons, List.not_mem_nil, or_false] at hx
    rcases hx with rfl | rfl | rfl | rfl | rfl | rfl | rfl | rfl | rfl | rfl | rfl | rfl | rfl | rfl | rfl | rfl | rfl | rfl
    · exact .str _
    · exact .str _
    · exact .str _
    · exact .str _
    · exact .str _
    · exact .str _
    · exact .str _
    · have e : (p.map fun c => D.str [c]) = (p.map fun c => [c]).map D.str := by rw [List.map_map]; rfl
      rw [e]; exact .tup _
    · exact .tup [p]
    · exact .lst [p]
    · exact .str _
    · exact .str _
    · exact .non
    · exact .int _
    · exact .bl _
    · exact .str _
    · exact .str _
    · exact .dic _ _
  simp [ht]
  exact k x o3 bx w
end K07
end P_K07Y
section P_K07Z
set_option Elab.async false
set_option linter.all false
set_option maxRecDepth 100000
namespace K07
open DL
open CbK (plc)
def Wl (M : Mem) (n : Nat) (M' : Mem) : Prop := Well M' n ∧ ∃ o, M' = M.set n o
theorem Wl.set {M M' : Mem} {n : Nat} (h : Wl M n M') {o : MO} (w : Well (M'.set n o) n) : Wl M n (M'.set n o) := by
  obtain ⟨_, o2, rfl⟩ := h
  exact ⟨w, o, by rw [List.set_set]⟩
theorem bents {n : Nat} {p : List Char} (hp : Pat p) (M : Mem) (s1 s3 s4 s5 s6 s7 : Option Val) (xs : List D) {M' : Mem} (w : Wl M n M') {P : List D → Mem → Prop} (k : ∀ ys M2, (∀ y ∈ ys, Bv y) → ys.length ≤ xs.length → Wl M n M2 → P ys M2) :
    Ev (compLoop (evBlk [6] (.n 6) ifs0 e__law_right_1 [some (.ref n), s1, some (.d (.str p)), s3, s4, s5, s6, s7]) xs M') P := by
  refine (Ev.comp (P := P) (fun zs ys M2 => (∀ y ∈ ys, Bv y) ∧ ys.length + zs.length ≤ xs.length ∧ Wl M n M2) xs [] M' ?_ ?_ ?_)
  · exact ⟨fun y hy => (nomatch hy), by simp, w⟩
  · rintro x zs ys M2 ⟨hb, hl, w⟩
    simp [e__law_right_1]
    refine bent_pattern_ok w.1 hp fun x o hx w2 => ?_
    simp
    refine ⟨fun y hy => ?_, by simp at hl; omega, w.set w2⟩
    rcases hy with h | rfl
    · exact hb y h
    · exact hx
  · rintro ys M2 ⟨hb, hl, w⟩
    exact k ys M2 hb (by simpa using hl) w
theorem right_step {n : Nat} (M : Mem) {most : Int} (h0 : 1 ≤ most) (h1 : most ≤ 6) (s2 s3 s4 s5 s6 s7 : Option Val) {M' : Mem} (w : Wl M n M') {P : KF} (kk : ∀ s2 s3 s4 M2, Wl M n M2 → P (.nx [some (.ref n), some (.d (.int most)), s2, s3, s4, s5, s6, s7]) M2) :
    Ev (l__law_right_1 [some (.ref n), some (.d (.int most)), s2, s3, s4, s5, s6, s7] M') P := by
  unfold l__law_right_1
  simp
  refine drawn_pattern_ok w.1 h0 h1 fun p o hp w2 => ?_
  have w := w.set w2
  generalize M'.set n o = M' at w ⊢
  simp
  refine drawn_row_ok w.1 (by decide) (by decide) fun row o hr hl w2 => ?_
  have w := w.set w2
  generalize M'.set n o = M' at w ⊢
  have hi := hp.hi
  have hb : 100 ≤ big := by decide
  have b9 : 9 ≤ big := by decide
  have b1 : p.length + 1 ≤ big := by omega
  simp
  refine law_named_ok hr.cols (by omega) M' ?_
  simp [b1, b9]
  refine bents hp M _ _ _ _ _ _ _ w fun ys M2 hb2 hl2 w => ?_
  have ne0 : cmpV .ne (.lst []) (.lst []) = some (.bl false) := rfl
  have b0 : 0 ≤ big := by decide
  have hl6 : ys.length ≤ 6 := hl2
  have big6 : ys.length ≤ 1000 := by omega
  have hL : ∀ x ∈ [D.str p, D.str p.reverse, D.str (nm row), D.str row, D.str (p ++ ['a']), D.str ['a', 'b', 'c', 'd', 'e', 'f'], D.str ['a', 'b', 'c', 'd', 'e', 'f', 'a'], D.str ['b', 'b', 'b'], D.str ['a', 'b', 'a']], Bv x := fun x hx => by
    have hx : x ∈ [p, p.reverse, nm row, row, p ++ ['a'], ['a', 'b', 'c', 'd', 'e', 'f'], ['a', 'b', 'c', 'd', 'e', 'f', 'a'], ['b', 'b', 'b'], ['a', 'b', 'a']].map D.str := hx
    obtain ⟨t, _, rfl⟩ := List.mem_map.mp hx
    exact .str t
  have lL : ([D.str p, D.str p.reverse, D.str (nm row), D.str row, D.str (p ++ ['a']), D.str ['a', 'b', 'c', 'd', 'e', 'f'], D.str ['a', 'b', 'c', 'd', 'e', 'f', 'a'], D.str ['b', 'b', 'b'], D.str ['a', 'b', 'a']]).length = 9 := rfl
  generalize [D.str p, D.str p.reverse, D.str (nm row), D.str row, D.str (p ++ ['a']), D.str ['a', 'b', 'c', 'd', 'e', 'f'], D.str ['a', 'b', 'c', 'd', 'e', 'f', 'a'], D.str ['b', 'b', 'b'], D.str ['a', 'b', 'a']] = L at hL lL ⊢
  have hbL : L.length + ys.length ≤ big := Nat.le_trans (show L.length + ys.length ≤ 1009 by omega) (by decide)
  simp [hbL]
  refine Ev.compFilter (fun _ => none) _ _ (fun x hx => ?_) ?_
  · have bx : Bv x := by
      rcases List.mem_append.mp hx with h | h
      · exact hL x h
      · exact hb2 x h
    simp [i__law_right_1]
    refine value_right_ok bx M2 ?_
    simp
  · rw [fm_none]
    simp [b0, ne0]
    exact kk _ _ _ M2 w
end K07
end P_K07Z
section P_K07W2
set_option Elab.async false
set_option linter.all false
set_option maxRecDepth 100000
namespace K07
open DL
open CbK (plc)
theorem odds {n : Nat} (M : Mem) (s1 s2 s3 s4 s5 s6 s7 : Option Val) (xs : List D) {M' : Mem} (w : Wl M n M') {P : List D → Mem → Prop} (k : ∀ M2, Wl M n M2 → P [] M2) :
    Ev (compLoop (evBlk [7] (.n 7) i__law_right_2 (vV 7) [some (.ref n), s1, s2, s3, s4, s5, s6, s7]) xs M') P := by
  refine (Ev.comp (P := P) (fun zs ys M2 => ys = [] ∧ Wl M n M2) xs [] M' ⟨rfl, w⟩ ?_ ?_)
  · rintro x zs ys M2 ⟨rfl, w⟩
    simp [i__law_right_2]
    refine odd_ok w.1 fun x o hx w2 => ?_
    simp
    refine value_right_ok hx _ ?_
    simp
    exact w.set w2
  · rintro ys M2 ⟨rfl, w⟩
    exact k M2 w
theorem right_ok {n : Nat} {M : Mem} (w : Well M n) {P : KV} (k : ∀ (o : MO), Well (M.set n o) n → P (.d (.bl true)) (M.set n o)) : Ev (g__law_right [.ref n] M) P := by
  unfold g__law_right
  rw [Ev_G1]
  have hb6 : 6 ≤ big := by decide
  have b0 : 0 ≤ big := by decide
  have eq0 : cmpV .eq (.lst []) (.lst []) = some (.bl true) := rfl
  have w0 : Wl M n M := by
    obtain ⟨a, b, c, e⟩ := id w
    obtain ⟨h, e'⟩ := List.getElem?_eq_some_iff.mp e
    exact ⟨w, .lst [.int a, .int b, .int c], by rw [← e', List.set_getElem_self]⟩
  simp [hb6]
  refine Ev.for (fun xs s M' => ∃ (s1 s2 s3 s4 s5 s6 s7 : Option Val), s = [some (.ref n), s1, s2, s3, s4, s5, s6, s7] ∧ (∀ x ∈ xs, ∃ i : Int, x = .int i ∧ 1 ≤ i ∧ i ≤ 6) ∧ Wl M n M') _ _ _ ⟨none, none, none, none, none, none, none, rfl, by simp, w0⟩ ?_ ?_
  · rintro x xs s M' ⟨s1, s2, s3, s4, s5, s6, s7, rfl, hx, w⟩
    obtain ⟨i, rfl, i0, i6⟩ := hx x (List.mem_cons_self ..)
    refine ⟨[some (.ref n), some (.d (.int i)), s2, s3, s4, s5, s6, s7], rfl, ?_⟩
    refine right_step M i0 i6 _ _ _ _ _ _ w fun s2 s3 s4 M2 w2 => ?_
    exact ⟨_, s2, s3, s4, s5, s6, s7, rfl, fun y hy => hx y (List.mem_cons_of_mem _ hy), w2⟩
  · rintro s M' ⟨s1, s2, s3, s4, s5, s6, s7, rfl, hx, w⟩
    simp
    refine odds M _ _ _ _ _ _ _ _ w fun M2 w2 => ?_
    obtain ⟨w3, o, rfl⟩ := w2
    have ht := @set_take M n
    simp [b0, eq0, ht]
    exact k o w3
end K07
end P_K07W2
section P_K07W3
set_option Elab.async false
set_option linter.all false
set_option maxRecDepth 100000
namespace K07
open DL
open CbK (plc)
theorem size_ok {j : Nat} (h1 : 1 ≤ j) (h4 : j ≤ 4) (s0 s2 s3 s4 s5 : Option Val) (M : Mem) {P : KF} (k : ∀ s2, P (.nx [s0, some (.d (.int (j : Int))), s2, s3, s4, s5]) M) :
    Ev (l_law_1 [s0, some (.d (.int (j : Int))), s2, s3, s4, s5] M) P := by
  unfold l_law_1
  have b0 : 0 ≤ big := by decide
  have ne0 : cmpV .ne (.lst []) (.lst []) = some (.bl false) := rfl
  obtain ⟨_, _, f⟩ := nrs_facts j h4
  have pt : ∀ p ∈ nrs j, Pat p := fun p hp => nrs_pat h1 h4 hp
  simp
  refine law_named_rows_ok h4 M ?_
  simp
  refine Ev.compFilter (fun _ => none) _ _ (fun x hx => ?_) ?_
  · obtain ⟨p, hp, rfl⟩ := List.mem_map.mp hx
    have hP := pt p hp
    simp [i_law_2]
    refine is_pattern_ok (Bv.str p) M ?_
    rw [patD_of hP]
    simp
    refine Ev.compFilter (fun _ => none) _ _ (fun x hx => ?_) ?_
    · obtain ⟨q, hq, rfl⟩ := List.mem_map.mp hx
      have hQ := pt q hq
      have el : p.length = q.length := by rw [(f p hp).1, (f q hq).1]
      simp [i_law_1]
      refine does_hold_ok hP.row hQ M ?_
      rw [hld_same hP el]
      by_cases e : p = q
      · subst e; simp
      · simp [e]
    · rw [fm_none]
      simp [b0, ne0]
  · rw [fm_none]
    simp [b0, ne0]
    exact k _
theorem law_true (ns : List Int) (hn : ns.length ≤ 63) : g_law [.d (.scr (ns.map D.int))] [] = .ok (.d (.bl true)) [] := by
  refine Ev.eq ?_
  unfold g_law
  rw [Ev_G1]
  have r15 : rngD [.int 1, .int 5] = some ([(1 : Nat), 2, 3, 4].map fun (i : Nat) => D.int ((i : Nat) : Int)) := rfl
  simp [-rngD_2, r15]
  refine Ev.for (fun xs s M' => ∃ (js : List Nat) (s1 s2 : Option Val), (∀ j ∈ js, 1 ≤ j ∧ j ≤ 4) ∧ xs = (js.map fun (i : Nat) => D.int ((i : Nat) : Int)) ∧ s = [some (.d (.scr (ns.map D.int))), s1, s2, none, none, none] ∧ M' = []) _ _ _ ⟨[1, 2, 3, 4], none, none, by simp, rfl, rfl, rfl⟩ ?_ ?_
  · rintro x xs s M' ⟨js, s1, s2, hj, hx, rfl, rfl⟩
    cases js with
    | nil => cases hx
    | cons j js =>
      rw [List.map_cons] at hx
      cases hx
      refine ⟨[some (.d (.scr (ns.map D.int))), some (.d (.int (j : Int))), s2, none, none, none], rfl, ?_⟩
      have h := hj j (List.mem_cons_self ..)
      refine size_ok h.1 h.2 _ _ _ _ _ _ fun s2 => ?_
      exact ⟨js, _, s2, fun i hi => hj i (List.mem_cons_of_mem _ hi), rfl, rfl, rfl⟩
  · rintro s M' ⟨js, s1, s2, hj, hx, rfl, rfl⟩
    have key : ∀ m : Int, 0 ≤ m → m ≤ 16777216 → (-16777216 ≤ m ∧ m ≤ 16777216) ∧ ∀ {P : List D → Mem → Prop}, (∀ ys M', allBl ys = some true → P ys M') → Ev (compLoop (evBlk [5] (.n 5) ifs0 e_law_1 [some (.d (.scr (ns.map D.int))), s1, s2, none, none, none]) (upto m.toNat 0) []) P := by
      intro m h0 h1
      refine ⟨⟨by omega, h1⟩, fun {P} q => ?_⟩
      rw [upto_map]
      refine Ev.compTrue (fun _ => True) _ _ trivial (fun x hx M _ => ?_) fun ys M' hy _ => q ys M' hy
      obtain ⟨i, _, rfl⟩ := List.mem_map.mp hx
      simp [e_law_1]
      refine well_ok ns (by omega) M fun a b c => ?_
      simp
      have w : Well (M ++ [.lst [.int a, .int b, .int c]]) M.length := ⟨a, b, c, by simp⟩
      refine right_ok w fun o w => ?_
      simp
    simp
    refine ⟨(key _ ?_ ?_).1, (key _ ?_ ?_).2 fun ys M2 hy => ?_⟩
    case refine_5 =>
      simp [hy]
    all_goals (split <;> (try split) <;> omega)
end K07
end P_K07W3
set_option Elab.async false
set_option linter.all false
set_option maxRecDepth 100000
namespace K07
open PySem PySem.Spec PyProof.Rows L2 DL
theorem F_of {P : Program} {w : World} {K : PySem.W.Frag} {mg : Str → Option Value} {fa : Addr} (T : Tx K mg) (h : mg "law" = some (.ref fa)) : ∃ fd : FuncData, (∀ (s : Shared) (u : Value), BindsTo s fd ⟨[u], []⟩ [("script", u)]) ∧ ∀ base : Heap, FnOk P w K mg base CX0 80 fa fd ["script"] (spF false K 1 g_law) := by
  obtain ⟨f, fd, m, F⟩ := T.d_law
  cases h.symm.trans m
  exact ⟨fd, law_binds F fun _ _ _ _ _ _ _ => rfl, fun base => (ok_law T F).mono (by decide)⟩
end K07
open PySem PySem.W PyProof.Rows DL in
set_option maxRecDepth 100000 in
set_option maxHeartbeats 0 in
theorem PySem.Challenge.cw_sockrows_k07_whole_patterns_of_anything_holds : PySem.Challenge.rw_sockrows_k07_whole_patterns_of_anything.Holds := by
  w_on; o_law; k_head; (case hw => w_witness2)
  k_fill
  refine DL.walk80 (l := PySem.Challenge.rw_sockrows_k07_whole_patterns_of_anything) K07.g_law K07.law_true rfl rfl (fun w h Y => PySem.W.kIn_of Y) ?F
  case F =>
    intro w mg fa h KX G hmg
    refine K07.F_of (K := _) ?T hmg
    refine' K07.Tx.mk (mk_fun KX G ?a__law_colours ?l__law_colours ?c__law_colours ?k__law_colours) (mk_fun KX G ?a__law_named_rows ?l__law_named_rows ?c__law_named_rows ?k__law_named_rows) (mk_fun KX G ?a__law_named ?l__law_named ?c__law_named ?k__law_named) (mk_fun KX G ?a__law_take ?l__law_take ?c__law_take ?k__law_take) (mk_fun KX G ?a__law_drawn_pattern ?l__law_drawn_pattern ?c__law_drawn_pattern ?k__law_drawn_pattern) (mk_fun KX G ?a__law_drawn_row ?l__law_drawn_row ?c__law_drawn_row ?k__law_drawn_row) (mk_fun KX G ?a__law_is_row ?l__law_is_row ?c__law_is_row ?k__law_is_row) (mk_fun KX G ?a__law_is_pattern ?l__law_is_pattern ?c__law_is_pattern ?k__law_is_pattern) (mk_fun KX G ?a__law_is ?l__law_is ?c__law_is ?k__law_is) (mk_fun KX G ?a_is_text_of ?l_is_text_of ?c_is_text_of ?k_is_text_of) (mk_fun KX G ?a_is_rowed ?l_is_rowed ?c_is_rowed ?k_is_rowed) (mk_fun KX G ?a_check_row ?l_check_row ?c_check_row ?k_check_row) (mk_fun KX G ?a_colours_by ?l_colours_by ?c_colours_by ?k_colours_by) (mk_fun KX G ?a_named_by ?l_named_by ?c_named_by ?k_named_by) (mk_fun KX G ?a_is_named ?l_is_named ?c_is_named ?k_is_named) (mk_fun KX G ?a_is_patterned ?l_is_patterned ?c_is_patterned ?k_is_patterned) (mk_fun KX G ?a_check_pattern ?l_check_pattern ?c_check_pattern ?k_check_pattern) (mk_fun KX G ?a_check_row_pattern ?l_check_row_pattern ?c_check_row_pattern ?k_check_row_pattern) (mk_fun KX G ?a_socks_at ?l_socks_at ?c_socks_at ?k_socks_at) (mk_fun KX G ?a_places_held ?l_places_held ?c_places_held ?k_places_held) (mk_fun KX G ?a_does_hold_by ?l_does_hold_by ?c_does_hold_by ?k_does_hold_by) (mk_fun KX G ?a_does_hold ?l_does_hold ?c_does_hold ?k_does_hold) (mk_fun KX G ?a_first_places_by ?l_first_places_by ?c_first_places_by ?k_first_places_by) (mk_fun KX G ?a_first_places ?l_first_places ?c_first_places ?k_first_places) (mk_fun KX G ?a_hold_count ?l_hold_count ?c_hold_count ?k_hold_count) (mk_fun KX G ?a_named ?l_named ?c_named ?k_named) (mk_fun KX G ?a_is_whole ?l_is_whole ?c_is_whole ?k_is_whole) (mk_fun KX G ?a_is_between ?l_is_between ?c_is_between ?k_is_between) (mk_fun KX G ?a_check_size ?l_check_size ?c_check_size ?k_check_size) (mk_fun KX G ?a_patterns_by ?l_patterns_by ?c_patterns_by ?k_patterns_by) (mk_fun KX G ?a_patterns_of ?l_patterns_of ?c_patterns_of ?k_patterns_of) (mk_fun KX G ?a_is_pattern ?l_is_pattern ?c_is_pattern ?k_is_pattern) (mk_fun KX G ?a_all_named ?l_all_named ?c_all_named ?k_all_named) (mk_fun KX G ?a_free_of ?l_free_of ?c_free_of ?k_free_of) (mk_fun KX G ?a_free_rows ?l_free_rows ?c_free_rows ?k_free_rows) (mk_fun KX G ?a__law_refused ?l__law_refused ?c__law_refused ?k__law_refused) (mk_fun KX G ?a__law_value_right ?l__law_value_right ?c__law_value_right ?k__law_value_right) (mk_fun KX G ?a__law_pick ?l__law_pick ?c__law_pick ?k__law_pick) (mk_fun KX G ?a__law_odd ?l__law_odd ?c__law_odd ?k__law_odd) (mk_fun KX G ?a__law_bent_pattern ?l__law_bent_pattern ?c__law_bent_pattern ?k__law_bent_pattern) (mk_fun KX G ?a__law_right ?l__law_right ?c__law_right ?k__law_right) (mk_fun KX G ?a__law_well ?l__law_well ?c__law_well ?k__law_well) (mk_fun KX G ?a_law ?l_law ?c_law ?k_law) (mk_none KX G ?b_abs) (mk_none KX G ?b_all) (mk_none KX G ?b_bool) (mk_none KX G ?b_dict) (mk_none KX G ?b_divmod) (mk_none KX G ?b_enumerate) (mk_none KX G ?b_int) (mk_none KX G ?b_isinstance) (mk_none KX G ?b_len) (mk_none KX G ?b_list) (mk_none KX G ?b_max) (mk_none KX G ?b_min) (mk_none KX G ?b_range) (mk_none KX G ?b_sorted) (mk_none KX G ?b_str) (mk_none KX G ?b_sum) (mk_none KX G ?b_tuple) (mk_cstS KX G ?c_COLOURS ?e_c_COLOURS) (mk_cstI KX G ?c_LONGEST_LISTED) (mk_cstI KX G ?c_LONGEST_PATTERN) (mk_cstI KX G ?c_LONGEST_TOLD) (mk_cstI KX G ?c_MOST_SOCKS) (mk_type KX G ?y_combinations) (mk_none KX G ?b_isinstance') (mk_ivr KX G ?r_aC ?r_aS ?r_xL ?r_sa ?r_ga ?r_gg ?r_nb ?r_a1 ?r_t1 ?r_l1 ?r_c1 ?r_kC ?r_eC ?r_tC ?r_hC ?r_eS ?r_hS ?r_tS ?r_sS ?r_cC ?r_ha ?r_hn ?r_ht ?r_hm) (mk_ivp KX G ?p_aC ?p_aS ?p_xL ?p_sa ?p_ga ?p_gg ?p_nb ?p_a1 ?p_t1 ?p_l1 ?p_c1 ?p_kC ?p_eC ?p_tC ?p_hC ?p_eS ?p_hS ?p_tS ?p_sS ?p_cC ?p_ha ?p_hn ?p_ht ?p_hm) /- x_ivr -/
    (case b_isinstance' => k_is)
    (case r_aC => first | k_is | rfl | kit_is); (case r_aS => first | k_is | rfl | kit_is); (case r_xL => first | k_is | rfl | kit_is); (case r_sa => first | k_is | rfl | kit_is); (case r_ga => first | k_is | rfl | kit_is)
    (case r_gg => first | k_is | rfl | kit_is); (case r_nb => first | k_is | rfl | kit_is); (case r_a1 => first | k_is | rfl | kit_is); (case r_t1 => first | k_is | rfl | kit_is); (case r_l1 => first | k_is | rfl | kit_is)
    (case r_c1 => first | k_is | rfl | kit_is); (case r_kC => first | k_is | rfl | kit_is); (case r_eC => first | k_is | rfl | kit_is); (case r_tC => first | k_is | rfl | kit_is); (case r_hC => first | k_is | rfl | kit_is)
    (case r_eS => first | k_is | rfl | kit_is); (case r_hS => first | k_is | rfl | kit_is); (case r_tS => first | k_is | rfl | kit_is); (case r_sS => first | k_is | rfl | kit_is); (case r_cC => first | k_is | rfl | kit_is)
    (case r_ha => first | k_is | rfl | kit_is); (case r_hn => first | k_is | rfl | kit_is); (case r_ht => first | k_is | rfl | kit_is); (case r_hm => first | k_is | rfl | kit_is)
    (case p_aC => first | k_is | rfl | kit_is); (case p_aS => first | k_is | rfl | kit_is); (case p_xL => first | k_is | rfl | kit_is); (case p_sa => first | k_is | rfl | kit_is); (case p_ga => first | k_is | rfl | kit_is)
    (case p_gg => first | k_is | rfl | kit_is); (case p_nb => first | k_is | rfl | kit_is); (case p_a1 => first | k_is | rfl | kit_is); (case p_t1 => first | k_is | rfl | kit_is); (case p_l1 => first | k_is | rfl | kit_is)
    (case p_c1 => first | k_is | rfl | kit_is); (case p_kC => first | k_is | rfl | kit_is); (case p_eC => first | k_is | rfl | kit_is); (case p_tC => first | k_is | rfl | kit_is); (case p_hC => first | k_is | rfl | kit_is)
    (case p_eS => first | k_is | rfl | kit_is); (case p_hS => first | k_is | rfl | kit_is); (case p_tS => first | k_is | rfl | kit_is); (case p_sS => first | k_is | rfl | kit_is); (case p_cC => first | k_is | rfl | kit_is)
    (case p_ha => first | k_is | rfl | kit_is); (case p_hn => first | k_is | rfl | kit_is); (case p_ht => first | k_is | rfl | kit_is); (case p_hm => first | k_is | rfl | kit_is)
    (case a__law_colours => k_is); (case l__law_colours => k_is); (case c__law_colours => k_is); (case k__law_colours => k_is)
    (case a__law_named_rows => k_is); (case l__law_named_rows => k_is); (case c__law_named_rows => k_is); (case k__law_named_rows => k_is)
    (case a__law_named => k_is); (case l__law_named => k_is); (case c__law_named => k_is); (case k__law_named => k_is)
    (case a__law_take => k_is); (case l__law_take => k_is); (case c__law_take => k_is); (case k__law_take => k_is)
    (case a__law_drawn_pattern => k_is); (case l__law_drawn_pattern => k_is); (case c__law_drawn_pattern => k_is); (case k__law_drawn_pattern => k_is)
    (case a__law_drawn_row => k_is); (case l__law_drawn_row => k_is); (case c__law_drawn_row => k_is); (case k__law_drawn_row => k_is)
    (case a__law_is_row => k_is); (case l__law_is_row => k_is); (case c__law_is_row => k_is); (case k__law_is_row => k_is)
    (case a__law_is_pattern => k_is); (case l__law_is_pattern => k_is); (case c__law_is_pattern => k_is); (case k__law_is_pattern => k_is)
    (case a__law_is => k_is); (case l__law_is => k_is); (case c__law_is => k_is); (case k__law_is => k_is)
    (case a_is_text_of => k_is); (case l_is_text_of => k_is); (case c_is_text_of => k_is); (case k_is_text_of => k_is)
    (case a_is_rowed => k_is); (case l_is_rowed => k_is); (case c_is_rowed => k_is); (case k_is_rowed => k_is)
    (case a_check_row => k_is); (case l_check_row => k_is); (case c_check_row => k_is); (case k_check_row => k_is)
    (case a_colours_by => k_is); (case l_colours_by => k_is); (case c_colours_by => k_is); (case k_colours_by => k_is)
    (case a_named_by => k_is); (case l_named_by => k_is); (case c_named_by => k_is); (case k_named_by => k_is)
    (case a_is_named => k_is); (case l_is_named => k_is); (case c_is_named => k_is); (case k_is_named => k_is)
    (case a_is_patterned => k_is); (case l_is_patterned => k_is); (case c_is_patterned => k_is); (case k_is_patterned => k_is)
    (case a_check_pattern => k_is); (case l_check_pattern => k_is); (case c_check_pattern => k_is); (case k_check_pattern => k_is)
    (case a_check_row_pattern => k_is); (case l_check_row_pattern => k_is); (case c_check_row_pattern => k_is); (case k_check_row_pattern => k_is)
    (case a_socks_at => k_is); (case l_socks_at => k_is); (case c_socks_at => k_is); (case k_socks_at => k_is)
    (case a_places_held => k_is); (case l_places_held => k_is); (case c_places_held => k_is); (case k_places_held => k_is)
    (case a_does_hold_by => k_is); (case l_does_hold_by => k_is); (case c_does_hold_by => k_is); (case k_does_hold_by => k_is)
    (case a_does_hold => k_is); (case l_does_hold => k_is); (case c_does_hold => k_is); (case k_does_hold => k_is)
    (case a_first_places_by => k_is); (case l_first_places_by => k_is); (case c_first_places_by => k_is); (case k_first_places_by => k_is)
    (case a_first_places => k_is); (case l_first_places => k_is); (case c_first_places => k_is); (case k_first_places => k_is)
    (case a_hold_count => k_is); (case l_hold_count => k_is); (case c_hold_count => k_is); (case k_hold_count => k_is)
    (case a_named => k_is); (case l_named => k_is); (case c_named => k_is); (case k_named => k_is)
    (case a_is_whole => k_is); (case l_is_whole => k_is); (case c_is_whole => k_is); (case k_is_whole => k_is)
    (case a_is_between => k_is); (case l_is_between => k_is); (case c_is_between => k_is); (case k_is_between => k_is)
    (case a_check_size => k_is); (case l_check_size => k_is); (case c_check_size => k_is); (case k_check_size => k_is)
    (case a_patterns_by => k_is); (case l_patterns_by => k_is); (case c_patterns_by => k_is); (case k_patterns_by => k_is)
    (case a_patterns_of => k_is); (case l_patterns_of => k_is); (case c_patterns_of => k_is); (case k_patterns_of => k_is)
    (case a_is_pattern => k_is); (case l_is_pattern => k_is); (case c_is_pattern => k_is); (case k_is_pattern => k_is)
    (case a_all_named => k_is); (case l_all_named => k_is); (case c_all_named => k_is); (case k_all_named => k_is)
    (case a_free_of => k_is); (case l_free_of => k_is); (case c_free_of => k_is); (case k_free_of => k_is)
    (case a_free_rows => k_is); (case l_free_rows => k_is); (case c_free_rows => k_is); (case k_free_rows => k_is)
    (case a__law_refused => k_is); (case l__law_refused => k_is); (case c__law_refused => k_is); (case k__law_refused => k_is)
    (case a__law_value_right => k_is); (case l__law_value_right => k_is); (case c__law_value_right => k_is); (case k__law_value_right => k_is)
    (case a__law_pick => k_is); (case l__law_pick => k_is); (case c__law_pick => k_is); (case k__law_pick => k_is)
    (case a__law_odd => k_is); (case l__law_odd => k_is); (case c__law_odd => k_is); (case k__law_odd => k_is)
    (case a__law_bent_pattern => k_is); (case l__law_bent_pattern => k_is); (case c__law_bent_pattern => k_is); (case k__law_bent_pattern => k_is)
    (case a__law_right => k_is); (case l__law_right => k_is); (case c__law_right => k_is); (case k__law_right => k_is)
    (case a__law_well => k_is); (case l__law_well => k_is); (case c__law_well => k_is); (case k__law_well => k_is)
    (case a_law => k_is); (case l_law => k_is); (case c_law => k_is); (case k_law => k_is)
    (case b_abs => k_is)
    (case b_all => k_is)
    (case b_bool => k_is)
    (case b_dict => k_is)
    (case b_divmod => k_is)
    (case b_enumerate => k_is)
    (case b_int => k_is)
    (case b_isinstance => k_is)
    (case b_len => k_is)
    (case b_list => k_is)
    (case b_max => k_is)
    (case b_min => k_is)
    (case b_range => k_is)
    (case b_sorted => k_is)
    (case b_str => k_is)
    (case b_sum => k_is)
    (case b_tuple => k_is)
    (case c_COLOURS => k_is); (case e_c_COLOURS => decide +kernel)
    (case c_LONGEST_LISTED => k_is)
    (case c_LONGEST_PATTERN => k_is)
    (case c_LONGEST_TOLD => k_is)
    (case c_MOST_SOCKS => k_is)
    (case y_combinations => k_is)
